/- The compact code of the program's functions, written out, and that it is what the compiler makes of them (2). -/
import Derived.Test.YtaimebepiomgcaaGreatDoorEvSym
import Derived.Test.YtaimebepiomgcaaGreatDoorProg
import Derived.KernelRfl
namespace Go.Ev
open Go.Proofs
set_option maxRecDepth 1000000
set_option maxHeartbeats 8000000
abbrev CL2 (n : Nat) : Type := {c : CFn // compFn Tryz.prog n = c}
def c266s : CL2 266 := ⟨_, by conv => lhs; reduce⟩
def c266 : CFn := c266s.1
theorem c266_ok : c266 = compFn Tryz.prog 266 := c266s.2.symm
def c267s : CL2 267 := ⟨_, by conv => lhs; reduce⟩
def c267 : CFn := c267s.1
theorem c267_ok : c267 = compFn Tryz.prog 267 := c267s.2.symm
def c268 : CFn := .bad 268
def c269 : CFn := .bad 269
def c270 : CFn := .bad 270
def c271 : CFn := .bad 271
def c272 : CFn := .bad 272
def c273 : CFn := .bad 273
def c274 : CFn := .bad 274
def c275 : CFn := .bad 275
def c276 : CFn := .bad 276
def c277 : CFn := .bad 277
def c278s : CL2 278 := ⟨_, by conv => lhs; reduce⟩
def c278 : CFn := c278s.1
theorem c278_ok : c278 = compFn Tryz.prog 278 := c278s.2.symm
def c279 : CFn := .bad 279
def c280 : CFn := .bad 280
def c281 : CFn := .bad 281
def c282 : CFn := .bad 282
def c283 : CFn := .bad 283
def c284 : CFn := .bad 284
def c285 : CFn := .bad 285
def c286 : CFn := .bad 286
def c287s : CL2 287 := ⟨_, by conv => lhs; reduce⟩
def c287 : CFn := c287s.1
theorem c287_ok : c287 = compFn Tryz.prog 287 := c287s.2.symm
def c288s : CL2 288 := ⟨_, by conv => lhs; reduce⟩
def c288 : CFn := c288s.1
theorem c288_ok : c288 = compFn Tryz.prog 288 := c288s.2.symm
def c289s : CL2 289 := ⟨_, by conv => lhs; reduce⟩
def c289 : CFn := c289s.1
theorem c289_ok : c289 = compFn Tryz.prog 289 := c289s.2.symm
def c290s : CL2 290 := ⟨_, by conv => lhs; reduce⟩
def c290 : CFn := c290s.1
theorem c290_ok : c290 = compFn Tryz.prog 290 := c290s.2.symm
def c291 : CFn := .bad 291
def c292 : CFn := .bad 292
def c293s : CL2 293 := ⟨_, by conv => lhs; reduce⟩
def c293 : CFn := c293s.1
theorem c293_ok : c293 = compFn Tryz.prog 293 := c293s.2.symm
def c294s : CL2 294 := ⟨_, by conv => lhs; reduce⟩
def c294 : CFn := c294s.1
theorem c294_ok : c294 = compFn Tryz.prog 294 := c294s.2.symm
def c295s : CL2 295 := ⟨_, by conv => lhs; reduce⟩
def c295 : CFn := c295s.1
theorem c295_ok : c295 = compFn Tryz.prog 295 := c295s.2.symm
def c296s : CL2 296 := ⟨_, by conv => lhs; reduce⟩
def c296 : CFn := c296s.1
theorem c296_ok : c296 = compFn Tryz.prog 296 := c296s.2.symm
def c297s : CL2 297 := ⟨_, by conv => lhs; reduce⟩
def c297 : CFn := c297s.1
theorem c297_ok : c297 = compFn Tryz.prog 297 := c297s.2.symm
def c298s : CL2 298 := ⟨_, by conv => lhs; reduce⟩
def c298 : CFn := c298s.1
theorem c298_ok : c298 = compFn Tryz.prog 298 := c298s.2.symm
def c299 : CFn := .bad 299
def c300 : CFn := .bad 300
def c301 : CFn := .bad 301
def c302s : CL2 302 := ⟨_, by conv => lhs; reduce⟩
def c302 : CFn := c302s.1
theorem c302_ok : c302 = compFn Tryz.prog 302 := c302s.2.symm
def c303s : CL2 303 := ⟨_, by conv => lhs; reduce⟩
def c303 : CFn := c303s.1
theorem c303_ok : c303 = compFn Tryz.prog 303 := c303s.2.symm
def c304 : CFn := .bad 304
def c305 : CFn := .bad 305
def c306 : CFn := .bad 306
def c307s : CL2 307 := ⟨_, by conv => lhs; reduce⟩
def c307 : CFn := c307s.1
theorem c307_ok : c307 = compFn Tryz.prog 307 := c307s.2.symm
def c308 : CFn := .bad 308
def c309 : CFn := .bad 309
def c310 : CFn := .bad 310
def c311 : CFn := .bad 311
def c312s : CL2 312 := ⟨_, by conv => lhs; reduce⟩
def c312 : CFn := c312s.1
theorem c312_ok : c312 = compFn Tryz.prog 312 := c312s.2.symm
def c313s : CL2 313 := ⟨_, by conv => lhs; reduce⟩
def c313 : CFn := c313s.1
theorem c313_ok : c313 = compFn Tryz.prog 313 := c313s.2.symm
def c314s : CL2 314 := ⟨_, by conv => lhs; reduce⟩
def c314 : CFn := c314s.1
theorem c314_ok : c314 = compFn Tryz.prog 314 := c314s.2.symm
def c315s : CL2 315 := ⟨_, by conv => lhs; reduce⟩
def c315 : CFn := c315s.1
theorem c315_ok : c315 = compFn Tryz.prog 315 := c315s.2.symm
def c316s : CL2 316 := ⟨_, by conv => lhs; reduce⟩
def c316 : CFn := c316s.1
theorem c316_ok : c316 = compFn Tryz.prog 316 := c316s.2.symm
def c317s : CL2 317 := ⟨_, by conv => lhs; reduce⟩
def c317 : CFn := c317s.1
theorem c317_ok : c317 = compFn Tryz.prog 317 := c317s.2.symm
def c318s : CL2 318 := ⟨_, by conv => lhs; reduce⟩
def c318 : CFn := c318s.1
theorem c318_ok : c318 = compFn Tryz.prog 318 := c318s.2.symm
def c319s : CL2 319 := ⟨_, by conv => lhs; reduce⟩
def c319 : CFn := c319s.1
theorem c319_ok : c319 = compFn Tryz.prog 319 := c319s.2.symm
def c320s : CL2 320 := ⟨_, by conv => lhs; reduce⟩
def c320 : CFn := c320s.1
theorem c320_ok : c320 = compFn Tryz.prog 320 := c320s.2.symm
def c321 : CFn := .bad 321
def c322 : CFn := .bad 322
def c323 : CFn := .bad 323
def c324 : CFn := .bad 324
def c325 : CFn := .bad 325
def c326 : CFn := .bad 326
def c327 : CFn := .bad 327
def c328s : CL2 328 := ⟨_, by conv => lhs; reduce⟩
def c328 : CFn := c328s.1
theorem c328_ok : c328 = compFn Tryz.prog 328 := c328s.2.symm
def c329 : CFn := .bad 329
def c330 : CFn := .bad 330
def c331s : CL2 331 := ⟨_, by conv => lhs; reduce⟩
def c331 : CFn := c331s.1
theorem c331_ok : c331 = compFn Tryz.prog 331 := c331s.2.symm
def c332s : CL2 332 := ⟨_, by conv => lhs; reduce⟩
def c332 : CFn := c332s.1
theorem c332_ok : c332 = compFn Tryz.prog 332 := c332s.2.symm
def c333s : CL2 333 := ⟨_, by conv => lhs; reduce⟩
def c333 : CFn := c333s.1
theorem c333_ok : c333 = compFn Tryz.prog 333 := c333s.2.symm
def c334s : CL2 334 := ⟨_, by conv => lhs; reduce⟩
def c334 : CFn := c334s.1
theorem c334_ok : c334 = compFn Tryz.prog 334 := c334s.2.symm
def c335 : CFn := .bad 335
def c336s : CL2 336 := ⟨_, by conv => lhs; reduce⟩
def c336 : CFn := c336s.1
theorem c336_ok : c336 = compFn Tryz.prog 336 := c336s.2.symm
def c337s : CL2 337 := ⟨_, by conv => lhs; reduce⟩
def c337 : CFn := c337s.1
theorem c337_ok : c337 = compFn Tryz.prog 337 := c337s.2.symm
def c338 : CFn := .bad 338
def c339 : CFn := .bad 339
def c340 : CFn := .bad 340
def c341s : CL2 341 := ⟨_, by conv => lhs; reduce⟩
def c341 : CFn := c341s.1
theorem c341_ok : c341 = compFn Tryz.prog 341 := c341s.2.symm
def c342s : CL2 342 := ⟨_, by conv => lhs; reduce⟩
def c342 : CFn := c342s.1
theorem c342_ok : c342 = compFn Tryz.prog 342 := c342s.2.symm
def c343 : CFn := .bad 343
def c344 : CFn := .bad 344
def c345 : CFn := .bad 345
def c346 : CFn := .bad 346
def c347 : CFn := .bad 347
def c348 : CFn := .bad 348
def c349 : CFn := .bad 349
def c350 : CFn := .bad 350
def c351 : CFn := .bad 351
def c352 : CFn := .bad 352
def c353 : CFn := .bad 353
def c354 : CFn := .bad 354
def c355 : CFn := .bad 355
def c356 : CFn := .bad 356
def c357 : CFn := .bad 357
def c358 : CFn := .bad 358
def c359 : CFn := .bad 359
def c360 : CFn := .bad 360
def c361 : CFn := .bad 361
def c362s : CL2 362 := ⟨_, by conv => lhs; reduce⟩
def c362 : CFn := c362s.1
theorem c362_ok : c362 = compFn Tryz.prog 362 := c362s.2.symm
def c363s : CL2 363 := ⟨_, by conv => lhs; reduce⟩
def c363 : CFn := c363s.1
theorem c363_ok : c363 = compFn Tryz.prog 363 := c363s.2.symm
def c364 : CFn := .bad 364
def c365 : CFn := .bad 365
def c366 : CFn := .bad 366
def c367s : CL2 367 := ⟨_, by conv => lhs; reduce⟩
def c367 : CFn := c367s.1
theorem c367_ok : c367 = compFn Tryz.prog 367 := c367s.2.symm
def c368s : CL2 368 := ⟨_, by conv => lhs; reduce⟩
def c368 : CFn := c368s.1
theorem c368_ok : c368 = compFn Tryz.prog 368 := c368s.2.symm
def c369s : CL2 369 := ⟨_, by conv => lhs; reduce⟩
def c369 : CFn := c369s.1
theorem c369_ok : c369 = compFn Tryz.prog 369 := c369s.2.symm
def c370s : CL2 370 := ⟨_, by conv => lhs; reduce⟩
def c370 : CFn := c370s.1
theorem c370_ok : c370 = compFn Tryz.prog 370 := c370s.2.symm
def c371 : CFn := .bad 371
def c372 : CFn := .bad 372
def c373 : CFn := .bad 373
def c374s : CL2 374 := ⟨_, by conv => lhs; reduce⟩
def c374 : CFn := c374s.1
theorem c374_ok : c374 = compFn Tryz.prog 374 := c374s.2.symm
def c375s : CL2 375 := ⟨_, by conv => lhs; reduce⟩
def c375 : CFn := c375s.1
theorem c375_ok : c375 = compFn Tryz.prog 375 := c375s.2.symm
def c376s : CL2 376 := ⟨_, by conv => lhs; reduce⟩
def c376 : CFn := c376s.1
theorem c376_ok : c376 = compFn Tryz.prog 376 := c376s.2.symm
def c377s : CL2 377 := ⟨_, by conv => lhs; reduce⟩
def c377 : CFn := c377s.1
theorem c377_ok : c377 = compFn Tryz.prog 377 := c377s.2.symm
def c378s : CL2 378 := ⟨_, by conv => lhs; reduce⟩
def c378 : CFn := c378s.1
theorem c378_ok : c378 = compFn Tryz.prog 378 := c378s.2.symm
def c379s : CL2 379 := ⟨_, by conv => lhs; reduce⟩
def c379 : CFn := c379s.1
theorem c379_ok : c379 = compFn Tryz.prog 379 := c379s.2.symm
def c380s : CL2 380 := ⟨_, by conv => lhs; reduce⟩
def c380 : CFn := c380s.1
theorem c380_ok : c380 = compFn Tryz.prog 380 := c380s.2.symm
def c381s : CL2 381 := ⟨_, by conv => lhs; reduce⟩
def c381 : CFn := c381s.1
theorem c381_ok : c381 = compFn Tryz.prog 381 := c381s.2.symm
def c382s : CL2 382 := ⟨_, by conv => lhs; reduce⟩
def c382 : CFn := c382s.1
theorem c382_ok : c382 = compFn Tryz.prog 382 := c382s.2.symm
def c383s : CL2 383 := ⟨_, by conv => lhs; reduce⟩
def c383 : CFn := c383s.1
theorem c383_ok : c383 = compFn Tryz.prog 383 := c383s.2.symm
def c384s : CL2 384 := ⟨_, by conv => lhs; reduce⟩
def c384 : CFn := c384s.1
theorem c384_ok : c384 = compFn Tryz.prog 384 := c384s.2.symm
def c385s : CL2 385 := ⟨_, by conv => lhs; reduce⟩
def c385 : CFn := c385s.1
theorem c385_ok : c385 = compFn Tryz.prog 385 := c385s.2.symm
def c386s : CL2 386 := ⟨_, by conv => lhs; reduce⟩
def c386 : CFn := c386s.1
theorem c386_ok : c386 = compFn Tryz.prog 386 := c386s.2.symm
def c387s : CL2 387 := ⟨_, by conv => lhs; reduce⟩
def c387 : CFn := c387s.1
theorem c387_ok : c387 = compFn Tryz.prog 387 := c387s.2.symm
def c388s : CL2 388 := ⟨_, by conv => lhs; reduce⟩
def c388 : CFn := c388s.1
theorem c388_ok : c388 = compFn Tryz.prog 388 := c388s.2.symm
def c389s : CL2 389 := ⟨_, by conv => lhs; reduce⟩
def c389 : CFn := c389s.1
theorem c389_ok : c389 = compFn Tryz.prog 389 := c389s.2.symm
def c390s : CL2 390 := ⟨_, by conv => lhs; reduce⟩
def c390 : CFn := c390s.1
theorem c390_ok : c390 = compFn Tryz.prog 390 := c390s.2.symm
def c391s : CL2 391 := ⟨_, by conv => lhs; reduce⟩
def c391 : CFn := c391s.1
theorem c391_ok : c391 = compFn Tryz.prog 391 := c391s.2.symm
def c392s : CL2 392 := ⟨_, by conv => lhs; reduce⟩
def c392 : CFn := c392s.1
theorem c392_ok : c392 = compFn Tryz.prog 392 := c392s.2.symm
def c393s : CL2 393 := ⟨_, by conv => lhs; reduce⟩
def c393 : CFn := c393s.1
theorem c393_ok : c393 = compFn Tryz.prog 393 := c393s.2.symm
def c394s : CL2 394 := ⟨_, by conv => lhs; reduce⟩
def c394 : CFn := c394s.1
theorem c394_ok : c394 = compFn Tryz.prog 394 := c394s.2.symm
def c395s : CL2 395 := ⟨_, by conv => lhs; reduce⟩
def c395 : CFn := c395s.1
theorem c395_ok : c395 = compFn Tryz.prog 395 := c395s.2.symm
def c396s : CL2 396 := ⟨_, by conv => lhs; reduce⟩
def c396 : CFn := c396s.1
theorem c396_ok : c396 = compFn Tryz.prog 396 := c396s.2.symm
def c397s : CL2 397 := ⟨_, by conv => lhs; reduce⟩
def c397 : CFn := c397s.1
theorem c397_ok : c397 = compFn Tryz.prog 397 := c397s.2.symm
def c398s : CL2 398 := ⟨_, by conv => lhs; reduce⟩
def c398 : CFn := c398s.1
theorem c398_ok : c398 = compFn Tryz.prog 398 := c398s.2.symm
def c399s : CL2 399 := ⟨_, by conv => lhs; reduce⟩
def c399 : CFn := c399s.1
theorem c399_ok : c399 = compFn Tryz.prog 399 := c399s.2.symm
def c400 : CFn := .bad 400
def c401s : CL2 401 := ⟨_, by conv => lhs; reduce⟩
def c401 : CFn := c401s.1
theorem c401_ok : c401 = compFn Tryz.prog 401 := c401s.2.symm
def c402s : CL2 402 := ⟨_, by conv => lhs; reduce⟩
def c402 : CFn := c402s.1
theorem c402_ok : c402 = compFn Tryz.prog 402 := c402s.2.symm
def c403s : CL2 403 := ⟨_, by conv => lhs; reduce⟩
def c403 : CFn := c403s.1
theorem c403_ok : c403 = compFn Tryz.prog 403 := c403s.2.symm
def c404 : CFn := .bad 404
def c405 : CFn := .bad 405
def c406 : CFn := .bad 406
def c407 : CFn := .bad 407
def c408 : CFn := .bad 408
def c409 : CFn := .bad 409
def c410 : CFn := .bad 410
def c411 : CFn := .bad 411
def c412 : CFn := .bad 412
def c413 : CFn := .bad 413
def c414s : CL2 414 := ⟨_, by conv => lhs; reduce⟩
def c414 : CFn := c414s.1
theorem c414_ok : c414 = compFn Tryz.prog 414 := c414s.2.symm
def c415s : CL2 415 := ⟨_, by conv => lhs; reduce⟩
def c415 : CFn := c415s.1
theorem c415_ok : c415 = compFn Tryz.prog 415 := c415s.2.symm
def c416s : CL2 416 := ⟨_, by conv => lhs; reduce⟩
def c416 : CFn := c416s.1
theorem c416_ok : c416 = compFn Tryz.prog 416 := c416s.2.symm
def c417 : CFn := .bad 417
def c418s : CL2 418 := ⟨_, by conv => lhs; reduce⟩
def c418 : CFn := c418s.1
theorem c418_ok : c418 = compFn Tryz.prog 418 := c418s.2.symm
def c419s : CL2 419 := ⟨_, by conv => lhs; reduce⟩
def c419 : CFn := c419s.1
theorem c419_ok : c419 = compFn Tryz.prog 419 := c419s.2.symm
def c420s : CL2 420 := ⟨_, by conv => lhs; reduce⟩
def c420 : CFn := c420s.1
theorem c420_ok : c420 = compFn Tryz.prog 420 := c420s.2.symm
def c421 : CFn := .bad 421
def c422 : CFn := .bad 422
def c423s : CL2 423 := ⟨_, by conv => lhs; reduce⟩
def c423 : CFn := c423s.1
theorem c423_ok : c423 = compFn Tryz.prog 423 := c423s.2.symm
def c424s : CL2 424 := ⟨_, by conv => lhs; reduce⟩
def c424 : CFn := c424s.1
theorem c424_ok : c424 = compFn Tryz.prog 424 := c424s.2.symm
def c425 : CFn := .bad 425
def c426s : CL2 426 := ⟨_, by conv => lhs; reduce⟩
def c426 : CFn := c426s.1
theorem c426_ok : c426 = compFn Tryz.prog 426 := c426s.2.symm
def c427 : CFn := .bad 427
def c428s : CL2 428 := ⟨_, by conv => lhs; reduce⟩
def c428 : CFn := c428s.1
theorem c428_ok : c428 = compFn Tryz.prog 428 := c428s.2.symm
def c429 : CFn := .bad 429
def c430s : CL2 430 := ⟨_, by conv => lhs; reduce⟩
def c430 : CFn := c430s.1
theorem c430_ok : c430 = compFn Tryz.prog 430 := c430s.2.symm
def c431 : CFn := .bad 431
def c432s : CL2 432 := ⟨_, by conv => lhs; reduce⟩
def c432 : CFn := c432s.1
theorem c432_ok : c432 = compFn Tryz.prog 432 := c432s.2.symm
def c433 : CFn := .bad 433
def c434s : CL2 434 := ⟨_, by conv => lhs; reduce⟩
def c434 : CFn := c434s.1
theorem c434_ok : c434 = compFn Tryz.prog 434 := c434s.2.symm
def c435s : CL2 435 := ⟨_, by conv => lhs; reduce⟩
def c435 : CFn := c435s.1
theorem c435_ok : c435 = compFn Tryz.prog 435 := c435s.2.symm
def c436s : CL2 436 := ⟨_, by conv => lhs; reduce⟩
def c436 : CFn := c436s.1
theorem c436_ok : c436 = compFn Tryz.prog 436 := c436s.2.symm
def c437s : CL2 437 := ⟨_, by conv => lhs; reduce⟩
def c437 : CFn := c437s.1
theorem c437_ok : c437 = compFn Tryz.prog 437 := c437s.2.symm
def c438 : CFn := .bad 438
def c439 : CFn := .bad 439
def c440 : CFn := .bad 440
def c441 : CFn := .bad 441
def c442s : CL2 442 := ⟨_, by conv => lhs; reduce⟩
def c442 : CFn := c442s.1
theorem c442_ok : c442 = compFn Tryz.prog 442 := c442s.2.symm
def c443 : CFn := .bad 443
def c444 : CFn := .bad 444
def c445s : CL2 445 := ⟨_, by conv => lhs; reduce⟩
def c445 : CFn := c445s.1
theorem c445_ok : c445 = compFn Tryz.prog 445 := c445s.2.symm
def c446s : CL2 446 := ⟨_, by conv => lhs; reduce⟩
def c446 : CFn := c446s.1
theorem c446_ok : c446 = compFn Tryz.prog 446 := c446s.2.symm
def c447 : CFn := .bad 447
def c448 : CFn := .bad 448
def c449s : CL2 449 := ⟨_, by conv => lhs; reduce⟩
def c449 : CFn := c449s.1
theorem c449_ok : c449 = compFn Tryz.prog 449 := c449s.2.symm
def c450 : CFn := .bad 450
def c451s : CL2 451 := ⟨_, by conv => lhs; reduce⟩
def c451 : CFn := c451s.1
theorem c451_ok : c451 = compFn Tryz.prog 451 := c451s.2.symm
def c452 : CFn := .bad 452
def c453 : CFn := .bad 453
def c454 : CFn := .bad 454
def c455 : CFn := .bad 455
def c456 : CFn := .bad 456
def c457 : CFn := .bad 457
def c458 : CFn := .bad 458
def c459 : CFn := .bad 459
def c460 : CFn := .bad 460
def c461 : CFn := .bad 461
def c462 : CFn := .bad 462
def c463 : CFn := .bad 463
def c464 : CFn := .bad 464
def c465 : CFn := .bad 465
def c466 : CFn := .bad 466
def c467 : CFn := .bad 467
def c468 : CFn := .bad 468
def c469 : CFn := .bad 469
def c470 : CFn := .bad 470
def c471 : CFn := .bad 471
def c472 : CFn := .bad 472
def c473 : CFn := .bad 473
def c474 : CFn := .bad 474
def c475 : CFn := .bad 475
def c476 : CFn := .bad 476
def c477 : CFn := .bad 477
def c478 : CFn := .bad 478
end Go.Ev
