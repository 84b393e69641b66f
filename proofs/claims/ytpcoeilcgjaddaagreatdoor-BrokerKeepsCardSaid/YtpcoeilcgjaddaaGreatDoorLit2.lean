/- The compact code of the program's functions, written out, and that it is what the compiler makes of them (2). -/
import Derived.Test.YtpcoeilcgjaddaaGreatDoorEvSym
import Derived.Test.YtpcoeilcgjaddaaGreatDoorProg
import Derived.KernelRfl
namespace Go.Ev
open Go.Proofs
set_option maxRecDepth 1000000
set_option maxHeartbeats 8000000
abbrev CL2 (n : Nat) : Type := {c : CFn // compFn Tryz.prog n = c}
def c272s : CL2 272 := ⟨_, by conv => lhs; reduce⟩
def c272 : CFn := c272s.1
theorem c272_ok : c272 = compFn Tryz.prog 272 := c272s.2.symm
def c273s : CL2 273 := ⟨_, by conv => lhs; reduce⟩
def c273 : CFn := c273s.1
theorem c273_ok : c273 = compFn Tryz.prog 273 := c273s.2.symm
def c274s : CL2 274 := ⟨_, by conv => lhs; reduce⟩
def c274 : CFn := c274s.1
theorem c274_ok : c274 = compFn Tryz.prog 274 := c274s.2.symm
def c275s : CL2 275 := ⟨_, by conv => lhs; reduce⟩
def c275 : CFn := c275s.1
theorem c275_ok : c275 = compFn Tryz.prog 275 := c275s.2.symm
def c276s : CL2 276 := ⟨_, by conv => lhs; reduce⟩
def c276 : CFn := c276s.1
theorem c276_ok : c276 = compFn Tryz.prog 276 := c276s.2.symm
def c277s : CL2 277 := ⟨_, by conv => lhs; reduce⟩
def c277 : CFn := c277s.1
theorem c277_ok : c277 = compFn Tryz.prog 277 := c277s.2.symm
def c278s : CL2 278 := ⟨_, by conv => lhs; reduce⟩
def c278 : CFn := c278s.1
theorem c278_ok : c278 = compFn Tryz.prog 278 := c278s.2.symm
def c279 : CFn := .bad 279
def c280 : CFn := .bad 280
def c281 : CFn := .bad 281
def c282 : CFn := .bad 282
def c283 : CFn := .bad 283
def c284 : CFn := .bad 284
def c285 : CFn := .bad 285
def c286 : CFn := .bad 286
def c287 : CFn := .bad 287
def c288 : CFn := .bad 288
def c289s : CL2 289 := ⟨_, by conv => lhs; reduce⟩
def c289 : CFn := c289s.1
theorem c289_ok : c289 = compFn Tryz.prog 289 := c289s.2.symm
def c290 : CFn := .bad 290
def c291 : CFn := .bad 291
def c292 : CFn := .bad 292
def c293 : CFn := .bad 293
def c294 : CFn := .bad 294
def c295 : CFn := .bad 295
def c296 : CFn := .bad 296
def c297 : CFn := .bad 297
def c298s : CL2 298 := ⟨_, by conv => lhs; reduce⟩
def c298 : CFn := c298s.1
theorem c298_ok : c298 = compFn Tryz.prog 298 := c298s.2.symm
def c299s : CL2 299 := ⟨_, by conv => lhs; reduce⟩
def c299 : CFn := c299s.1
theorem c299_ok : c299 = compFn Tryz.prog 299 := c299s.2.symm
def c300s : CL2 300 := ⟨_, by conv => lhs; reduce⟩
def c300 : CFn := c300s.1
theorem c300_ok : c300 = compFn Tryz.prog 300 := c300s.2.symm
def c301s : CL2 301 := ⟨_, by conv => lhs; reduce⟩
def c301 : CFn := c301s.1
theorem c301_ok : c301 = compFn Tryz.prog 301 := c301s.2.symm
def c302 : CFn := .bad 302
def c303 : CFn := .bad 303
def c304s : CL2 304 := ⟨_, by conv => lhs; reduce⟩
def c304 : CFn := c304s.1
theorem c304_ok : c304 = compFn Tryz.prog 304 := c304s.2.symm
def c305s : CL2 305 := ⟨_, by conv => lhs; reduce⟩
def c305 : CFn := c305s.1
theorem c305_ok : c305 = compFn Tryz.prog 305 := c305s.2.symm
def c306s : CL2 306 := ⟨_, by conv => lhs; reduce⟩
def c306 : CFn := c306s.1
theorem c306_ok : c306 = compFn Tryz.prog 306 := c306s.2.symm
def c307s : CL2 307 := ⟨_, by conv => lhs; reduce⟩
def c307 : CFn := c307s.1
theorem c307_ok : c307 = compFn Tryz.prog 307 := c307s.2.symm
def c308s : CL2 308 := ⟨_, by conv => lhs; reduce⟩
def c308 : CFn := c308s.1
theorem c308_ok : c308 = compFn Tryz.prog 308 := c308s.2.symm
def c309s : CL2 309 := ⟨_, by conv => lhs; reduce⟩
def c309 : CFn := c309s.1
theorem c309_ok : c309 = compFn Tryz.prog 309 := c309s.2.symm
def c310 : CFn := .bad 310
def c311 : CFn := .bad 311
def c312 : CFn := .bad 312
def c313s : CL2 313 := ⟨_, by conv => lhs; reduce⟩
def c313 : CFn := c313s.1
theorem c313_ok : c313 = compFn Tryz.prog 313 := c313s.2.symm
def c314s : CL2 314 := ⟨_, by conv => lhs; reduce⟩
def c314 : CFn := c314s.1
theorem c314_ok : c314 = compFn Tryz.prog 314 := c314s.2.symm
def c315 : CFn := .bad 315
def c316 : CFn := .bad 316
def c317 : CFn := .bad 317
def c318s : CL2 318 := ⟨_, by conv => lhs; reduce⟩
def c318 : CFn := c318s.1
theorem c318_ok : c318 = compFn Tryz.prog 318 := c318s.2.symm
def c319 : CFn := .bad 319
def c320 : CFn := .bad 320
def c321 : CFn := .bad 321
def c322 : CFn := .bad 322
def c323s : CL2 323 := ⟨_, by conv => lhs; reduce⟩
def c323 : CFn := c323s.1
theorem c323_ok : c323 = compFn Tryz.prog 323 := c323s.2.symm
def c324s : CL2 324 := ⟨_, by conv => lhs; reduce⟩
def c324 : CFn := c324s.1
theorem c324_ok : c324 = compFn Tryz.prog 324 := c324s.2.symm
def c325s : CL2 325 := ⟨_, by conv => lhs; reduce⟩
def c325 : CFn := c325s.1
theorem c325_ok : c325 = compFn Tryz.prog 325 := c325s.2.symm
def c326s : CL2 326 := ⟨_, by conv => lhs; reduce⟩
def c326 : CFn := c326s.1
theorem c326_ok : c326 = compFn Tryz.prog 326 := c326s.2.symm
def c327s : CL2 327 := ⟨_, by conv => lhs; reduce⟩
def c327 : CFn := c327s.1
theorem c327_ok : c327 = compFn Tryz.prog 327 := c327s.2.symm
def c328s : CL2 328 := ⟨_, by conv => lhs; reduce⟩
def c328 : CFn := c328s.1
theorem c328_ok : c328 = compFn Tryz.prog 328 := c328s.2.symm
def c329s : CL2 329 := ⟨_, by conv => lhs; reduce⟩
def c329 : CFn := c329s.1
theorem c329_ok : c329 = compFn Tryz.prog 329 := c329s.2.symm
def c330s : CL2 330 := ⟨_, by conv => lhs; reduce⟩
def c330 : CFn := c330s.1
theorem c330_ok : c330 = compFn Tryz.prog 330 := c330s.2.symm
def c331s : CL2 331 := ⟨_, by conv => lhs; reduce⟩
def c331 : CFn := c331s.1
theorem c331_ok : c331 = compFn Tryz.prog 331 := c331s.2.symm
def c332 : CFn := .bad 332
def c333 : CFn := .bad 333
def c334 : CFn := .bad 334
def c335 : CFn := .bad 335
def c336 : CFn := .bad 336
def c337 : CFn := .bad 337
def c338 : CFn := .bad 338
def c339s : CL2 339 := ⟨_, by conv => lhs; reduce⟩
def c339 : CFn := c339s.1
theorem c339_ok : c339 = compFn Tryz.prog 339 := c339s.2.symm
def c340 : CFn := .bad 340
def c341 : CFn := .bad 341
def c342s : CL2 342 := ⟨_, by conv => lhs; reduce⟩
def c342 : CFn := c342s.1
theorem c342_ok : c342 = compFn Tryz.prog 342 := c342s.2.symm
def c343s : CL2 343 := ⟨_, by conv => lhs; reduce⟩
def c343 : CFn := c343s.1
theorem c343_ok : c343 = compFn Tryz.prog 343 := c343s.2.symm
def c344s : CL2 344 := ⟨_, by conv => lhs; reduce⟩
def c344 : CFn := c344s.1
theorem c344_ok : c344 = compFn Tryz.prog 344 := c344s.2.symm
def c345s : CL2 345 := ⟨_, by conv => lhs; reduce⟩
def c345 : CFn := c345s.1
theorem c345_ok : c345 = compFn Tryz.prog 345 := c345s.2.symm
def c346 : CFn := .bad 346
def c347s : CL2 347 := ⟨_, by conv => lhs; reduce⟩
def c347 : CFn := c347s.1
theorem c347_ok : c347 = compFn Tryz.prog 347 := c347s.2.symm
def c348s : CL2 348 := ⟨_, by conv => lhs; reduce⟩
def c348 : CFn := c348s.1
theorem c348_ok : c348 = compFn Tryz.prog 348 := c348s.2.symm
def c349 : CFn := .bad 349
def c350 : CFn := .bad 350
def c351 : CFn := .bad 351
def c352s : CL2 352 := ⟨_, by conv => lhs; reduce⟩
def c352 : CFn := c352s.1
theorem c352_ok : c352 = compFn Tryz.prog 352 := c352s.2.symm
def c353s : CL2 353 := ⟨_, by conv => lhs; reduce⟩
def c353 : CFn := c353s.1
theorem c353_ok : c353 = compFn Tryz.prog 353 := c353s.2.symm
def c354 : CFn := .bad 354
def c355 : CFn := .bad 355
def c356 : CFn := .bad 356
def c357 : CFn := .bad 357
def c358 : CFn := .bad 358
def c359 : CFn := .bad 359
def c360 : CFn := .bad 360
def c361 : CFn := .bad 361
def c362 : CFn := .bad 362
def c363 : CFn := .bad 363
def c364 : CFn := .bad 364
def c365 : CFn := .bad 365
def c366 : CFn := .bad 366
def c367 : CFn := .bad 367
def c368 : CFn := .bad 368
def c369 : CFn := .bad 369
def c370 : CFn := .bad 370
def c371 : CFn := .bad 371
def c372s : CL2 372 := ⟨_, by conv => lhs; reduce⟩
def c372 : CFn := c372s.1
theorem c372_ok : c372 = compFn Tryz.prog 372 := c372s.2.symm
def c373s : CL2 373 := ⟨_, by conv => lhs; reduce⟩
def c373 : CFn := c373s.1
theorem c373_ok : c373 = compFn Tryz.prog 373 := c373s.2.symm
def c374 : CFn := .bad 374
def c375 : CFn := .bad 375
def c376 : CFn := .bad 376
def c377s : CL2 377 := ⟨_, by conv => lhs; reduce⟩
def c377 : CFn := c377s.1
theorem c377_ok : c377 = compFn Tryz.prog 377 := c377s.2.symm
def c378s : CL2 378 := ⟨_, by conv => lhs; reduce⟩
def c378 : CFn := c378s.1
theorem c378_ok : c378 = compFn Tryz.prog 378 := c378s.2.symm
def c379s : CL2 379 := ⟨_, by conv => lhs; reduce⟩
def c379 : CFn := c379s.1
theorem c379_ok : c379 = compFn Tryz.prog 379 := c379s.2.symm
def c380s : CL2 380 := ⟨_, by conv => lhs; reduce⟩
def c380 : CFn := c380s.1
theorem c380_ok : c380 = compFn Tryz.prog 380 := c380s.2.symm
def c381 : CFn := .bad 381
def c382 : CFn := .bad 382
def c383 : CFn := .bad 383
def c384s : CL2 384 := ⟨_, by conv => lhs; reduce⟩
def c384 : CFn := c384s.1
theorem c384_ok : c384 = compFn Tryz.prog 384 := c384s.2.symm
def c385s : CL2 385 := ⟨_, by conv => lhs; reduce⟩
def c385 : CFn := c385s.1
theorem c385_ok : c385 = compFn Tryz.prog 385 := c385s.2.symm
def c386s : CL2 386 := ⟨_, by conv => lhs; reduce⟩
def c386 : CFn := c386s.1
theorem c386_ok : c386 = compFn Tryz.prog 386 := c386s.2.symm
def c387s : CL2 387 := ⟨_, by conv => lhs; reduce⟩
def c387 : CFn := c387s.1
theorem c387_ok : c387 = compFn Tryz.prog 387 := c387s.2.symm
def c388s : CL2 388 := ⟨_, by conv => lhs; reduce⟩
def c388 : CFn := c388s.1
theorem c388_ok : c388 = compFn Tryz.prog 388 := c388s.2.symm
def c389s : CL2 389 := ⟨_, by conv => lhs; reduce⟩
def c389 : CFn := c389s.1
theorem c389_ok : c389 = compFn Tryz.prog 389 := c389s.2.symm
def c390s : CL2 390 := ⟨_, by conv => lhs; reduce⟩
def c390 : CFn := c390s.1
theorem c390_ok : c390 = compFn Tryz.prog 390 := c390s.2.symm
def c391s : CL2 391 := ⟨_, by conv => lhs; reduce⟩
def c391 : CFn := c391s.1
theorem c391_ok : c391 = compFn Tryz.prog 391 := c391s.2.symm
def c392s : CL2 392 := ⟨_, by conv => lhs; reduce⟩
def c392 : CFn := c392s.1
theorem c392_ok : c392 = compFn Tryz.prog 392 := c392s.2.symm
def c393s : CL2 393 := ⟨_, by conv => lhs; reduce⟩
def c393 : CFn := c393s.1
theorem c393_ok : c393 = compFn Tryz.prog 393 := c393s.2.symm
def c394s : CL2 394 := ⟨_, by conv => lhs; reduce⟩
def c394 : CFn := c394s.1
theorem c394_ok : c394 = compFn Tryz.prog 394 := c394s.2.symm
def c395s : CL2 395 := ⟨_, by conv => lhs; reduce⟩
def c395 : CFn := c395s.1
theorem c395_ok : c395 = compFn Tryz.prog 395 := c395s.2.symm
def c396s : CL2 396 := ⟨_, by conv => lhs; reduce⟩
def c396 : CFn := c396s.1
theorem c396_ok : c396 = compFn Tryz.prog 396 := c396s.2.symm
def c397s : CL2 397 := ⟨_, by conv => lhs; reduce⟩
def c397 : CFn := c397s.1
theorem c397_ok : c397 = compFn Tryz.prog 397 := c397s.2.symm
def c398s : CL2 398 := ⟨_, by conv => lhs; reduce⟩
def c398 : CFn := c398s.1
theorem c398_ok : c398 = compFn Tryz.prog 398 := c398s.2.symm
def c399s : CL2 399 := ⟨_, by conv => lhs; reduce⟩
def c399 : CFn := c399s.1
theorem c399_ok : c399 = compFn Tryz.prog 399 := c399s.2.symm
def c400s : CL2 400 := ⟨_, by conv => lhs; reduce⟩
def c400 : CFn := c400s.1
theorem c400_ok : c400 = compFn Tryz.prog 400 := c400s.2.symm
def c401s : CL2 401 := ⟨_, by conv => lhs; reduce⟩
def c401 : CFn := c401s.1
theorem c401_ok : c401 = compFn Tryz.prog 401 := c401s.2.symm
def c402s : CL2 402 := ⟨_, by conv => lhs; reduce⟩
def c402 : CFn := c402s.1
theorem c402_ok : c402 = compFn Tryz.prog 402 := c402s.2.symm
def c403s : CL2 403 := ⟨_, by conv => lhs; reduce⟩
def c403 : CFn := c403s.1
theorem c403_ok : c403 = compFn Tryz.prog 403 := c403s.2.symm
def c404s : CL2 404 := ⟨_, by conv => lhs; reduce⟩
def c404 : CFn := c404s.1
theorem c404_ok : c404 = compFn Tryz.prog 404 := c404s.2.symm
def c405s : CL2 405 := ⟨_, by conv => lhs; reduce⟩
def c405 : CFn := c405s.1
theorem c405_ok : c405 = compFn Tryz.prog 405 := c405s.2.symm
def c406s : CL2 406 := ⟨_, by conv => lhs; reduce⟩
def c406 : CFn := c406s.1
theorem c406_ok : c406 = compFn Tryz.prog 406 := c406s.2.symm
def c407s : CL2 407 := ⟨_, by conv => lhs; reduce⟩
def c407 : CFn := c407s.1
theorem c407_ok : c407 = compFn Tryz.prog 407 := c407s.2.symm
def c408s : CL2 408 := ⟨_, by conv => lhs; reduce⟩
def c408 : CFn := c408s.1
theorem c408_ok : c408 = compFn Tryz.prog 408 := c408s.2.symm
def c409s : CL2 409 := ⟨_, by conv => lhs; reduce⟩
def c409 : CFn := c409s.1
theorem c409_ok : c409 = compFn Tryz.prog 409 := c409s.2.symm
def c410 : CFn := .bad 410
def c411s : CL2 411 := ⟨_, by conv => lhs; reduce⟩
def c411 : CFn := c411s.1
theorem c411_ok : c411 = compFn Tryz.prog 411 := c411s.2.symm
def c412s : CL2 412 := ⟨_, by conv => lhs; reduce⟩
def c412 : CFn := c412s.1
theorem c412_ok : c412 = compFn Tryz.prog 412 := c412s.2.symm
def c413s : CL2 413 := ⟨_, by conv => lhs; reduce⟩
def c413 : CFn := c413s.1
theorem c413_ok : c413 = compFn Tryz.prog 413 := c413s.2.symm
def c414 : CFn := .bad 414
def c415 : CFn := .bad 415
def c416 : CFn := .bad 416
def c417 : CFn := .bad 417
def c418 : CFn := .bad 418
def c419 : CFn := .bad 419
def c420 : CFn := .bad 420
def c421 : CFn := .bad 421
def c422 : CFn := .bad 422
def c423 : CFn := .bad 423
def c424s : CL2 424 := ⟨_, by conv => lhs; reduce⟩
def c424 : CFn := c424s.1
theorem c424_ok : c424 = compFn Tryz.prog 424 := c424s.2.symm
def c425s : CL2 425 := ⟨_, by conv => lhs; reduce⟩
def c425 : CFn := c425s.1
theorem c425_ok : c425 = compFn Tryz.prog 425 := c425s.2.symm
def c426s : CL2 426 := ⟨_, by conv => lhs; reduce⟩
def c426 : CFn := c426s.1
theorem c426_ok : c426 = compFn Tryz.prog 426 := c426s.2.symm
def c427 : CFn := .bad 427
def c428s : CL2 428 := ⟨_, by conv => lhs; reduce⟩
def c428 : CFn := c428s.1
theorem c428_ok : c428 = compFn Tryz.prog 428 := c428s.2.symm
def c429s : CL2 429 := ⟨_, by conv => lhs; reduce⟩
def c429 : CFn := c429s.1
theorem c429_ok : c429 = compFn Tryz.prog 429 := c429s.2.symm
def c430s : CL2 430 := ⟨_, by conv => lhs; reduce⟩
def c430 : CFn := c430s.1
theorem c430_ok : c430 = compFn Tryz.prog 430 := c430s.2.symm
def c431 : CFn := .bad 431
def c432 : CFn := .bad 432
def c433s : CL2 433 := ⟨_, by conv => lhs; reduce⟩
def c433 : CFn := c433s.1
theorem c433_ok : c433 = compFn Tryz.prog 433 := c433s.2.symm
def c434s : CL2 434 := ⟨_, by conv => lhs; reduce⟩
def c434 : CFn := c434s.1
theorem c434_ok : c434 = compFn Tryz.prog 434 := c434s.2.symm
def c435 : CFn := .bad 435
def c436s : CL2 436 := ⟨_, by conv => lhs; reduce⟩
def c436 : CFn := c436s.1
theorem c436_ok : c436 = compFn Tryz.prog 436 := c436s.2.symm
def c437 : CFn := .bad 437
def c438s : CL2 438 := ⟨_, by conv => lhs; reduce⟩
def c438 : CFn := c438s.1
theorem c438_ok : c438 = compFn Tryz.prog 438 := c438s.2.symm
def c439 : CFn := .bad 439
def c440s : CL2 440 := ⟨_, by conv => lhs; reduce⟩
def c440 : CFn := c440s.1
theorem c440_ok : c440 = compFn Tryz.prog 440 := c440s.2.symm
def c441 : CFn := .bad 441
def c442s : CL2 442 := ⟨_, by conv => lhs; reduce⟩
def c442 : CFn := c442s.1
theorem c442_ok : c442 = compFn Tryz.prog 442 := c442s.2.symm
def c443 : CFn := .bad 443
def c444s : CL2 444 := ⟨_, by conv => lhs; reduce⟩
def c444 : CFn := c444s.1
theorem c444_ok : c444 = compFn Tryz.prog 444 := c444s.2.symm
def c445s : CL2 445 := ⟨_, by conv => lhs; reduce⟩
def c445 : CFn := c445s.1
theorem c445_ok : c445 = compFn Tryz.prog 445 := c445s.2.symm
def c446s : CL2 446 := ⟨_, by conv => lhs; reduce⟩
def c446 : CFn := c446s.1
theorem c446_ok : c446 = compFn Tryz.prog 446 := c446s.2.symm
def c447s : CL2 447 := ⟨_, by conv => lhs; reduce⟩
def c447 : CFn := c447s.1
theorem c447_ok : c447 = compFn Tryz.prog 447 := c447s.2.symm
def c448 : CFn := .bad 448
def c449 : CFn := .bad 449
def c450 : CFn := .bad 450
def c451 : CFn := .bad 451
def c452s : CL2 452 := ⟨_, by conv => lhs; reduce⟩
def c452 : CFn := c452s.1
theorem c452_ok : c452 = compFn Tryz.prog 452 := c452s.2.symm
def c453 : CFn := .bad 453
def c454 : CFn := .bad 454
def c455s : CL2 455 := ⟨_, by conv => lhs; reduce⟩
def c455 : CFn := c455s.1
theorem c455_ok : c455 = compFn Tryz.prog 455 := c455s.2.symm
def c456s : CL2 456 := ⟨_, by conv => lhs; reduce⟩
def c456 : CFn := c456s.1
theorem c456_ok : c456 = compFn Tryz.prog 456 := c456s.2.symm
def c457 : CFn := .bad 457
def c458s : CL2 458 := ⟨_, by conv => lhs; reduce⟩
def c458 : CFn := c458s.1
theorem c458_ok : c458 = compFn Tryz.prog 458 := c458s.2.symm
def c459s : CL2 459 := ⟨_, by conv => lhs; reduce⟩
def c459 : CFn := c459s.1
theorem c459_ok : c459 = compFn Tryz.prog 459 := c459s.2.symm
def c460 : CFn := .bad 460
def c461s : CL2 461 := ⟨_, by conv => lhs; reduce⟩
def c461 : CFn := c461s.1
theorem c461_ok : c461 = compFn Tryz.prog 461 := c461s.2.symm
def c462 : CFn := .bad 462
def c463s : CL2 463 := ⟨_, by conv => lhs; reduce⟩
def c463 : CFn := c463s.1
theorem c463_ok : c463 = compFn Tryz.prog 463 := c463s.2.symm
def c464 : CFn := .bad 464
def c465 : CFn := .bad 465
def c466 : CFn := .bad 466
def c467 : CFn := .bad 467
def c468 : CFn := .bad 468
def c469 : CFn := .bad 469
def c470 : CFn := .bad 470
def c471 : CFn := .bad 471
def c472 : CFn := .bad 472
def c473 : CFn := .bad 473
def c474 : CFn := .bad 474
def c475 : CFn := .bad 475
def c476 : CFn := .bad 476
def c477 : CFn := .bad 477
def c478 : CFn := .bad 478
def c479 : CFn := .bad 479
def c480 : CFn := .bad 480
def c481 : CFn := .bad 481
def c482 : CFn := .bad 482
def c483 : CFn := .bad 483
def c484 : CFn := .bad 484
def c485 : CFn := .bad 485
def c486 : CFn := .bad 486
def c487 : CFn := .bad 487
def c488 : CFn := .bad 488
end Go.Ev
