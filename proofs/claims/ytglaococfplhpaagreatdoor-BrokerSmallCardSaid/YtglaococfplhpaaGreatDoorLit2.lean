/- The compact code of the program's functions, written out, and that it is what the compiler makes of them (2). -/
import Derived.Test.YtglaococfplhpaaGreatDoorEvSym
import Derived.Test.YtglaococfplhpaaGreatDoorProg
import Derived.KernelRfl
namespace Go.Ev
open Go.Proofs
set_option maxRecDepth 1000000
abbrev CL2 (n : Nat) : Type := {c : CFn // compFn Tryz.prog n = c}
def c269s : CL2 269 := ⟨_, by conv => lhs; reduce⟩
def c269 : CFn := c269s.1
theorem c269_ok : c269 = compFn Tryz.prog 269 := c269s.2.symm
def c270s : CL2 270 := ⟨_, by conv => lhs; reduce⟩
def c270 : CFn := c270s.1
theorem c270_ok : c270 = compFn Tryz.prog 270 := c270s.2.symm
def c271 : CFn := .bad 271
def c272 : CFn := .bad 272
def c273 : CFn := .bad 273
def c274 : CFn := .bad 274
def c275 : CFn := .bad 275
def c276 : CFn := .bad 276
def c277 : CFn := .bad 277
def c278 : CFn := .bad 278
def c279 : CFn := .bad 279
def c280 : CFn := .bad 280
def c281s : CL2 281 := ⟨_, by conv => lhs; reduce⟩
def c281 : CFn := c281s.1
theorem c281_ok : c281 = compFn Tryz.prog 281 := c281s.2.symm
def c282 : CFn := .bad 282
def c283 : CFn := .bad 283
def c284 : CFn := .bad 284
def c285 : CFn := .bad 285
def c286 : CFn := .bad 286
def c287 : CFn := .bad 287
def c288 : CFn := .bad 288
def c289 : CFn := .bad 289
def c290s : CL2 290 := ⟨_, by conv => lhs; reduce⟩
def c290 : CFn := c290s.1
theorem c290_ok : c290 = compFn Tryz.prog 290 := c290s.2.symm
def c291s : CL2 291 := ⟨_, by conv => lhs; reduce⟩
def c291 : CFn := c291s.1
theorem c291_ok : c291 = compFn Tryz.prog 291 := c291s.2.symm
def c292s : CL2 292 := ⟨_, by conv => lhs; reduce⟩
def c292 : CFn := c292s.1
theorem c292_ok : c292 = compFn Tryz.prog 292 := c292s.2.symm
def c293s : CL2 293 := ⟨_, by conv => lhs; reduce⟩
def c293 : CFn := c293s.1
theorem c293_ok : c293 = compFn Tryz.prog 293 := c293s.2.symm
def c294 : CFn := .bad 294
def c295s : CL2 295 := ⟨_, by conv => lhs; reduce⟩
def c295 : CFn := c295s.1
theorem c295_ok : c295 = compFn Tryz.prog 295 := c295s.2.symm
def c296s : CL2 296 := ⟨_, by conv => lhs; reduce⟩
def c296 : CFn := c296s.1
theorem c296_ok : c296 = compFn Tryz.prog 296 := c296s.2.symm
def c297s : CL2 297 := ⟨_, by conv => lhs; reduce⟩
def c297 : CFn := c297s.1
theorem c297_ok : c297 = compFn Tryz.prog 297 := c297s.2.symm
def c298s : CL2 298 := ⟨_, by conv => lhs; reduce⟩
def c298 : CFn := c298s.1
theorem c298_ok : c298 = compFn Tryz.prog 298 := c298s.2.symm
def c299s : CL2 299 := ⟨_, by conv => lhs; reduce⟩
def c299 : CFn := c299s.1
theorem c299_ok : c299 = compFn Tryz.prog 299 := c299s.2.symm
def c300s : CL2 300 := ⟨_, by conv => lhs; reduce⟩
def c300 : CFn := c300s.1
theorem c300_ok : c300 = compFn Tryz.prog 300 := c300s.2.symm
def c301s : CL2 301 := ⟨_, by conv => lhs; reduce⟩
def c301 : CFn := c301s.1
theorem c301_ok : c301 = compFn Tryz.prog 301 := c301s.2.symm
def c302 : CFn := .bad 302
def c303 : CFn := .bad 303
def c304 : CFn := .bad 304
def c305s : CL2 305 := ⟨_, by conv => lhs; reduce⟩
def c305 : CFn := c305s.1
theorem c305_ok : c305 = compFn Tryz.prog 305 := c305s.2.symm
def c306 : CFn := .bad 306
def c307 : CFn := .bad 307
def c308 : CFn := .bad 308
def c309 : CFn := .bad 309
def c310 : CFn := .bad 310
def c311 : CFn := .bad 311
def c312 : CFn := .bad 312
def c313 : CFn := .bad 313
def c314 : CFn := .bad 314
def c315s : CL2 315 := ⟨_, by conv => lhs; reduce⟩
def c315 : CFn := c315s.1
theorem c315_ok : c315 = compFn Tryz.prog 315 := c315s.2.symm
def c316s : CL2 316 := ⟨_, by conv => lhs; reduce⟩
def c316 : CFn := c316s.1
theorem c316_ok : c316 = compFn Tryz.prog 316 := c316s.2.symm
def c317s : CL2 317 := ⟨_, by conv => lhs; reduce⟩
def c317 : CFn := c317s.1
theorem c317_ok : c317 = compFn Tryz.prog 317 := c317s.2.symm
def c318s : CL2 318 := ⟨_, by conv => lhs; reduce⟩
def c318 : CFn := c318s.1
theorem c318_ok : c318 = compFn Tryz.prog 318 := c318s.2.symm
def c319s : CL2 319 := ⟨_, by conv => lhs; reduce⟩
def c319 : CFn := c319s.1
theorem c319_ok : c319 = compFn Tryz.prog 319 := c319s.2.symm
def c320s : CL2 320 := ⟨_, by conv => lhs; reduce⟩
def c320 : CFn := c320s.1
theorem c320_ok : c320 = compFn Tryz.prog 320 := c320s.2.symm
def c321s : CL2 321 := ⟨_, by conv => lhs; reduce⟩
def c321 : CFn := c321s.1
theorem c321_ok : c321 = compFn Tryz.prog 321 := c321s.2.symm
def c322s : CL2 322 := ⟨_, by conv => lhs; reduce⟩
def c322 : CFn := c322s.1
theorem c322_ok : c322 = compFn Tryz.prog 322 := c322s.2.symm
def c323s : CL2 323 := ⟨_, by conv => lhs; reduce⟩
def c323 : CFn := c323s.1
theorem c323_ok : c323 = compFn Tryz.prog 323 := c323s.2.symm
def c324 : CFn := .bad 324
def c325 : CFn := .bad 325
def c326 : CFn := .bad 326
def c327 : CFn := .bad 327
def c328 : CFn := .bad 328
def c329 : CFn := .bad 329
def c330 : CFn := .bad 330
def c331s : CL2 331 := ⟨_, by conv => lhs; reduce⟩
def c331 : CFn := c331s.1
theorem c331_ok : c331 = compFn Tryz.prog 331 := c331s.2.symm
def c332 : CFn := .bad 332
def c333 : CFn := .bad 333
def c334s : CL2 334 := ⟨_, by conv => lhs; reduce⟩
def c334 : CFn := c334s.1
theorem c334_ok : c334 = compFn Tryz.prog 334 := c334s.2.symm
def c335s : CL2 335 := ⟨_, by conv => lhs; reduce⟩
def c335 : CFn := c335s.1
theorem c335_ok : c335 = compFn Tryz.prog 335 := c335s.2.symm
def c336s : CL2 336 := ⟨_, by conv => lhs; reduce⟩
def c336 : CFn := c336s.1
theorem c336_ok : c336 = compFn Tryz.prog 336 := c336s.2.symm
def c337s : CL2 337 := ⟨_, by conv => lhs; reduce⟩
def c337 : CFn := c337s.1
theorem c337_ok : c337 = compFn Tryz.prog 337 := c337s.2.symm
def c338 : CFn := .bad 338
def c339s : CL2 339 := ⟨_, by conv => lhs; reduce⟩
def c339 : CFn := c339s.1
theorem c339_ok : c339 = compFn Tryz.prog 339 := c339s.2.symm
def c340s : CL2 340 := ⟨_, by conv => lhs; reduce⟩
def c340 : CFn := c340s.1
theorem c340_ok : c340 = compFn Tryz.prog 340 := c340s.2.symm
def c341 : CFn := .bad 341
def c342 : CFn := .bad 342
def c343 : CFn := .bad 343
def c344s : CL2 344 := ⟨_, by conv => lhs; reduce⟩
def c344 : CFn := c344s.1
theorem c344_ok : c344 = compFn Tryz.prog 344 := c344s.2.symm
def c345s : CL2 345 := ⟨_, by conv => lhs; reduce⟩
def c345 : CFn := c345s.1
theorem c345_ok : c345 = compFn Tryz.prog 345 := c345s.2.symm
def c346 : CFn := .bad 346
def c347 : CFn := .bad 347
def c348 : CFn := .bad 348
def c349 : CFn := .bad 349
def c350 : CFn := .bad 350
def c351 : CFn := .bad 351
def c352 : CFn := .bad 352
def c353 : CFn := .bad 353
def c354 : CFn := .bad 354
def c355 : CFn := .bad 355
def c356 : CFn := .bad 356
def c357 : CFn := .bad 357
def c358 : CFn := .bad 358
def c359 : CFn := .bad 359
def c360 : CFn := .bad 360
def c361 : CFn := .bad 361
def c362 : CFn := .bad 362
def c363 : CFn := .bad 363
def c364s : CL2 364 := ⟨_, by conv => lhs; reduce⟩
def c364 : CFn := c364s.1
theorem c364_ok : c364 = compFn Tryz.prog 364 := c364s.2.symm
def c365s : CL2 365 := ⟨_, by conv => lhs; reduce⟩
def c365 : CFn := c365s.1
theorem c365_ok : c365 = compFn Tryz.prog 365 := c365s.2.symm
def c366 : CFn := .bad 366
def c367 : CFn := .bad 367
def c368 : CFn := .bad 368
def c369s : CL2 369 := ⟨_, by conv => lhs; reduce⟩
def c369 : CFn := c369s.1
theorem c369_ok : c369 = compFn Tryz.prog 369 := c369s.2.symm
def c370s : CL2 370 := ⟨_, by conv => lhs; reduce⟩
def c370 : CFn := c370s.1
theorem c370_ok : c370 = compFn Tryz.prog 370 := c370s.2.symm
def c371s : CL2 371 := ⟨_, by conv => lhs; reduce⟩
def c371 : CFn := c371s.1
theorem c371_ok : c371 = compFn Tryz.prog 371 := c371s.2.symm
def c372s : CL2 372 := ⟨_, by conv => lhs; reduce⟩
def c372 : CFn := c372s.1
theorem c372_ok : c372 = compFn Tryz.prog 372 := c372s.2.symm
def c373 : CFn := .bad 373
def c374 : CFn := .bad 374
def c375 : CFn := .bad 375
def c376s : CL2 376 := ⟨_, by conv => lhs; reduce⟩
def c376 : CFn := c376s.1
theorem c376_ok : c376 = compFn Tryz.prog 376 := c376s.2.symm
def c377s : CL2 377 := ⟨_, by conv => lhs; reduce⟩
def c377 : CFn := c377s.1
theorem c377_ok : c377 = compFn Tryz.prog 377 := c377s.2.symm
def c378s : CL2 378 := ⟨_, by conv => lhs; reduce⟩
def c378 : CFn := c378s.1
theorem c378_ok : c378 = compFn Tryz.prog 378 := c378s.2.symm
def c379s : CL2 379 := ⟨_, by conv => lhs; reduce⟩
def c379 : CFn := c379s.1
theorem c379_ok : c379 = compFn Tryz.prog 379 := c379s.2.symm
def c380s : CL2 380 := ⟨_, by conv => lhs; reduce⟩
def c380 : CFn := c380s.1
theorem c380_ok : c380 = compFn Tryz.prog 380 := c380s.2.symm
def c381s : CL2 381 := ⟨_, by conv => lhs; reduce⟩
def c381 : CFn := c381s.1
theorem c381_ok : c381 = compFn Tryz.prog 381 := c381s.2.symm
def c382s : CL2 382 := ⟨_, by conv => lhs; reduce⟩
def c382 : CFn := c382s.1
theorem c382_ok : c382 = compFn Tryz.prog 382 := c382s.2.symm
def c383s : CL2 383 := ⟨_, by conv => lhs; reduce⟩
def c383 : CFn := c383s.1
theorem c383_ok : c383 = compFn Tryz.prog 383 := c383s.2.symm
def c384s : CL2 384 := ⟨_, by conv => lhs; reduce⟩
def c384 : CFn := c384s.1
theorem c384_ok : c384 = compFn Tryz.prog 384 := c384s.2.symm
def c385s : CL2 385 := ⟨_, by conv => lhs; reduce⟩
def c385 : CFn := c385s.1
theorem c385_ok : c385 = compFn Tryz.prog 385 := c385s.2.symm
def c386s : CL2 386 := ⟨_, by conv => lhs; reduce⟩
def c386 : CFn := c386s.1
theorem c386_ok : c386 = compFn Tryz.prog 386 := c386s.2.symm
def c387s : CL2 387 := ⟨_, by conv => lhs; reduce⟩
def c387 : CFn := c387s.1
theorem c387_ok : c387 = compFn Tryz.prog 387 := c387s.2.symm
def c388s : CL2 388 := ⟨_, by conv => lhs; reduce⟩
def c388 : CFn := c388s.1
theorem c388_ok : c388 = compFn Tryz.prog 388 := c388s.2.symm
def c389s : CL2 389 := ⟨_, by conv => lhs; reduce⟩
def c389 : CFn := c389s.1
theorem c389_ok : c389 = compFn Tryz.prog 389 := c389s.2.symm
def c390s : CL2 390 := ⟨_, by conv => lhs; reduce⟩
def c390 : CFn := c390s.1
theorem c390_ok : c390 = compFn Tryz.prog 390 := c390s.2.symm
def c391s : CL2 391 := ⟨_, by conv => lhs; reduce⟩
def c391 : CFn := c391s.1
theorem c391_ok : c391 = compFn Tryz.prog 391 := c391s.2.symm
def c392s : CL2 392 := ⟨_, by conv => lhs; reduce⟩
def c392 : CFn := c392s.1
theorem c392_ok : c392 = compFn Tryz.prog 392 := c392s.2.symm
def c393s : CL2 393 := ⟨_, by conv => lhs; reduce⟩
def c393 : CFn := c393s.1
theorem c393_ok : c393 = compFn Tryz.prog 393 := c393s.2.symm
def c394s : CL2 394 := ⟨_, by conv => lhs; reduce⟩
def c394 : CFn := c394s.1
theorem c394_ok : c394 = compFn Tryz.prog 394 := c394s.2.symm
def c395s : CL2 395 := ⟨_, by conv => lhs; reduce⟩
def c395 : CFn := c395s.1
theorem c395_ok : c395 = compFn Tryz.prog 395 := c395s.2.symm
def c396s : CL2 396 := ⟨_, by conv => lhs; reduce⟩
def c396 : CFn := c396s.1
theorem c396_ok : c396 = compFn Tryz.prog 396 := c396s.2.symm
def c397s : CL2 397 := ⟨_, by conv => lhs; reduce⟩
def c397 : CFn := c397s.1
theorem c397_ok : c397 = compFn Tryz.prog 397 := c397s.2.symm
def c398s : CL2 398 := ⟨_, by conv => lhs; reduce⟩
def c398 : CFn := c398s.1
theorem c398_ok : c398 = compFn Tryz.prog 398 := c398s.2.symm
def c399s : CL2 399 := ⟨_, by conv => lhs; reduce⟩
def c399 : CFn := c399s.1
theorem c399_ok : c399 = compFn Tryz.prog 399 := c399s.2.symm
def c400s : CL2 400 := ⟨_, by conv => lhs; reduce⟩
def c400 : CFn := c400s.1
theorem c400_ok : c400 = compFn Tryz.prog 400 := c400s.2.symm
def c401s : CL2 401 := ⟨_, by conv => lhs; reduce⟩
def c401 : CFn := c401s.1
theorem c401_ok : c401 = compFn Tryz.prog 401 := c401s.2.symm
def c402 : CFn := .bad 402
def c403s : CL2 403 := ⟨_, by conv => lhs; reduce⟩
def c403 : CFn := c403s.1
theorem c403_ok : c403 = compFn Tryz.prog 403 := c403s.2.symm
def c404s : CL2 404 := ⟨_, by conv => lhs; reduce⟩
def c404 : CFn := c404s.1
theorem c404_ok : c404 = compFn Tryz.prog 404 := c404s.2.symm
def c405s : CL2 405 := ⟨_, by conv => lhs; reduce⟩
def c405 : CFn := c405s.1
theorem c405_ok : c405 = compFn Tryz.prog 405 := c405s.2.symm
def c406 : CFn := .bad 406
def c407 : CFn := .bad 407
def c408 : CFn := .bad 408
def c409 : CFn := .bad 409
def c410 : CFn := .bad 410
def c411 : CFn := .bad 411
def c412 : CFn := .bad 412
def c413 : CFn := .bad 413
def c414 : CFn := .bad 414
def c415 : CFn := .bad 415
def c416s : CL2 416 := ⟨_, by conv => lhs; reduce⟩
def c416 : CFn := c416s.1
theorem c416_ok : c416 = compFn Tryz.prog 416 := c416s.2.symm
def c417s : CL2 417 := ⟨_, by conv => lhs; reduce⟩
def c417 : CFn := c417s.1
theorem c417_ok : c417 = compFn Tryz.prog 417 := c417s.2.symm
def c418s : CL2 418 := ⟨_, by conv => lhs; reduce⟩
def c418 : CFn := c418s.1
theorem c418_ok : c418 = compFn Tryz.prog 418 := c418s.2.symm
def c419 : CFn := .bad 419
def c420s : CL2 420 := ⟨_, by conv => lhs; reduce⟩
def c420 : CFn := c420s.1
theorem c420_ok : c420 = compFn Tryz.prog 420 := c420s.2.symm
def c421s : CL2 421 := ⟨_, by conv => lhs; reduce⟩
def c421 : CFn := c421s.1
theorem c421_ok : c421 = compFn Tryz.prog 421 := c421s.2.symm
def c422s : CL2 422 := ⟨_, by conv => lhs; reduce⟩
def c422 : CFn := c422s.1
theorem c422_ok : c422 = compFn Tryz.prog 422 := c422s.2.symm
def c423s : CL2 423 := ⟨_, by conv => lhs; reduce⟩
def c423 : CFn := c423s.1
theorem c423_ok : c423 = compFn Tryz.prog 423 := c423s.2.symm
def c424s : CL2 424 := ⟨_, by conv => lhs; reduce⟩
def c424 : CFn := c424s.1
theorem c424_ok : c424 = compFn Tryz.prog 424 := c424s.2.symm
def c425s : CL2 425 := ⟨_, by conv => lhs; reduce⟩
def c425 : CFn := c425s.1
theorem c425_ok : c425 = compFn Tryz.prog 425 := c425s.2.symm
def c426s : CL2 426 := ⟨_, by conv => lhs; reduce⟩
def c426 : CFn := c426s.1
theorem c426_ok : c426 = compFn Tryz.prog 426 := c426s.2.symm
def c427 : CFn := .bad 427
def c428s : CL2 428 := ⟨_, by conv => lhs; reduce⟩
def c428 : CFn := c428s.1
theorem c428_ok : c428 = compFn Tryz.prog 428 := c428s.2.symm
def c429 : CFn := .bad 429
def c430s : CL2 430 := ⟨_, by conv => lhs; reduce⟩
def c430 : CFn := c430s.1
theorem c430_ok : c430 = compFn Tryz.prog 430 := c430s.2.symm
def c431 : CFn := .bad 431
def c432s : CL2 432 := ⟨_, by conv => lhs; reduce⟩
def c432 : CFn := c432s.1
theorem c432_ok : c432 = compFn Tryz.prog 432 := c432s.2.symm
def c433s : CL2 433 := ⟨_, by conv => lhs; reduce⟩
def c433 : CFn := c433s.1
theorem c433_ok : c433 = compFn Tryz.prog 433 := c433s.2.symm
def c434s : CL2 434 := ⟨_, by conv => lhs; reduce⟩
def c434 : CFn := c434s.1
theorem c434_ok : c434 = compFn Tryz.prog 434 := c434s.2.symm
def c435s : CL2 435 := ⟨_, by conv => lhs; reduce⟩
def c435 : CFn := c435s.1
theorem c435_ok : c435 = compFn Tryz.prog 435 := c435s.2.symm
def c436s : CL2 436 := ⟨_, by conv => lhs; reduce⟩
def c436 : CFn := c436s.1
theorem c436_ok : c436 = compFn Tryz.prog 436 := c436s.2.symm
def c437s : CL2 437 := ⟨_, by conv => lhs; reduce⟩
def c437 : CFn := c437s.1
theorem c437_ok : c437 = compFn Tryz.prog 437 := c437s.2.symm
def c438s : CL2 438 := ⟨_, by conv => lhs; reduce⟩
def c438 : CFn := c438s.1
theorem c438_ok : c438 = compFn Tryz.prog 438 := c438s.2.symm
def c439s : CL2 439 := ⟨_, by conv => lhs; reduce⟩
def c439 : CFn := c439s.1
theorem c439_ok : c439 = compFn Tryz.prog 439 := c439s.2.symm
def c440 : CFn := .bad 440
def c441 : CFn := .bad 441
def c442 : CFn := .bad 442
def c443 : CFn := .bad 443
def c444s : CL2 444 := ⟨_, by conv => lhs; reduce⟩
def c444 : CFn := c444s.1
theorem c444_ok : c444 = compFn Tryz.prog 444 := c444s.2.symm
def c445s : CL2 445 := ⟨_, by conv => lhs; reduce⟩
def c445 : CFn := c445s.1
theorem c445_ok : c445 = compFn Tryz.prog 445 := c445s.2.symm
def c446s : CL2 446 := ⟨_, by conv => lhs; reduce⟩
def c446 : CFn := c446s.1
theorem c446_ok : c446 = compFn Tryz.prog 446 := c446s.2.symm
def c447s : CL2 447 := ⟨_, by conv => lhs; reduce⟩
def c447 : CFn := c447s.1
theorem c447_ok : c447 = compFn Tryz.prog 447 := c447s.2.symm
def c448s : CL2 448 := ⟨_, by conv => lhs; reduce⟩
def c448 : CFn := c448s.1
theorem c448_ok : c448 = compFn Tryz.prog 448 := c448s.2.symm
def c449 : CFn := .bad 449
def c450 : CFn := .bad 450
def c451s : CL2 451 := ⟨_, by conv => lhs; reduce⟩
def c451 : CFn := c451s.1
theorem c451_ok : c451 = compFn Tryz.prog 451 := c451s.2.symm
def c452 : CFn := .bad 452
def c453s : CL2 453 := ⟨_, by conv => lhs; reduce⟩
def c453 : CFn := c453s.1
theorem c453_ok : c453 = compFn Tryz.prog 453 := c453s.2.symm
def c454 : CFn := .bad 454
def c455 : CFn := .bad 455
def c456 : CFn := .bad 456
def c457 : CFn := .bad 457
def c458 : CFn := .bad 458
def c459 : CFn := .bad 459
def c460 : CFn := .bad 460
def c461 : CFn := .bad 461
def c462 : CFn := .bad 462
def c463 : CFn := .bad 463
def c464 : CFn := .bad 464
def c465 : CFn := .bad 465
def c466 : CFn := .bad 466
def c467 : CFn := .bad 467
def c468 : CFn := .bad 468
def c469 : CFn := .bad 469
def c470 : CFn := .bad 470
def c471 : CFn := .bad 471
def c472 : CFn := .bad 472
def c473 : CFn := .bad 473
def c474 : CFn := .bad 474
def c475 : CFn := .bad 475
def c476 : CFn := .bad 476
def c477 : CFn := .bad 477
def c478 : CFn := .bad 478
def c479 : CFn := .bad 479
def c480 : CFn := .bad 480
end Go.Ev
