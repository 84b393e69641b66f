/- The compact code of the program's functions, written out, and that it is what the compiler makes of them (2). -/
import Derived.Test.YtilghajadoibgaaGreatDoorEvSym
import Derived.Test.YtilghajadoibgaaGreatDoorProg
import Derived.KernelRfl
namespace Go.Ev
open Go.Proofs
set_option maxRecDepth 1000000
set_option maxHeartbeats 8000000
abbrev CL2 (n : Nat) : Type := {c : CFn // compFn Tryz.prog n = c}
def c266s : CL2 266 := ⟨_, by conv => lhs; reduce⟩
def c266 : CFn := c266s.1
theorem c266_ok : c266 = compFn Tryz.prog 266 := c266s.2.symm
def c267s : CL2 267 := ⟨_, by conv => lhs; reduce⟩
def c267 : CFn := c267s.1
theorem c267_ok : c267 = compFn Tryz.prog 267 := c267s.2.symm
def c268s : CL2 268 := ⟨_, by conv => lhs; reduce⟩
def c268 : CFn := c268s.1
theorem c268_ok : c268 = compFn Tryz.prog 268 := c268s.2.symm
def c269s : CL2 269 := ⟨_, by conv => lhs; reduce⟩
def c269 : CFn := c269s.1
theorem c269_ok : c269 = compFn Tryz.prog 269 := c269s.2.symm
def c270s : CL2 270 := ⟨_, by conv => lhs; reduce⟩
def c270 : CFn := c270s.1
theorem c270_ok : c270 = compFn Tryz.prog 270 := c270s.2.symm
def c271s : CL2 271 := ⟨_, by conv => lhs; reduce⟩
def c271 : CFn := c271s.1
theorem c271_ok : c271 = compFn Tryz.prog 271 := c271s.2.symm
def c272 : CFn := .bad 272
def c273 : CFn := .bad 273
def c274 : CFn := .bad 274
def c275 : CFn := .bad 275
def c276 : CFn := .bad 276
def c277 : CFn := .bad 277
def c278 : CFn := .bad 278
def c279 : CFn := .bad 279
def c280 : CFn := .bad 280
def c281 : CFn := .bad 281
def c282s : CL2 282 := ⟨_, by conv => lhs; reduce⟩
def c282 : CFn := c282s.1
theorem c282_ok : c282 = compFn Tryz.prog 282 := c282s.2.symm
def c283 : CFn := .bad 283
def c284 : CFn := .bad 284
def c285 : CFn := .bad 285
def c286 : CFn := .bad 286
def c287 : CFn := .bad 287
def c288 : CFn := .bad 288
def c289 : CFn := .bad 289
def c290 : CFn := .bad 290
def c291s : CL2 291 := ⟨_, by conv => lhs; reduce⟩
def c291 : CFn := c291s.1
theorem c291_ok : c291 = compFn Tryz.prog 291 := c291s.2.symm
def c292s : CL2 292 := ⟨_, by conv => lhs; reduce⟩
def c292 : CFn := c292s.1
theorem c292_ok : c292 = compFn Tryz.prog 292 := c292s.2.symm
def c293s : CL2 293 := ⟨_, by conv => lhs; reduce⟩
def c293 : CFn := c293s.1
theorem c293_ok : c293 = compFn Tryz.prog 293 := c293s.2.symm
def c294s : CL2 294 := ⟨_, by conv => lhs; reduce⟩
def c294 : CFn := c294s.1
theorem c294_ok : c294 = compFn Tryz.prog 294 := c294s.2.symm
def c295 : CFn := .bad 295
def c296 : CFn := .bad 296
def c297s : CL2 297 := ⟨_, by conv => lhs; reduce⟩
def c297 : CFn := c297s.1
theorem c297_ok : c297 = compFn Tryz.prog 297 := c297s.2.symm
def c298s : CL2 298 := ⟨_, by conv => lhs; reduce⟩
def c298 : CFn := c298s.1
theorem c298_ok : c298 = compFn Tryz.prog 298 := c298s.2.symm
def c299s : CL2 299 := ⟨_, by conv => lhs; reduce⟩
def c299 : CFn := c299s.1
theorem c299_ok : c299 = compFn Tryz.prog 299 := c299s.2.symm
def c300s : CL2 300 := ⟨_, by conv => lhs; reduce⟩
def c300 : CFn := c300s.1
theorem c300_ok : c300 = compFn Tryz.prog 300 := c300s.2.symm
def c301s : CL2 301 := ⟨_, by conv => lhs; reduce⟩
def c301 : CFn := c301s.1
theorem c301_ok : c301 = compFn Tryz.prog 301 := c301s.2.symm
def c302s : CL2 302 := ⟨_, by conv => lhs; reduce⟩
def c302 : CFn := c302s.1
theorem c302_ok : c302 = compFn Tryz.prog 302 := c302s.2.symm
def c303 : CFn := .bad 303
def c304 : CFn := .bad 304
def c305 : CFn := .bad 305
def c306s : CL2 306 := ⟨_, by conv => lhs; reduce⟩
def c306 : CFn := c306s.1
theorem c306_ok : c306 = compFn Tryz.prog 306 := c306s.2.symm
def c307 : CFn := .bad 307
def c308 : CFn := .bad 308
def c309 : CFn := .bad 309
def c310 : CFn := .bad 310
def c311 : CFn := .bad 311
def c312 : CFn := .bad 312
def c313 : CFn := .bad 313
def c314 : CFn := .bad 314
def c315 : CFn := .bad 315
def c316s : CL2 316 := ⟨_, by conv => lhs; reduce⟩
def c316 : CFn := c316s.1
theorem c316_ok : c316 = compFn Tryz.prog 316 := c316s.2.symm
def c317s : CL2 317 := ⟨_, by conv => lhs; reduce⟩
def c317 : CFn := c317s.1
theorem c317_ok : c317 = compFn Tryz.prog 317 := c317s.2.symm
def c318s : CL2 318 := ⟨_, by conv => lhs; reduce⟩
def c318 : CFn := c318s.1
theorem c318_ok : c318 = compFn Tryz.prog 318 := c318s.2.symm
def c319s : CL2 319 := ⟨_, by conv => lhs; reduce⟩
def c319 : CFn := c319s.1
theorem c319_ok : c319 = compFn Tryz.prog 319 := c319s.2.symm
def c320s : CL2 320 := ⟨_, by conv => lhs; reduce⟩
def c320 : CFn := c320s.1
theorem c320_ok : c320 = compFn Tryz.prog 320 := c320s.2.symm
def c321s : CL2 321 := ⟨_, by conv => lhs; reduce⟩
def c321 : CFn := c321s.1
theorem c321_ok : c321 = compFn Tryz.prog 321 := c321s.2.symm
def c322s : CL2 322 := ⟨_, by conv => lhs; reduce⟩
def c322 : CFn := c322s.1
theorem c322_ok : c322 = compFn Tryz.prog 322 := c322s.2.symm
def c323s : CL2 323 := ⟨_, by conv => lhs; reduce⟩
def c323 : CFn := c323s.1
theorem c323_ok : c323 = compFn Tryz.prog 323 := c323s.2.symm
def c324s : CL2 324 := ⟨_, by conv => lhs; reduce⟩
def c324 : CFn := c324s.1
theorem c324_ok : c324 = compFn Tryz.prog 324 := c324s.2.symm
def c325 : CFn := .bad 325
def c326 : CFn := .bad 326
def c327 : CFn := .bad 327
def c328 : CFn := .bad 328
def c329 : CFn := .bad 329
def c330 : CFn := .bad 330
def c331 : CFn := .bad 331
def c332s : CL2 332 := ⟨_, by conv => lhs; reduce⟩
def c332 : CFn := c332s.1
theorem c332_ok : c332 = compFn Tryz.prog 332 := c332s.2.symm
def c333 : CFn := .bad 333
def c334 : CFn := .bad 334
def c335s : CL2 335 := ⟨_, by conv => lhs; reduce⟩
def c335 : CFn := c335s.1
theorem c335_ok : c335 = compFn Tryz.prog 335 := c335s.2.symm
def c336s : CL2 336 := ⟨_, by conv => lhs; reduce⟩
def c336 : CFn := c336s.1
theorem c336_ok : c336 = compFn Tryz.prog 336 := c336s.2.symm
def c337s : CL2 337 := ⟨_, by conv => lhs; reduce⟩
def c337 : CFn := c337s.1
theorem c337_ok : c337 = compFn Tryz.prog 337 := c337s.2.symm
def c338s : CL2 338 := ⟨_, by conv => lhs; reduce⟩
def c338 : CFn := c338s.1
theorem c338_ok : c338 = compFn Tryz.prog 338 := c338s.2.symm
def c339 : CFn := .bad 339
def c340s : CL2 340 := ⟨_, by conv => lhs; reduce⟩
def c340 : CFn := c340s.1
theorem c340_ok : c340 = compFn Tryz.prog 340 := c340s.2.symm
def c341s : CL2 341 := ⟨_, by conv => lhs; reduce⟩
def c341 : CFn := c341s.1
theorem c341_ok : c341 = compFn Tryz.prog 341 := c341s.2.symm
def c342 : CFn := .bad 342
def c343 : CFn := .bad 343
def c344 : CFn := .bad 344
def c345s : CL2 345 := ⟨_, by conv => lhs; reduce⟩
def c345 : CFn := c345s.1
theorem c345_ok : c345 = compFn Tryz.prog 345 := c345s.2.symm
def c346s : CL2 346 := ⟨_, by conv => lhs; reduce⟩
def c346 : CFn := c346s.1
theorem c346_ok : c346 = compFn Tryz.prog 346 := c346s.2.symm
def c347 : CFn := .bad 347
def c348 : CFn := .bad 348
def c349 : CFn := .bad 349
def c350 : CFn := .bad 350
def c351 : CFn := .bad 351
def c352 : CFn := .bad 352
def c353 : CFn := .bad 353
def c354 : CFn := .bad 354
def c355 : CFn := .bad 355
def c356 : CFn := .bad 356
def c357 : CFn := .bad 357
def c358 : CFn := .bad 358
def c359 : CFn := .bad 359
def c360 : CFn := .bad 360
def c361 : CFn := .bad 361
def c362 : CFn := .bad 362
def c363 : CFn := .bad 363
def c364 : CFn := .bad 364
def c365s : CL2 365 := ⟨_, by conv => lhs; reduce⟩
def c365 : CFn := c365s.1
theorem c365_ok : c365 = compFn Tryz.prog 365 := c365s.2.symm
def c366s : CL2 366 := ⟨_, by conv => lhs; reduce⟩
def c366 : CFn := c366s.1
theorem c366_ok : c366 = compFn Tryz.prog 366 := c366s.2.symm
def c367 : CFn := .bad 367
def c368 : CFn := .bad 368
def c369 : CFn := .bad 369
def c370s : CL2 370 := ⟨_, by conv => lhs; reduce⟩
def c370 : CFn := c370s.1
theorem c370_ok : c370 = compFn Tryz.prog 370 := c370s.2.symm
def c371s : CL2 371 := ⟨_, by conv => lhs; reduce⟩
def c371 : CFn := c371s.1
theorem c371_ok : c371 = compFn Tryz.prog 371 := c371s.2.symm
def c372s : CL2 372 := ⟨_, by conv => lhs; reduce⟩
def c372 : CFn := c372s.1
theorem c372_ok : c372 = compFn Tryz.prog 372 := c372s.2.symm
def c373s : CL2 373 := ⟨_, by conv => lhs; reduce⟩
def c373 : CFn := c373s.1
theorem c373_ok : c373 = compFn Tryz.prog 373 := c373s.2.symm
def c374 : CFn := .bad 374
def c375 : CFn := .bad 375
def c376 : CFn := .bad 376
def c377s : CL2 377 := ⟨_, by conv => lhs; reduce⟩
def c377 : CFn := c377s.1
theorem c377_ok : c377 = compFn Tryz.prog 377 := c377s.2.symm
def c378s : CL2 378 := ⟨_, by conv => lhs; reduce⟩
def c378 : CFn := c378s.1
theorem c378_ok : c378 = compFn Tryz.prog 378 := c378s.2.symm
def c379s : CL2 379 := ⟨_, by conv => lhs; reduce⟩
def c379 : CFn := c379s.1
theorem c379_ok : c379 = compFn Tryz.prog 379 := c379s.2.symm
def c380s : CL2 380 := ⟨_, by conv => lhs; reduce⟩
def c380 : CFn := c380s.1
theorem c380_ok : c380 = compFn Tryz.prog 380 := c380s.2.symm
def c381s : CL2 381 := ⟨_, by conv => lhs; reduce⟩
def c381 : CFn := c381s.1
theorem c381_ok : c381 = compFn Tryz.prog 381 := c381s.2.symm
def c382s : CL2 382 := ⟨_, by conv => lhs; reduce⟩
def c382 : CFn := c382s.1
theorem c382_ok : c382 = compFn Tryz.prog 382 := c382s.2.symm
def c383s : CL2 383 := ⟨_, by conv => lhs; reduce⟩
def c383 : CFn := c383s.1
theorem c383_ok : c383 = compFn Tryz.prog 383 := c383s.2.symm
def c384s : CL2 384 := ⟨_, by conv => lhs; reduce⟩
def c384 : CFn := c384s.1
theorem c384_ok : c384 = compFn Tryz.prog 384 := c384s.2.symm
def c385s : CL2 385 := ⟨_, by conv => lhs; reduce⟩
def c385 : CFn := c385s.1
theorem c385_ok : c385 = compFn Tryz.prog 385 := c385s.2.symm
def c386s : CL2 386 := ⟨_, by conv => lhs; reduce⟩
def c386 : CFn := c386s.1
theorem c386_ok : c386 = compFn Tryz.prog 386 := c386s.2.symm
def c387s : CL2 387 := ⟨_, by conv => lhs; reduce⟩
def c387 : CFn := c387s.1
theorem c387_ok : c387 = compFn Tryz.prog 387 := c387s.2.symm
def c388s : CL2 388 := ⟨_, by conv => lhs; reduce⟩
def c388 : CFn := c388s.1
theorem c388_ok : c388 = compFn Tryz.prog 388 := c388s.2.symm
def c389s : CL2 389 := ⟨_, by conv => lhs; reduce⟩
def c389 : CFn := c389s.1
theorem c389_ok : c389 = compFn Tryz.prog 389 := c389s.2.symm
def c390s : CL2 390 := ⟨_, by conv => lhs; reduce⟩
def c390 : CFn := c390s.1
theorem c390_ok : c390 = compFn Tryz.prog 390 := c390s.2.symm
def c391s : CL2 391 := ⟨_, by conv => lhs; reduce⟩
def c391 : CFn := c391s.1
theorem c391_ok : c391 = compFn Tryz.prog 391 := c391s.2.symm
def c392s : CL2 392 := ⟨_, by conv => lhs; reduce⟩
def c392 : CFn := c392s.1
theorem c392_ok : c392 = compFn Tryz.prog 392 := c392s.2.symm
def c393s : CL2 393 := ⟨_, by conv => lhs; reduce⟩
def c393 : CFn := c393s.1
theorem c393_ok : c393 = compFn Tryz.prog 393 := c393s.2.symm
def c394s : CL2 394 := ⟨_, by conv => lhs; reduce⟩
def c394 : CFn := c394s.1
theorem c394_ok : c394 = compFn Tryz.prog 394 := c394s.2.symm
def c395s : CL2 395 := ⟨_, by conv => lhs; reduce⟩
def c395 : CFn := c395s.1
theorem c395_ok : c395 = compFn Tryz.prog 395 := c395s.2.symm
def c396s : CL2 396 := ⟨_, by conv => lhs; reduce⟩
def c396 : CFn := c396s.1
theorem c396_ok : c396 = compFn Tryz.prog 396 := c396s.2.symm
def c397s : CL2 397 := ⟨_, by conv => lhs; reduce⟩
def c397 : CFn := c397s.1
theorem c397_ok : c397 = compFn Tryz.prog 397 := c397s.2.symm
def c398s : CL2 398 := ⟨_, by conv => lhs; reduce⟩
def c398 : CFn := c398s.1
theorem c398_ok : c398 = compFn Tryz.prog 398 := c398s.2.symm
def c399s : CL2 399 := ⟨_, by conv => lhs; reduce⟩
def c399 : CFn := c399s.1
theorem c399_ok : c399 = compFn Tryz.prog 399 := c399s.2.symm
def c400s : CL2 400 := ⟨_, by conv => lhs; reduce⟩
def c400 : CFn := c400s.1
theorem c400_ok : c400 = compFn Tryz.prog 400 := c400s.2.symm
def c401s : CL2 401 := ⟨_, by conv => lhs; reduce⟩
def c401 : CFn := c401s.1
theorem c401_ok : c401 = compFn Tryz.prog 401 := c401s.2.symm
def c402s : CL2 402 := ⟨_, by conv => lhs; reduce⟩
def c402 : CFn := c402s.1
theorem c402_ok : c402 = compFn Tryz.prog 402 := c402s.2.symm
def c403 : CFn := .bad 403
def c404s : CL2 404 := ⟨_, by conv => lhs; reduce⟩
def c404 : CFn := c404s.1
theorem c404_ok : c404 = compFn Tryz.prog 404 := c404s.2.symm
def c405s : CL2 405 := ⟨_, by conv => lhs; reduce⟩
def c405 : CFn := c405s.1
theorem c405_ok : c405 = compFn Tryz.prog 405 := c405s.2.symm
def c406s : CL2 406 := ⟨_, by conv => lhs; reduce⟩
def c406 : CFn := c406s.1
theorem c406_ok : c406 = compFn Tryz.prog 406 := c406s.2.symm
def c407 : CFn := .bad 407
def c408 : CFn := .bad 408
def c409 : CFn := .bad 409
def c410 : CFn := .bad 410
def c411 : CFn := .bad 411
def c412 : CFn := .bad 412
def c413 : CFn := .bad 413
def c414 : CFn := .bad 414
def c415 : CFn := .bad 415
def c416 : CFn := .bad 416
def c417s : CL2 417 := ⟨_, by conv => lhs; reduce⟩
def c417 : CFn := c417s.1
theorem c417_ok : c417 = compFn Tryz.prog 417 := c417s.2.symm
def c418s : CL2 418 := ⟨_, by conv => lhs; reduce⟩
def c418 : CFn := c418s.1
theorem c418_ok : c418 = compFn Tryz.prog 418 := c418s.2.symm
def c419s : CL2 419 := ⟨_, by conv => lhs; reduce⟩
def c419 : CFn := c419s.1
theorem c419_ok : c419 = compFn Tryz.prog 419 := c419s.2.symm
def c420 : CFn := .bad 420
def c421s : CL2 421 := ⟨_, by conv => lhs; reduce⟩
def c421 : CFn := c421s.1
theorem c421_ok : c421 = compFn Tryz.prog 421 := c421s.2.symm
def c422s : CL2 422 := ⟨_, by conv => lhs; reduce⟩
def c422 : CFn := c422s.1
theorem c422_ok : c422 = compFn Tryz.prog 422 := c422s.2.symm
def c423s : CL2 423 := ⟨_, by conv => lhs; reduce⟩
def c423 : CFn := c423s.1
theorem c423_ok : c423 = compFn Tryz.prog 423 := c423s.2.symm
def c424s : CL2 424 := ⟨_, by conv => lhs; reduce⟩
def c424 : CFn := c424s.1
theorem c424_ok : c424 = compFn Tryz.prog 424 := c424s.2.symm
def c425s : CL2 425 := ⟨_, by conv => lhs; reduce⟩
def c425 : CFn := c425s.1
theorem c425_ok : c425 = compFn Tryz.prog 425 := c425s.2.symm
def c426s : CL2 426 := ⟨_, by conv => lhs; reduce⟩
def c426 : CFn := c426s.1
theorem c426_ok : c426 = compFn Tryz.prog 426 := c426s.2.symm
def c427s : CL2 427 := ⟨_, by conv => lhs; reduce⟩
def c427 : CFn := c427s.1
theorem c427_ok : c427 = compFn Tryz.prog 427 := c427s.2.symm
def c428 : CFn := .bad 428
def c429s : CL2 429 := ⟨_, by conv => lhs; reduce⟩
def c429 : CFn := c429s.1
theorem c429_ok : c429 = compFn Tryz.prog 429 := c429s.2.symm
def c430 : CFn := .bad 430
def c431s : CL2 431 := ⟨_, by conv => lhs; reduce⟩
def c431 : CFn := c431s.1
theorem c431_ok : c431 = compFn Tryz.prog 431 := c431s.2.symm
def c432 : CFn := .bad 432
def c433s : CL2 433 := ⟨_, by conv => lhs; reduce⟩
def c433 : CFn := c433s.1
theorem c433_ok : c433 = compFn Tryz.prog 433 := c433s.2.symm
def c434s : CL2 434 := ⟨_, by conv => lhs; reduce⟩
def c434 : CFn := c434s.1
theorem c434_ok : c434 = compFn Tryz.prog 434 := c434s.2.symm
def c435s : CL2 435 := ⟨_, by conv => lhs; reduce⟩
def c435 : CFn := c435s.1
theorem c435_ok : c435 = compFn Tryz.prog 435 := c435s.2.symm
def c436s : CL2 436 := ⟨_, by conv => lhs; reduce⟩
def c436 : CFn := c436s.1
theorem c436_ok : c436 = compFn Tryz.prog 436 := c436s.2.symm
def c437s : CL2 437 := ⟨_, by conv => lhs; reduce⟩
def c437 : CFn := c437s.1
theorem c437_ok : c437 = compFn Tryz.prog 437 := c437s.2.symm
def c438s : CL2 438 := ⟨_, by conv => lhs; reduce⟩
def c438 : CFn := c438s.1
theorem c438_ok : c438 = compFn Tryz.prog 438 := c438s.2.symm
def c439s : CL2 439 := ⟨_, by conv => lhs; reduce⟩
def c439 : CFn := c439s.1
theorem c439_ok : c439 = compFn Tryz.prog 439 := c439s.2.symm
def c440s : CL2 440 := ⟨_, by conv => lhs; reduce⟩
def c440 : CFn := c440s.1
theorem c440_ok : c440 = compFn Tryz.prog 440 := c440s.2.symm
def c441 : CFn := .bad 441
def c442 : CFn := .bad 442
def c443 : CFn := .bad 443
def c444 : CFn := .bad 444
def c445s : CL2 445 := ⟨_, by conv => lhs; reduce⟩
def c445 : CFn := c445s.1
theorem c445_ok : c445 = compFn Tryz.prog 445 := c445s.2.symm
def c446s : CL2 446 := ⟨_, by conv => lhs; reduce⟩
def c446 : CFn := c446s.1
theorem c446_ok : c446 = compFn Tryz.prog 446 := c446s.2.symm
def c447s : CL2 447 := ⟨_, by conv => lhs; reduce⟩
def c447 : CFn := c447s.1
theorem c447_ok : c447 = compFn Tryz.prog 447 := c447s.2.symm
def c448s : CL2 448 := ⟨_, by conv => lhs; reduce⟩
def c448 : CFn := c448s.1
theorem c448_ok : c448 = compFn Tryz.prog 448 := c448s.2.symm
def c449s : CL2 449 := ⟨_, by conv => lhs; reduce⟩
def c449 : CFn := c449s.1
theorem c449_ok : c449 = compFn Tryz.prog 449 := c449s.2.symm
def c450 : CFn := .bad 450
def c451 : CFn := .bad 451
def c452s : CL2 452 := ⟨_, by conv => lhs; reduce⟩
def c452 : CFn := c452s.1
theorem c452_ok : c452 = compFn Tryz.prog 452 := c452s.2.symm
def c453 : CFn := .bad 453
def c454s : CL2 454 := ⟨_, by conv => lhs; reduce⟩
def c454 : CFn := c454s.1
theorem c454_ok : c454 = compFn Tryz.prog 454 := c454s.2.symm
def c455 : CFn := .bad 455
def c456 : CFn := .bad 456
def c457 : CFn := .bad 457
def c458 : CFn := .bad 458
def c459 : CFn := .bad 459
def c460 : CFn := .bad 460
def c461 : CFn := .bad 461
def c462 : CFn := .bad 462
def c463 : CFn := .bad 463
def c464 : CFn := .bad 464
def c465 : CFn := .bad 465
def c466 : CFn := .bad 466
def c467 : CFn := .bad 467
def c468 : CFn := .bad 468
def c469 : CFn := .bad 469
def c470 : CFn := .bad 470
def c471 : CFn := .bad 471
def c472 : CFn := .bad 472
def c473 : CFn := .bad 473
def c474 : CFn := .bad 474
def c475 : CFn := .bad 475
def c476 : CFn := .bad 476
def c477 : CFn := .bad 477
def c478 : CFn := .bad 478
def c479 : CFn := .bad 479
def c480 : CFn := .bad 480
def c481 : CFn := .bad 481
end Go.Ev
