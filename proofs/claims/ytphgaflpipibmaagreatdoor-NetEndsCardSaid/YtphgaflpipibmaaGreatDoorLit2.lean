/- The compact code of the program's functions, written out, and that it is what the compiler makes of them (2). -/
import Derived.Test.YtphgaflpipibmaaGreatDoorEvSym
import Derived.Test.YtphgaflpipibmaaGreatDoorProg
import Derived.KernelRfl
namespace Go.Ev
open Go.Proofs
set_option maxRecDepth 1000000
abbrev CL2 (n : Nat) : Type := {c : CFn // compFn Tryz.prog n = c}
def c413s : CL2 413 := ⟨_, by conv => lhs; reduce⟩
def c413 : CFn := c413s.1
theorem c413_ok : c413 = compFn Tryz.prog 413 := c413s.2.symm
def c414s : CL2 414 := ⟨_, by conv => lhs; reduce⟩
def c414 : CFn := c414s.1
theorem c414_ok : c414 = compFn Tryz.prog 414 := c414s.2.symm
def c415s : CL2 415 := ⟨_, by conv => lhs; reduce⟩
def c415 : CFn := c415s.1
theorem c415_ok : c415 = compFn Tryz.prog 415 := c415s.2.symm
def c416 : CFn := .bad 416
def c417s : CL2 417 := ⟨_, by conv => lhs; reduce⟩
def c417 : CFn := c417s.1
theorem c417_ok : c417 = compFn Tryz.prog 417 := c417s.2.symm
def c418s : CL2 418 := ⟨_, by conv => lhs; reduce⟩
def c418 : CFn := c418s.1
theorem c418_ok : c418 = compFn Tryz.prog 418 := c418s.2.symm
def c419s : CL2 419 := ⟨_, by conv => lhs; reduce⟩
def c419 : CFn := c419s.1
theorem c419_ok : c419 = compFn Tryz.prog 419 := c419s.2.symm
def c420s : CL2 420 := ⟨_, by conv => lhs; reduce⟩
def c420 : CFn := c420s.1
theorem c420_ok : c420 = compFn Tryz.prog 420 := c420s.2.symm
def c421s : CL2 421 := ⟨_, by conv => lhs; reduce⟩
def c421 : CFn := c421s.1
theorem c421_ok : c421 = compFn Tryz.prog 421 := c421s.2.symm
def c422s : CL2 422 := ⟨_, by conv => lhs; reduce⟩
def c422 : CFn := c422s.1
theorem c422_ok : c422 = compFn Tryz.prog 422 := c422s.2.symm
def c423s : CL2 423 := ⟨_, by conv => lhs; reduce⟩
def c423 : CFn := c423s.1
theorem c423_ok : c423 = compFn Tryz.prog 423 := c423s.2.symm
def c424s : CL2 424 := ⟨_, by conv => lhs; reduce⟩
def c424 : CFn := c424s.1
theorem c424_ok : c424 = compFn Tryz.prog 424 := c424s.2.symm
def c425s : CL2 425 := ⟨_, by conv => lhs; reduce⟩
def c425 : CFn := c425s.1
theorem c425_ok : c425 = compFn Tryz.prog 425 := c425s.2.symm
def c426s : CL2 426 := ⟨_, by conv => lhs; reduce⟩
def c426 : CFn := c426s.1
theorem c426_ok : c426 = compFn Tryz.prog 426 := c426s.2.symm
def c427s : CL2 427 := ⟨_, by conv => lhs; reduce⟩
def c427 : CFn := c427s.1
theorem c427_ok : c427 = compFn Tryz.prog 427 := c427s.2.symm
def c428s : CL2 428 := ⟨_, by conv => lhs; reduce⟩
def c428 : CFn := c428s.1
theorem c428_ok : c428 = compFn Tryz.prog 428 := c428s.2.symm
def c429s : CL2 429 := ⟨_, by conv => lhs; reduce⟩
def c429 : CFn := c429s.1
theorem c429_ok : c429 = compFn Tryz.prog 429 := c429s.2.symm
def c430s : CL2 430 := ⟨_, by conv => lhs; reduce⟩
def c430 : CFn := c430s.1
theorem c430_ok : c430 = compFn Tryz.prog 430 := c430s.2.symm
def c431s : CL2 431 := ⟨_, by conv => lhs; reduce⟩
def c431 : CFn := c431s.1
theorem c431_ok : c431 = compFn Tryz.prog 431 := c431s.2.symm
def c432s : CL2 432 := ⟨_, by conv => lhs; reduce⟩
def c432 : CFn := c432s.1
theorem c432_ok : c432 = compFn Tryz.prog 432 := c432s.2.symm
def c433s : CL2 433 := ⟨_, by conv => lhs; reduce⟩
def c433 : CFn := c433s.1
theorem c433_ok : c433 = compFn Tryz.prog 433 := c433s.2.symm
def c434s : CL2 434 := ⟨_, by conv => lhs; reduce⟩
def c434 : CFn := c434s.1
theorem c434_ok : c434 = compFn Tryz.prog 434 := c434s.2.symm
def c435s : CL2 435 := ⟨_, by conv => lhs; reduce⟩
def c435 : CFn := c435s.1
theorem c435_ok : c435 = compFn Tryz.prog 435 := c435s.2.symm
def c436s : CL2 436 := ⟨_, by conv => lhs; reduce⟩
def c436 : CFn := c436s.1
theorem c436_ok : c436 = compFn Tryz.prog 436 := c436s.2.symm
def c437s : CL2 437 := ⟨_, by conv => lhs; reduce⟩
def c437 : CFn := c437s.1
theorem c437_ok : c437 = compFn Tryz.prog 437 := c437s.2.symm
def c438s : CL2 438 := ⟨_, by conv => lhs; reduce⟩
def c438 : CFn := c438s.1
theorem c438_ok : c438 = compFn Tryz.prog 438 := c438s.2.symm
def c439s : CL2 439 := ⟨_, by conv => lhs; reduce⟩
def c439 : CFn := c439s.1
theorem c439_ok : c439 = compFn Tryz.prog 439 := c439s.2.symm
def c440s : CL2 440 := ⟨_, by conv => lhs; reduce⟩
def c440 : CFn := c440s.1
theorem c440_ok : c440 = compFn Tryz.prog 440 := c440s.2.symm
def c441s : CL2 441 := ⟨_, by conv => lhs; reduce⟩
def c441 : CFn := c441s.1
theorem c441_ok : c441 = compFn Tryz.prog 441 := c441s.2.symm
def c442s : CL2 442 := ⟨_, by conv => lhs; reduce⟩
def c442 : CFn := c442s.1
theorem c442_ok : c442 = compFn Tryz.prog 442 := c442s.2.symm
def c443 : CFn := .bad 443
def c444s : CL2 444 := ⟨_, by conv => lhs; reduce⟩
def c444 : CFn := c444s.1
theorem c444_ok : c444 = compFn Tryz.prog 444 := c444s.2.symm
def c445s : CL2 445 := ⟨_, by conv => lhs; reduce⟩
def c445 : CFn := c445s.1
theorem c445_ok : c445 = compFn Tryz.prog 445 := c445s.2.symm
def c446s : CL2 446 := ⟨_, by conv => lhs; reduce⟩
def c446 : CFn := c446s.1
theorem c446_ok : c446 = compFn Tryz.prog 446 := c446s.2.symm
def c447s : CL2 447 := ⟨_, by conv => lhs; reduce⟩
def c447 : CFn := c447s.1
theorem c447_ok : c447 = compFn Tryz.prog 447 := c447s.2.symm
def c448s : CL2 448 := ⟨_, by conv => lhs; reduce⟩
def c448 : CFn := c448s.1
theorem c448_ok : c448 = compFn Tryz.prog 448 := c448s.2.symm
def c449s : CL2 449 := ⟨_, by conv => lhs; reduce⟩
def c449 : CFn := c449s.1
theorem c449_ok : c449 = compFn Tryz.prog 449 := c449s.2.symm
def c450s : CL2 450 := ⟨_, by conv => lhs; reduce⟩
def c450 : CFn := c450s.1
theorem c450_ok : c450 = compFn Tryz.prog 450 := c450s.2.symm
def c451s : CL2 451 := ⟨_, by conv => lhs; reduce⟩
def c451 : CFn := c451s.1
theorem c451_ok : c451 = compFn Tryz.prog 451 := c451s.2.symm
def c452s : CL2 452 := ⟨_, by conv => lhs; reduce⟩
def c452 : CFn := c452s.1
theorem c452_ok : c452 = compFn Tryz.prog 452 := c452s.2.symm
def c453s : CL2 453 := ⟨_, by conv => lhs; reduce⟩
def c453 : CFn := c453s.1
theorem c453_ok : c453 = compFn Tryz.prog 453 := c453s.2.symm
def c454s : CL2 454 := ⟨_, by conv => lhs; reduce⟩
def c454 : CFn := c454s.1
theorem c454_ok : c454 = compFn Tryz.prog 454 := c454s.2.symm
def c455s : CL2 455 := ⟨_, by conv => lhs; reduce⟩
def c455 : CFn := c455s.1
theorem c455_ok : c455 = compFn Tryz.prog 455 := c455s.2.symm
def c456s : CL2 456 := ⟨_, by conv => lhs; reduce⟩
def c456 : CFn := c456s.1
theorem c456_ok : c456 = compFn Tryz.prog 456 := c456s.2.symm
def c457s : CL2 457 := ⟨_, by conv => lhs; reduce⟩
def c457 : CFn := c457s.1
theorem c457_ok : c457 = compFn Tryz.prog 457 := c457s.2.symm
def c458s : CL2 458 := ⟨_, by conv => lhs; reduce⟩
def c458 : CFn := c458s.1
theorem c458_ok : c458 = compFn Tryz.prog 458 := c458s.2.symm
def c459s : CL2 459 := ⟨_, by conv => lhs; reduce⟩
def c459 : CFn := c459s.1
theorem c459_ok : c459 = compFn Tryz.prog 459 := c459s.2.symm
def c460s : CL2 460 := ⟨_, by conv => lhs; reduce⟩
def c460 : CFn := c460s.1
theorem c460_ok : c460 = compFn Tryz.prog 460 := c460s.2.symm
def c461s : CL2 461 := ⟨_, by conv => lhs; reduce⟩
def c461 : CFn := c461s.1
theorem c461_ok : c461 = compFn Tryz.prog 461 := c461s.2.symm
def c462s : CL2 462 := ⟨_, by conv => lhs; reduce⟩
def c462 : CFn := c462s.1
theorem c462_ok : c462 = compFn Tryz.prog 462 := c462s.2.symm
def c463s : CL2 463 := ⟨_, by conv => lhs; reduce⟩
def c463 : CFn := c463s.1
theorem c463_ok : c463 = compFn Tryz.prog 463 := c463s.2.symm
def c464s : CL2 464 := ⟨_, by conv => lhs; reduce⟩
def c464 : CFn := c464s.1
theorem c464_ok : c464 = compFn Tryz.prog 464 := c464s.2.symm
def c465s : CL2 465 := ⟨_, by conv => lhs; reduce⟩
def c465 : CFn := c465s.1
theorem c465_ok : c465 = compFn Tryz.prog 465 := c465s.2.symm
def c466s : CL2 466 := ⟨_, by conv => lhs; reduce⟩
def c466 : CFn := c466s.1
theorem c466_ok : c466 = compFn Tryz.prog 466 := c466s.2.symm
def c467s : CL2 467 := ⟨_, by conv => lhs; reduce⟩
def c467 : CFn := c467s.1
theorem c467_ok : c467 = compFn Tryz.prog 467 := c467s.2.symm
def c468s : CL2 468 := ⟨_, by conv => lhs; reduce⟩
def c468 : CFn := c468s.1
theorem c468_ok : c468 = compFn Tryz.prog 468 := c468s.2.symm
def c469 : CFn := .bad 469
def c470s : CL2 470 := ⟨_, by conv => lhs; reduce⟩
def c470 : CFn := c470s.1
theorem c470_ok : c470 = compFn Tryz.prog 470 := c470s.2.symm
def c471 : CFn := .mk (.seq (.region [.o (.box (.l (.s .d0))) (.s .d2), .o (.box (.l (.s .d1))) (.s .d3), .o (.mv (.k (.bool false))) (.s .d4)]) (.seq (.region [.i (.addOff 0 (.l (.s .d2))), .i (.load1 (.e 0)), .i (.addOff 0 (.l (.s .d3))), .i (.load1 (.e 0)), .i (.arith .eql (.e 2) (.e 0)), .i (.mv (.e 0)), .g (.e 0) true (.addOff 1 (.l (.s .d2))) none, .g (.e 1) true (.load1 (.e 0)) none, .g (.e 2) true (.addOff 1 (.l (.s .d3))) none, .g (.e 3) true (.load1 (.e 0)) none, .g (.e 4) true (.call 331 [(.e 2), (.e 0)]) none, .i (.pick (.e 5) (.e 0) (.k (.bool false))), .i (.mv (.e 0)), .g (.e 0) true (.addOff 2 (.l (.s .d2))) none, .g (.e 1) true (.load1 (.e 0)) none, .g (.e 2) true (.addOff 2 (.l (.s .d3))) none, .g (.e 3) true (.load1 (.e 0)) none, .g (.e 4) true (.arith .eql (.e 2) (.e 0)) none, .i (.pick (.e 5) (.e 0) (.k (.bool false))), .i (.mv (.e 0)), .g (.e 0) true (.addOff 3 (.l (.s .d2))) none, .g (.e 1) true (.load1 (.e 0)) none, .g (.e 2) true (.addOff 3 (.l (.s .d3))) none, .g (.e 3) true (.load1 (.e 0)) none, .g (.e 4) true (.eq false .bool false (.e 2) (.e 0)) none, .i (.pick (.e 5) (.e 0) (.k (.bool false))), .i (.mv (.e 0)), .g (.e 0) true (.addOff 4 (.l (.s .d2))) none, .g (.e 1) true (.load1 (.e 0)) none, .g (.e 2) true (.addOff 4 (.l (.s .d3))) none, .g (.e 3) true (.load1 (.e 0)) none, .g (.e 4) true (.arith .eql (.e 2) (.e 0)) none, .i (.pick (.e 5) (.e 0) (.k (.bool false))), .i (.mv (.e 0)), .g (.e 0) true (.addOff 5 (.l (.s .d2))) none, .g (.e 1) true (.load1 (.e 0)) none, .g (.e 2) true (.addOff 5 (.l (.s .d3))) none, .g (.e 3) true (.load1 (.e 0)) none, .g (.e 4) true (.arith .eql (.e 2) (.e 0)) none, .i (.pick (.e 5) (.e 0) (.k (.bool false))), .i (.mv (.e 0)), .g (.e 0) true (.addOff 6 (.l (.s .d2))) none, .g (.e 1) true (.load1 (.e 0)) none, .g (.e 2) true (.addOff 6 (.l (.s .d3))) none, .g (.e 3) true (.load1 (.e 0)) none, .g (.e 4) true (.call 346 [(.e 2), (.e 0)]) none, .i (.pick (.e 5) (.e 0) (.k (.bool false))), .i (.mv (.e 0)), .g (.e 0) true (.addOff 7 (.l (.s .d2))) none, .g (.e 1) true (.load1 (.e 0)) none, .g (.e 2) true (.addOff 7 (.l (.s .d3))) none, .g (.e 3) true (.load1 (.e 0)) none, .g (.e 4) true (.arith .eql (.e 2) (.e 0)) none, .i (.pick (.e 5) (.e 0) (.k (.bool false))), .i (.mv (.e 0)), .g (.e 0) true (.addOff 8 (.l (.s .d2))) none, .g (.e 1) true (.load1 (.e 0)) none, .g (.e 2) true (.addOff 8 (.l (.s .d3))) none, .g (.e 3) true (.load1 (.e 0)) none, .g (.e 4) true (.arith .eql (.e 2) (.e 0)) none, .i (.pick (.e 5) (.e 0) (.k (.bool false))), .i (.mv (.e 0)), .g (.e 0) true (.addOff 9 (.l (.s .d2))) none, .g (.e 1) true (.load1 (.e 0)) none, .g (.e 2) true (.addOff 9 (.l (.s .d3))) none, .g (.e 3) true (.load1 (.e 0)) none, .g (.e 4) true (.arith .eql (.e 2) (.e 0)) none, .i (.pick (.e 5) (.e 0) (.k (.bool false))), .o (.mv (.e 0)) (.s .d4)]) .ret)) [(.tmp (.l (.s .d4)))]
theorem c471_ok : c471 = compFn Tryz.prog 471 := by kernel_rfl
def c472 : CFn := .mk (.seq (.region [.o (.mv (.k (.bool false))) (.s .d4)]) (.seq (.seq (.region [.i (.mv (.l (.s .d0))), .i (.lenSl (.e 0)), .i (.mv (.l (.s .d1))), .i (.lenSl (.e 0)), .o (.arith .neq (.e 2) (.e 0)) (.s .d10)]) (.cond (.l (.s .d10)) (.seq (.region [.o (.mv (.k (.bool false))) (.s .d4)]) .ret) .skip)) (.seq (.seq (.region [.i (.mv (.l (.s .d0))), .o (.lenSl (.e 0)) (.s .d12), .o (.mv (.k (.nat 0))) (.s .d13)]) (.block 0 (.loop (.seq (.region [.o (.arith .lss (.l (.s .d13)) (.l (.s .d12))) (.s .d14)]) (.seq (.cond (.l (.s .d14)) .skip (.exit 0)) (.seq (.block 1 (.seq (.region [.i (.mv (.l (.s .d13))), .o (.mv (.e 0)) (.s .d5)]) (.seq (.dregion [⟨.i (.mv (.l (.s .d0))), false, 0⟩, ⟨.i (.mv (.l (.s .d5))), false, 0⟩, ⟨.i (.ixSl 1 (.e 1) (.e 0)), false, 0⟩, ⟨.i (.load1 (.e 0)), false, 0⟩, ⟨.i (.mv (.l (.s .d1))), false, 0⟩, ⟨.i (.mv (.l (.s .d5))), false, 0⟩, ⟨.i (.ixSl 1 (.e 1) (.e 0)), false, 0⟩, ⟨.i (.load1 (.e 0)), false, 0⟩, ⟨.o (.arith .neq (.e 4) (.e 0)) (.w .d0 .d8), false, 0⟩]) (.cond (.l (.w .d0 .d8)) (.seq (.region [.o (.mv (.k (.bool false))) (.s .d4)]) .ret) .skip)))) (.region [.i (.arith .add (.l (.s .d13)) (.k (.nat 1))), .o (.mv (.e 0)) (.s .d13)]))))))) (.seq (.region [.o (.mv (.k (.bool true))) (.s .d4)]) .ret)))) [(.tmp (.l (.s .d4)))]
theorem c472_ok : c472 = compFn Tryz.prog 472 := by kernel_rfl
def c473s : CL2 473 := ⟨_, by conv => lhs; reduce⟩
def c473 : CFn := c473s.1
theorem c473_ok : c473 = compFn Tryz.prog 473 := c473s.2.symm
def c474s : CL2 474 := ⟨_, by conv => lhs; reduce⟩
def c474 : CFn := c474s.1
theorem c474_ok : c474 = compFn Tryz.prog 474 := c474s.2.symm
def c475s : CL2 475 := ⟨_, by conv => lhs; reduce⟩
def c475 : CFn := c475s.1
theorem c475_ok : c475 = compFn Tryz.prog 475 := c475s.2.symm
def c476s : CL2 476 := ⟨_, by conv => lhs; reduce⟩
def c476 : CFn := c476s.1
theorem c476_ok : c476 = compFn Tryz.prog 476 := c476s.2.symm
def c477s : CL2 477 := ⟨_, by conv => lhs; reduce⟩
def c477 : CFn := c477s.1
theorem c477_ok : c477 = compFn Tryz.prog 477 := c477s.2.symm
def c478s : CL2 478 := ⟨_, by conv => lhs; reduce⟩
def c478 : CFn := c478s.1
theorem c478_ok : c478 = compFn Tryz.prog 478 := c478s.2.symm
def c479s : CL2 479 := ⟨_, by conv => lhs; reduce⟩
def c479 : CFn := c479s.1
theorem c479_ok : c479 = compFn Tryz.prog 479 := c479s.2.symm
def c480s : CL2 480 := ⟨_, by conv => lhs; reduce⟩
def c480 : CFn := c480s.1
theorem c480_ok : c480 = compFn Tryz.prog 480 := c480s.2.symm
def c481s : CL2 481 := ⟨_, by conv => lhs; reduce⟩
def c481 : CFn := c481s.1
theorem c481_ok : c481 = compFn Tryz.prog 481 := c481s.2.symm
def c482s : CL2 482 := ⟨_, by conv => lhs; reduce⟩
def c482 : CFn := c482s.1
theorem c482_ok : c482 = compFn Tryz.prog 482 := c482s.2.symm
def c483s : CL2 483 := ⟨_, by conv => lhs; reduce⟩
def c483 : CFn := c483s.1
theorem c483_ok : c483 = compFn Tryz.prog 483 := c483s.2.symm
def c484s : CL2 484 := ⟨_, by conv => lhs; reduce⟩
def c484 : CFn := c484s.1
theorem c484_ok : c484 = compFn Tryz.prog 484 := c484s.2.symm
def c485s : CL2 485 := ⟨_, by conv => lhs; reduce⟩
def c485 : CFn := c485s.1
theorem c485_ok : c485 = compFn Tryz.prog 485 := c485s.2.symm
def c486s : CL2 486 := ⟨_, by conv => lhs; reduce⟩
def c486 : CFn := c486s.1
theorem c486_ok : c486 = compFn Tryz.prog 486 := c486s.2.symm
def c487s : CL2 487 := ⟨_, by conv => lhs; reduce⟩
def c487 : CFn := c487s.1
theorem c487_ok : c487 = compFn Tryz.prog 487 := c487s.2.symm
def c488s : CL2 488 := ⟨_, by conv => lhs; reduce⟩
def c488 : CFn := c488s.1
theorem c488_ok : c488 = compFn Tryz.prog 488 := c488s.2.symm
def c489s : CL2 489 := ⟨_, by conv => lhs; reduce⟩
def c489 : CFn := c489s.1
theorem c489_ok : c489 = compFn Tryz.prog 489 := c489s.2.symm
def c490s : CL2 490 := ⟨_, by conv => lhs; reduce⟩
def c490 : CFn := c490s.1
theorem c490_ok : c490 = compFn Tryz.prog 490 := c490s.2.symm
def c491s : CL2 491 := ⟨_, by conv => lhs; reduce⟩
def c491 : CFn := c491s.1
theorem c491_ok : c491 = compFn Tryz.prog 491 := c491s.2.symm
def c492s : CL2 492 := ⟨_, by conv => lhs; reduce⟩
def c492 : CFn := c492s.1
theorem c492_ok : c492 = compFn Tryz.prog 492 := c492s.2.symm
def c493 : CFn := .bad 493
def c494s : CL2 494 := ⟨_, by conv => lhs; reduce⟩
def c494 : CFn := c494s.1
theorem c494_ok : c494 = compFn Tryz.prog 494 := c494s.2.symm
def c495s : CL2 495 := ⟨_, by conv => lhs; reduce⟩
def c495 : CFn := c495s.1
theorem c495_ok : c495 = compFn Tryz.prog 495 := c495s.2.symm
def c496 : CFn := .bad 496
def c497s : CL2 497 := ⟨_, by conv => lhs; reduce⟩
def c497 : CFn := c497s.1
theorem c497_ok : c497 = compFn Tryz.prog 497 := c497s.2.symm
def c498s : CL2 498 := ⟨_, by conv => lhs; reduce⟩
def c498 : CFn := c498s.1
theorem c498_ok : c498 = compFn Tryz.prog 498 := c498s.2.symm
def c499s : CL2 499 := ⟨_, by conv => lhs; reduce⟩
def c499 : CFn := c499s.1
theorem c499_ok : c499 = compFn Tryz.prog 499 := c499s.2.symm
def c500s : CL2 500 := ⟨_, by conv => lhs; reduce⟩
def c500 : CFn := c500s.1
theorem c500_ok : c500 = compFn Tryz.prog 500 := c500s.2.symm
def c501s : CL2 501 := ⟨_, by conv => lhs; reduce⟩
def c501 : CFn := c501s.1
theorem c501_ok : c501 = compFn Tryz.prog 501 := c501s.2.symm
def c502s : CL2 502 := ⟨_, by conv => lhs; reduce⟩
def c502 : CFn := c502s.1
theorem c502_ok : c502 = compFn Tryz.prog 502 := c502s.2.symm
def c503s : CL2 503 := ⟨_, by conv => lhs; reduce⟩
def c503 : CFn := c503s.1
theorem c503_ok : c503 = compFn Tryz.prog 503 := c503s.2.symm
def c504s : CL2 504 := ⟨_, by conv => lhs; reduce⟩
def c504 : CFn := c504s.1
theorem c504_ok : c504 = compFn Tryz.prog 504 := c504s.2.symm
def c505s : CL2 505 := ⟨_, by conv => lhs; reduce⟩
def c505 : CFn := c505s.1
theorem c505_ok : c505 = compFn Tryz.prog 505 := c505s.2.symm
def c506s : CL2 506 := ⟨_, by conv => lhs; reduce⟩
def c506 : CFn := c506s.1
theorem c506_ok : c506 = compFn Tryz.prog 506 := c506s.2.symm
def c507s : CL2 507 := ⟨_, by conv => lhs; reduce⟩
def c507 : CFn := c507s.1
theorem c507_ok : c507 = compFn Tryz.prog 507 := c507s.2.symm
def c508s : CL2 508 := ⟨_, by conv => lhs; reduce⟩
def c508 : CFn := c508s.1
theorem c508_ok : c508 = compFn Tryz.prog 508 := c508s.2.symm
def c509s : CL2 509 := ⟨_, by conv => lhs; reduce⟩
def c509 : CFn := c509s.1
theorem c509_ok : c509 = compFn Tryz.prog 509 := c509s.2.symm
def c510s : CL2 510 := ⟨_, by conv => lhs; reduce⟩
def c510 : CFn := c510s.1
theorem c510_ok : c510 = compFn Tryz.prog 510 := c510s.2.symm
def c511 : CFn := .bad 511
def c512s : CL2 512 := ⟨_, by conv => lhs; reduce⟩
def c512 : CFn := c512s.1
theorem c512_ok : c512 = compFn Tryz.prog 512 := c512s.2.symm
def c513s : CL2 513 := ⟨_, by conv => lhs; reduce⟩
def c513 : CFn := c513s.1
theorem c513_ok : c513 = compFn Tryz.prog 513 := c513s.2.symm
def c514s : CL2 514 := ⟨_, by conv => lhs; reduce⟩
def c514 : CFn := c514s.1
theorem c514_ok : c514 = compFn Tryz.prog 514 := c514s.2.symm
def c515s : CL2 515 := ⟨_, by conv => lhs; reduce⟩
def c515 : CFn := c515s.1
theorem c515_ok : c515 = compFn Tryz.prog 515 := c515s.2.symm
def c516s : CL2 516 := ⟨_, by conv => lhs; reduce⟩
def c516 : CFn := c516s.1
theorem c516_ok : c516 = compFn Tryz.prog 516 := c516s.2.symm
def c517s : CL2 517 := ⟨_, by conv => lhs; reduce⟩
def c517 : CFn := c517s.1
theorem c517_ok : c517 = compFn Tryz.prog 517 := c517s.2.symm
def c518s : CL2 518 := ⟨_, by conv => lhs; reduce⟩
def c518 : CFn := c518s.1
theorem c518_ok : c518 = compFn Tryz.prog 518 := c518s.2.symm
def c519s : CL2 519 := ⟨_, by conv => lhs; reduce⟩
def c519 : CFn := c519s.1
theorem c519_ok : c519 = compFn Tryz.prog 519 := c519s.2.symm
def c520s : CL2 520 := ⟨_, by conv => lhs; reduce⟩
def c520 : CFn := c520s.1
theorem c520_ok : c520 = compFn Tryz.prog 520 := c520s.2.symm
def c521s : CL2 521 := ⟨_, by conv => lhs; reduce⟩
def c521 : CFn := c521s.1
theorem c521_ok : c521 = compFn Tryz.prog 521 := c521s.2.symm
def c522s : CL2 522 := ⟨_, by conv => lhs; reduce⟩
def c522 : CFn := c522s.1
theorem c522_ok : c522 = compFn Tryz.prog 522 := c522s.2.symm
def c523s : CL2 523 := ⟨_, by conv => lhs; reduce⟩
def c523 : CFn := c523s.1
theorem c523_ok : c523 = compFn Tryz.prog 523 := c523s.2.symm
def c524s : CL2 524 := ⟨_, by conv => lhs; reduce⟩
def c524 : CFn := c524s.1
theorem c524_ok : c524 = compFn Tryz.prog 524 := c524s.2.symm
def c525s : CL2 525 := ⟨_, by conv => lhs; reduce⟩
def c525 : CFn := c525s.1
theorem c525_ok : c525 = compFn Tryz.prog 525 := c525s.2.symm
def c526s : CL2 526 := ⟨_, by conv => lhs; reduce⟩
def c526 : CFn := c526s.1
theorem c526_ok : c526 = compFn Tryz.prog 526 := c526s.2.symm
def c527s : CL2 527 := ⟨_, by conv => lhs; reduce⟩
def c527 : CFn := c527s.1
theorem c527_ok : c527 = compFn Tryz.prog 527 := c527s.2.symm
def c528s : CL2 528 := ⟨_, by conv => lhs; reduce⟩
def c528 : CFn := c528s.1
theorem c528_ok : c528 = compFn Tryz.prog 528 := c528s.2.symm
def c529s : CL2 529 := ⟨_, by conv => lhs; reduce⟩
def c529 : CFn := c529s.1
theorem c529_ok : c529 = compFn Tryz.prog 529 := c529s.2.symm
def c530s : CL2 530 := ⟨_, by conv => lhs; reduce⟩
def c530 : CFn := c530s.1
theorem c530_ok : c530 = compFn Tryz.prog 530 := c530s.2.symm
def c531s : CL2 531 := ⟨_, by conv => lhs; reduce⟩
def c531 : CFn := c531s.1
theorem c531_ok : c531 = compFn Tryz.prog 531 := c531s.2.symm
def c532s : CL2 532 := ⟨_, by conv => lhs; reduce⟩
def c532 : CFn := c532s.1
theorem c532_ok : c532 = compFn Tryz.prog 532 := c532s.2.symm
def c533s : CL2 533 := ⟨_, by conv => lhs; reduce⟩
def c533 : CFn := c533s.1
theorem c533_ok : c533 = compFn Tryz.prog 533 := c533s.2.symm
def c534s : CL2 534 := ⟨_, by conv => lhs; reduce⟩
def c534 : CFn := c534s.1
theorem c534_ok : c534 = compFn Tryz.prog 534 := c534s.2.symm
def c535s : CL2 535 := ⟨_, by conv => lhs; reduce⟩
def c535 : CFn := c535s.1
theorem c535_ok : c535 = compFn Tryz.prog 535 := c535s.2.symm
def c536s : CL2 536 := ⟨_, by conv => lhs; reduce⟩
def c536 : CFn := c536s.1
theorem c536_ok : c536 = compFn Tryz.prog 536 := c536s.2.symm
def c537s : CL2 537 := ⟨_, by conv => lhs; reduce⟩
def c537 : CFn := c537s.1
theorem c537_ok : c537 = compFn Tryz.prog 537 := c537s.2.symm
def c538s : CL2 538 := ⟨_, by conv => lhs; reduce⟩
def c538 : CFn := c538s.1
theorem c538_ok : c538 = compFn Tryz.prog 538 := c538s.2.symm
def c539s : CL2 539 := ⟨_, by conv => lhs; reduce⟩
def c539 : CFn := c539s.1
theorem c539_ok : c539 = compFn Tryz.prog 539 := c539s.2.symm
def c540s : CL2 540 := ⟨_, by conv => lhs; reduce⟩
def c540 : CFn := c540s.1
theorem c540_ok : c540 = compFn Tryz.prog 540 := c540s.2.symm
def c541 : CFn := .bad 541
def c542 : CFn := .bad 542
def c543 : CFn := .bad 543
def c544 : CFn := .bad 544
def c545 : CFn := .bad 545
def c546 : CFn := .bad 546
def c547 : CFn := .bad 547
def c548 : CFn := .bad 548
def c549 : CFn := .bad 549
def c550 : CFn := .bad 550
def c551 : CFn := .bad 551
def c552 : CFn := .bad 552
def c553 : CFn := .bad 553
def c554 : CFn := .bad 554
def c555 : CFn := .bad 555
def c556 : CFn := .bad 556
def c557s : CL2 557 := ⟨_, by conv => lhs; reduce⟩
def c557 : CFn := c557s.1
theorem c557_ok : c557 = compFn Tryz.prog 557 := c557s.2.symm
def c558s : CL2 558 := ⟨_, by conv => lhs; reduce⟩
def c558 : CFn := c558s.1
theorem c558_ok : c558 = compFn Tryz.prog 558 := c558s.2.symm
def c559s : CL2 559 := ⟨_, by conv => lhs; reduce⟩
def c559 : CFn := c559s.1
theorem c559_ok : c559 = compFn Tryz.prog 559 := c559s.2.symm
def c560s : CL2 560 := ⟨_, by conv => lhs; reduce⟩
def c560 : CFn := c560s.1
theorem c560_ok : c560 = compFn Tryz.prog 560 := c560s.2.symm
def c561 : CFn := .bad 561
def c562s : CL2 562 := ⟨_, by conv => lhs; reduce⟩
def c562 : CFn := c562s.1
theorem c562_ok : c562 = compFn Tryz.prog 562 := c562s.2.symm
def c563s : CL2 563 := ⟨_, by conv => lhs; reduce⟩
def c563 : CFn := c563s.1
theorem c563_ok : c563 = compFn Tryz.prog 563 := c563s.2.symm
def c564s : CL2 564 := ⟨_, by conv => lhs; reduce⟩
def c564 : CFn := c564s.1
theorem c564_ok : c564 = compFn Tryz.prog 564 := c564s.2.symm
def c565s : CL2 565 := ⟨_, by conv => lhs; reduce⟩
def c565 : CFn := c565s.1
theorem c565_ok : c565 = compFn Tryz.prog 565 := c565s.2.symm
def c566s : CL2 566 := ⟨_, by conv => lhs; reduce⟩
def c566 : CFn := c566s.1
theorem c566_ok : c566 = compFn Tryz.prog 566 := c566s.2.symm
def c567s : CL2 567 := ⟨_, by conv => lhs; reduce⟩
def c567 : CFn := c567s.1
theorem c567_ok : c567 = compFn Tryz.prog 567 := c567s.2.symm
def c568s : CL2 568 := ⟨_, by conv => lhs; reduce⟩
def c568 : CFn := c568s.1
theorem c568_ok : c568 = compFn Tryz.prog 568 := c568s.2.symm
def c569s : CL2 569 := ⟨_, by conv => lhs; reduce⟩
def c569 : CFn := c569s.1
theorem c569_ok : c569 = compFn Tryz.prog 569 := c569s.2.symm
def c570s : CL2 570 := ⟨_, by conv => lhs; reduce⟩
def c570 : CFn := c570s.1
theorem c570_ok : c570 = compFn Tryz.prog 570 := c570s.2.symm
def c571s : CL2 571 := ⟨_, by conv => lhs; reduce⟩
def c571 : CFn := c571s.1
theorem c571_ok : c571 = compFn Tryz.prog 571 := c571s.2.symm
def c572s : CL2 572 := ⟨_, by conv => lhs; reduce⟩
def c572 : CFn := c572s.1
theorem c572_ok : c572 = compFn Tryz.prog 572 := c572s.2.symm
def c573s : CL2 573 := ⟨_, by conv => lhs; reduce⟩
def c573 : CFn := c573s.1
theorem c573_ok : c573 = compFn Tryz.prog 573 := c573s.2.symm
def c574s : CL2 574 := ⟨_, by conv => lhs; reduce⟩
def c574 : CFn := c574s.1
theorem c574_ok : c574 = compFn Tryz.prog 574 := c574s.2.symm
def c575s : CL2 575 := ⟨_, by conv => lhs; reduce⟩
def c575 : CFn := c575s.1
theorem c575_ok : c575 = compFn Tryz.prog 575 := c575s.2.symm
def c576s : CL2 576 := ⟨_, by conv => lhs; reduce⟩
def c576 : CFn := c576s.1
theorem c576_ok : c576 = compFn Tryz.prog 576 := c576s.2.symm
def c577s : CL2 577 := ⟨_, by conv => lhs; reduce⟩
def c577 : CFn := c577s.1
theorem c577_ok : c577 = compFn Tryz.prog 577 := c577s.2.symm
def c578s : CL2 578 := ⟨_, by conv => lhs; reduce⟩
def c578 : CFn := c578s.1
theorem c578_ok : c578 = compFn Tryz.prog 578 := c578s.2.symm
def c579s : CL2 579 := ⟨_, by conv => lhs; reduce⟩
def c579 : CFn := c579s.1
theorem c579_ok : c579 = compFn Tryz.prog 579 := c579s.2.symm
def c580s : CL2 580 := ⟨_, by conv => lhs; reduce⟩
def c580 : CFn := c580s.1
theorem c580_ok : c580 = compFn Tryz.prog 580 := c580s.2.symm
def c581s : CL2 581 := ⟨_, by conv => lhs; reduce⟩
def c581 : CFn := c581s.1
theorem c581_ok : c581 = compFn Tryz.prog 581 := c581s.2.symm
def c582s : CL2 582 := ⟨_, by conv => lhs; reduce⟩
def c582 : CFn := c582s.1
theorem c582_ok : c582 = compFn Tryz.prog 582 := c582s.2.symm
def c583s : CL2 583 := ⟨_, by conv => lhs; reduce⟩
def c583 : CFn := c583s.1
theorem c583_ok : c583 = compFn Tryz.prog 583 := c583s.2.symm
def c584 : CFn := .bad 584
def c585s : CL2 585 := ⟨_, by conv => lhs; reduce⟩
def c585 : CFn := c585s.1
theorem c585_ok : c585 = compFn Tryz.prog 585 := c585s.2.symm
def c586s : CL2 586 := ⟨_, by conv => lhs; reduce⟩
def c586 : CFn := c586s.1
theorem c586_ok : c586 = compFn Tryz.prog 586 := c586s.2.symm
def c587s : CL2 587 := ⟨_, by conv => lhs; reduce⟩
def c587 : CFn := c587s.1
theorem c587_ok : c587 = compFn Tryz.prog 587 := c587s.2.symm
def c588 : CFn := .bad 588
def c589s : CL2 589 := ⟨_, by conv => lhs; reduce⟩
def c589 : CFn := c589s.1
theorem c589_ok : c589 = compFn Tryz.prog 589 := c589s.2.symm
def c590s : CL2 590 := ⟨_, by conv => lhs; reduce⟩
def c590 : CFn := c590s.1
theorem c590_ok : c590 = compFn Tryz.prog 590 := c590s.2.symm
def c591s : CL2 591 := ⟨_, by conv => lhs; reduce⟩
def c591 : CFn := c591s.1
theorem c591_ok : c591 = compFn Tryz.prog 591 := c591s.2.symm
def c592s : CL2 592 := ⟨_, by conv => lhs; reduce⟩
def c592 : CFn := c592s.1
theorem c592_ok : c592 = compFn Tryz.prog 592 := c592s.2.symm
def c593s : CL2 593 := ⟨_, by conv => lhs; reduce⟩
def c593 : CFn := c593s.1
theorem c593_ok : c593 = compFn Tryz.prog 593 := c593s.2.symm
def c594s : CL2 594 := ⟨_, by conv => lhs; reduce⟩
def c594 : CFn := c594s.1
theorem c594_ok : c594 = compFn Tryz.prog 594 := c594s.2.symm
def c595s : CL2 595 := ⟨_, by conv => lhs; reduce⟩
def c595 : CFn := c595s.1
theorem c595_ok : c595 = compFn Tryz.prog 595 := c595s.2.symm
def c596s : CL2 596 := ⟨_, by conv => lhs; reduce⟩
def c596 : CFn := c596s.1
theorem c596_ok : c596 = compFn Tryz.prog 596 := c596s.2.symm
def c597s : CL2 597 := ⟨_, by conv => lhs; reduce⟩
def c597 : CFn := c597s.1
theorem c597_ok : c597 = compFn Tryz.prog 597 := c597s.2.symm
def c598s : CL2 598 := ⟨_, by conv => lhs; reduce⟩
def c598 : CFn := c598s.1
theorem c598_ok : c598 = compFn Tryz.prog 598 := c598s.2.symm
def c599s : CL2 599 := ⟨_, by conv => lhs; reduce⟩
def c599 : CFn := c599s.1
theorem c599_ok : c599 = compFn Tryz.prog 599 := c599s.2.symm
def c600s : CL2 600 := ⟨_, by conv => lhs; reduce⟩
def c600 : CFn := c600s.1
theorem c600_ok : c600 = compFn Tryz.prog 600 := c600s.2.symm
def c601s : CL2 601 := ⟨_, by conv => lhs; reduce⟩
def c601 : CFn := c601s.1
theorem c601_ok : c601 = compFn Tryz.prog 601 := c601s.2.symm
def c602s : CL2 602 := ⟨_, by conv => lhs; reduce⟩
def c602 : CFn := c602s.1
theorem c602_ok : c602 = compFn Tryz.prog 602 := c602s.2.symm
def c603s : CL2 603 := ⟨_, by conv => lhs; reduce⟩
def c603 : CFn := c603s.1
theorem c603_ok : c603 = compFn Tryz.prog 603 := c603s.2.symm
def c604s : CL2 604 := ⟨_, by conv => lhs; reduce⟩
def c604 : CFn := c604s.1
theorem c604_ok : c604 = compFn Tryz.prog 604 := c604s.2.symm
def c605s : CL2 605 := ⟨_, by conv => lhs; reduce⟩
def c605 : CFn := c605s.1
theorem c605_ok : c605 = compFn Tryz.prog 605 := c605s.2.symm
def c606s : CL2 606 := ⟨_, by conv => lhs; reduce⟩
def c606 : CFn := c606s.1
theorem c606_ok : c606 = compFn Tryz.prog 606 := c606s.2.symm
def c607s : CL2 607 := ⟨_, by conv => lhs; reduce⟩
def c607 : CFn := c607s.1
theorem c607_ok : c607 = compFn Tryz.prog 607 := c607s.2.symm
def c608s : CL2 608 := ⟨_, by conv => lhs; reduce⟩
def c608 : CFn := c608s.1
theorem c608_ok : c608 = compFn Tryz.prog 608 := c608s.2.symm
def c609s : CL2 609 := ⟨_, by conv => lhs; reduce⟩
def c609 : CFn := c609s.1
theorem c609_ok : c609 = compFn Tryz.prog 609 := c609s.2.symm
def c610s : CL2 610 := ⟨_, by conv => lhs; reduce⟩
def c610 : CFn := c610s.1
theorem c610_ok : c610 = compFn Tryz.prog 610 := c610s.2.symm
def c611s : CL2 611 := ⟨_, by conv => lhs; reduce⟩
def c611 : CFn := c611s.1
theorem c611_ok : c611 = compFn Tryz.prog 611 := c611s.2.symm
def c612s : CL2 612 := ⟨_, by conv => lhs; reduce⟩
def c612 : CFn := c612s.1
theorem c612_ok : c612 = compFn Tryz.prog 612 := c612s.2.symm
def c613s : CL2 613 := ⟨_, by conv => lhs; reduce⟩
def c613 : CFn := c613s.1
theorem c613_ok : c613 = compFn Tryz.prog 613 := c613s.2.symm
def c614s : CL2 614 := ⟨_, by conv => lhs; reduce⟩
def c614 : CFn := c614s.1
theorem c614_ok : c614 = compFn Tryz.prog 614 := c614s.2.symm
def c615s : CL2 615 := ⟨_, by conv => lhs; reduce⟩
def c615 : CFn := c615s.1
theorem c615_ok : c615 = compFn Tryz.prog 615 := c615s.2.symm
def c616s : CL2 616 := ⟨_, by conv => lhs; reduce⟩
def c616 : CFn := c616s.1
theorem c616_ok : c616 = compFn Tryz.prog 616 := c616s.2.symm
def c617s : CL2 617 := ⟨_, by conv => lhs; reduce⟩
def c617 : CFn := c617s.1
theorem c617_ok : c617 = compFn Tryz.prog 617 := c617s.2.symm
def c618 : CFn := .bad 618
def c619 : CFn := .bad 619
def c620 : CFn := .bad 620
def c621 : CFn := .bad 621
def c622 : CFn := .bad 622
def c623 : CFn := .bad 623
def c624 : CFn := .bad 624
def c625 : CFn := .bad 625
def c626 : CFn := .bad 626
def c627s : CL2 627 := ⟨_, by conv => lhs; reduce⟩
def c627 : CFn := c627s.1
theorem c627_ok : c627 = compFn Tryz.prog 627 := c627s.2.symm
def c628 : CFn := .bad 628
def c629 : CFn := .bad 629
def c630 : CFn := .bad 630
def c631 : CFn := .bad 631
def c632 : CFn := .bad 632
def c633 : CFn := .bad 633
def c634 : CFn := .bad 634
def c635 : CFn := .bad 635
def c636 : CFn := .bad 636
def c637 : CFn := .bad 637
def c638 : CFn := .bad 638
def c639 : CFn := .bad 639
end Go.Ev
