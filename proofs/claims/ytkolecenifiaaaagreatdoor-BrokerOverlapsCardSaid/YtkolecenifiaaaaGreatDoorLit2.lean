/- The compact code of the program's functions, written out, and that it is what the compiler makes of them (2). -/
import Derived.Test.YtkolecenifiaaaaGreatDoorEvSym
import Derived.Test.YtkolecenifiaaaaGreatDoorProg
import Derived.KernelRfl
namespace Go.Ev
open Go.Proofs
set_option maxRecDepth 1000000
set_option maxHeartbeats 8000000
abbrev CL2(n:Nat):Type:={c:CFn // compFn Tryz.prog n=c}
def c278s:CL2 278:=⟨_,by conv=>lhs; reduce⟩
def c279s:CL2 279:=⟨_,by conv=>lhs; reduce⟩
def c280s:CL2 280:=⟨_,by conv=>lhs; reduce⟩
def c281s:CL2 281:=⟨_,by conv=>lhs; reduce⟩
def c292s:CL2 292:=⟨_,by conv=>lhs; reduce⟩
def c301s:CL2 301:=⟨_,by conv=>lhs; reduce⟩
def c302s:CL2 302:=⟨_,by conv=>lhs; reduce⟩
def c303s:CL2 303:=⟨_,by conv=>lhs; reduce⟩
def c304s:CL2 304:=⟨_,by conv=>lhs; reduce⟩
def c307s:CL2 307:=⟨_,by conv=>lhs; reduce⟩
def c308s:CL2 308:=⟨_,by conv=>lhs; reduce⟩
def c309s:CL2 309:=⟨_,by conv=>lhs; reduce⟩
def c310s:CL2 310:=⟨_,by conv=>lhs; reduce⟩
def c311s:CL2 311:=⟨_,by conv=>lhs; reduce⟩
def c312s:CL2 312:=⟨_,by conv=>lhs; reduce⟩
def c316s:CL2 316:=⟨_,by conv=>lhs; reduce⟩
def c317s:CL2 317:=⟨_,by conv=>lhs; reduce⟩
def c321s:CL2 321:=⟨_,by conv=>lhs; reduce⟩
def c326s:CL2 326:=⟨_,by conv=>lhs; reduce⟩
def c327s:CL2 327:=⟨_,by conv=>lhs; reduce⟩
def c328s:CL2 328:=⟨_,by conv=>lhs; reduce⟩
def c329s:CL2 329:=⟨_,by conv=>lhs; reduce⟩
def c330s:CL2 330:=⟨_,by conv=>lhs; reduce⟩
def c331s:CL2 331:=⟨_,by conv=>lhs; reduce⟩
def c332s:CL2 332:=⟨_,by conv=>lhs; reduce⟩
def c333s:CL2 333:=⟨_,by conv=>lhs; reduce⟩
def c334s:CL2 334:=⟨_,by conv=>lhs; reduce⟩
def c342s:CL2 342:=⟨_,by conv=>lhs; reduce⟩
def c345s:CL2 345:=⟨_,by conv=>lhs; reduce⟩
def c346s:CL2 346:=⟨_,by conv=>lhs; reduce⟩
def c347s:CL2 347:=⟨_,by conv=>lhs; reduce⟩
def c348s:CL2 348:=⟨_,by conv=>lhs; reduce⟩
def c349s:CL2 349:=⟨_,by conv=>lhs; reduce⟩
def c350s:CL2 350:=⟨_,by conv=>lhs; reduce⟩
def c351s:CL2 351:=⟨_,by conv=>lhs; reduce⟩
def c355s:CL2 355:=⟨_,by conv=>lhs; reduce⟩
def c356s:CL2 356:=⟨_,by conv=>lhs; reduce⟩
def c375s:CL2 375:=⟨_,by conv=>lhs; reduce⟩
def c376s:CL2 376:=⟨_,by conv=>lhs; reduce⟩
def c380s:CL2 380:=⟨_,by conv=>lhs; reduce⟩
def c381s:CL2 381:=⟨_,by conv=>lhs; reduce⟩
def c382s:CL2 382:=⟨_,by conv=>lhs; reduce⟩
def c383s:CL2 383:=⟨_,by conv=>lhs; reduce⟩
def c387s:CL2 387:=⟨_,by conv=>lhs; reduce⟩
def c388s:CL2 388:=⟨_,by conv=>lhs; reduce⟩
def c389s:CL2 389:=⟨_,by conv=>lhs; reduce⟩
def c390s:CL2 390:=⟨_,by conv=>lhs; reduce⟩
def c391s:CL2 391:=⟨_,by conv=>lhs; reduce⟩
def c392s:CL2 392:=⟨_,by conv=>lhs; reduce⟩
def c393s:CL2 393:=⟨_,by conv=>lhs; reduce⟩
def c394s:CL2 394:=⟨_,by conv=>lhs; reduce⟩
def c395s:CL2 395:=⟨_,by conv=>lhs; reduce⟩
def c396s:CL2 396:=⟨_,by conv=>lhs; reduce⟩
def c397s:CL2 397:=⟨_,by conv=>lhs; reduce⟩
def c398s:CL2 398:=⟨_,by conv=>lhs; reduce⟩
def c399s:CL2 399:=⟨_,by conv=>lhs; reduce⟩
def c400s:CL2 400:=⟨_,by conv=>lhs; reduce⟩
def c401s:CL2 401:=⟨_,by conv=>lhs; reduce⟩
def c402s:CL2 402:=⟨_,by conv=>lhs; reduce⟩
def c403s:CL2 403:=⟨_,by conv=>lhs; reduce⟩
def c404s:CL2 404:=⟨_,by conv=>lhs; reduce⟩
def c405s:CL2 405:=⟨_,by conv=>lhs; reduce⟩
def c406s:CL2 406:=⟨_,by conv=>lhs; reduce⟩
def c407s:CL2 407:=⟨_,by conv=>lhs; reduce⟩
def c408s:CL2 408:=⟨_,by conv=>lhs; reduce⟩
def c409s:CL2 409:=⟨_,by conv=>lhs; reduce⟩
def c410s:CL2 410:=⟨_,by conv=>lhs; reduce⟩
def c411s:CL2 411:=⟨_,by conv=>lhs; reduce⟩
def c412s:CL2 412:=⟨_,by conv=>lhs; reduce⟩
def c414s:CL2 414:=⟨_,by conv=>lhs; reduce⟩
def c415s:CL2 415:=⟨_,by conv=>lhs; reduce⟩
def c416s:CL2 416:=⟨_,by conv=>lhs; reduce⟩
def c427s:CL2 427:=⟨_,by conv=>lhs; reduce⟩
def c428s:CL2 428:=⟨_,by conv=>lhs; reduce⟩
def c429s:CL2 429:=⟨_,by conv=>lhs; reduce⟩
def c431s:CL2 431:=⟨_,by conv=>lhs; reduce⟩
def c432s:CL2 432:=⟨_,by conv=>lhs; reduce⟩
def c433s:CL2 433:=⟨_,by conv=>lhs; reduce⟩
def c434s:CL2 434:=⟨_,by conv=>lhs; reduce⟩
def c435s:CL2 435:=⟨_,by conv=>lhs; reduce⟩
def c436s:CL2 436:=⟨_,by conv=>lhs; reduce⟩
def c437s:CL2 437:=⟨_,by conv=>lhs; reduce⟩
def c439s:CL2 439:=⟨_,by conv=>lhs; reduce⟩
def c441s:CL2 441:=⟨_,by conv=>lhs; reduce⟩
def c443s:CL2 443:=⟨_,by conv=>lhs; reduce⟩
def c444s:CL2 444:=⟨_,by conv=>lhs; reduce⟩
def c445s:CL2 445:=⟨_,by conv=>lhs; reduce⟩
def c446s:CL2 446:=⟨_,by conv=>lhs; reduce⟩
def c447s:CL2 447:=⟨_,by conv=>lhs; reduce⟩
def c448s:CL2 448:=⟨_,by conv=>lhs; reduce⟩
def c449s:CL2 449:=⟨_,by conv=>lhs; reduce⟩
def c450s:CL2 450:=⟨_,by conv=>lhs; reduce⟩
def c455s:CL2 455:=⟨_,by conv=>lhs; reduce⟩
def c457s:CL2 457:=⟨_,by conv=>lhs; reduce⟩
def c458s:CL2 458:=⟨_,by conv=>lhs; reduce⟩
def c459s:CL2 459:=⟨_,by conv=>lhs; reduce⟩
def c462s:CL2 462:=⟨_,by conv=>lhs; reduce⟩
def c464s:CL2 464:=⟨_,by conv=>lhs; reduce⟩
end Go.Ev
