/- Whether a text is among others: the walk of the document's Has. -/
import Derived.Test.YtkolecenifiaaaaGreatDoorNames
import Derived.Test.YtkolecenifiaaaaGreatDoorEvBag
import Derived.WalkKit
import Derived.MapKept
import Derived.Below
namespace Go.Proofs
open Go.RowKit
set_option linter.unusedVariables false
theorem any_take {zs:List ByteArray} {x:ByteArray} {k:Nat} (hk:k<zs.length) (h:zs[k]=x):(zs.any fun z=>z == x)=true:=
 List.any_eq_true.2 ⟨zs[k],List.getElem_mem hk,by rw [h]; exact (Go.MapKept.bytes_beq _ _).2 rfl⟩
set_option maxHeartbeats 1000000 in
theorem has_walk (b off n c:Nat) (zs:List ByteArray) (x:ByteArray) (w:World) (hl:zs.length=n) (hn:n≤1000) (hc:∀ j (hj:j<zs.length),w.cell? ⟨b,off+j,none⟩=some (.string zs[j])) :
 Calls Tryz.prog 17 #[.slice (some ⟨b,off,none⟩) n c,.string x] w fun e w'=>e=.returned (.bool (zs.any fun z=>z == x))∧w'=w:=by
 subst hl
 have HC:Hid (∀ j (hj:j<zs.length),w.cell? ⟨b,off+j,none⟩=some (.string zs[j])):=hc
 clear hc
 go_enter Tryz.func17,Tryz.ntmps17
 go_wp2
 go_loop [5] (fun i=>∃ k:Nat,k≤zs.length∧i=.int .i64 k∧∀ j (hj:j<zs.length),j<k→zs[j]≠x) (fun i=>zs.length - (Go.RowKit.intOf i).toNat)
 case atStart=>exact ⟨0,Nat.zero_le _,rfl,fun j _ h=>absurd h (Nat.not_lt_zero _)⟩
 case round=>
  obtain ⟨k,hk,rfl,hno⟩:=hrel
  have HN:Hid (∀ j (hj:j<zs.length),j<k→zs[j]≠x):=hno
  clear hno
  by_cases hlt:k<zs.length
  · have hcell:=HC.out k hlt
    go_wp2
    · have he:zs[k]=x:=(Go.MapKept.bytes_beq _ _).1 (by rw [beq_toListBytes]; exact ‹(zs[k].toList == x.toList)=true›)
      go_ret
      exact ⟨by rw [any_take hlt he]; rfl,rfl⟩
    · have he:zs[k]≠x:=by
       intro e
       have h:=‹(zs[k].toList == x.toList)=false›
       rw [e] at h
       simp at h
      go_round
      case rel=>exact ⟨k+1,by omega,by go_num,fun j hj hjk=>by
       by_cases ej:j=k
       · subst ej; exact he
       · exact HN.out j hj (by omega)⟩
      case measure=>simp [Go.RowKit.intOf]; omega
  · go_wp2
    go_ret
    refine ⟨?_,rfl⟩
    have:(zs.any fun z=>z == x)=false:=by
     rw [List.any_eq_false]
     intro z hz
     obtain ⟨j,hj,rfl⟩:=List.getElem_of_mem hz
     have:=HN.out j hj (by omega)
     intro e
     exact this ((Go.MapKept.bytes_beq _ _).1 e)
    rw [this]; rfl
end Go.Proofs
namespace Go.Ev
open Go.Proofs Go.RowKit
theorem hasS_fn:HasSFn Tryz.prog 17:=
 ⟨fun args w=>run_callFunc_enter Tryz.func17 (by kernel_rfl) (show Tryz.f17.body=some _ from rfl) args w,
  fun b off n c zs x w hl hn hc=>(has_walk b off n c zs x w hl hn hc).mono fun e w' h=>⟨h.1,by rw [h.2]; exact Below.refl _ _⟩⟩
end Go.Ev
