/- A verified evaluator for the model's code: EvCov, EvLoop, EvInv, EvTwo. -/
import Derived.Test.YtglaococfplhpaaGreatDoorEvSym
set_option linter.unusedSectionVars false
set_option linter.unusedVariables false
set_option linter.unusedSimpArgs false
namespace Go.Ev
noncomputable section
variable {P : Program}
abbrev TH := List (Int × LL)
def subL (θ : TH) : LL → Option (Int × LL)
  | [] => some (0, [])
  | p :: r => match nth θ p.1, subL θ r with
    | some q, some s => some (p.2 * q.1 + s.1, addL (mulL p.2 q.2) s.2)
    | _, _ => none
def ThOk (σs σT : Nat → Int) (θ : TH) : Prop := ∀ j q, nth θ j = some q → σT j = q.1 + evL σs q.2
theorem subL_ok {σs σT : Nat → Int} {θ : TH} (hθ : ThOk σs σT θ) : ∀ {l : LL} {s : Int × LL}, subL θ l = some s → evL σT l = s.1 + evL σs s.2
  | [], s, h => by
    injection h with h; subst h
    simp [evL]
  | p :: r, s, h => by
    unfold subL at h
    split at h
    · rename_i q u hq hu
      injection h with h; subst h
      have h1 := hθ _ _ hq
      have h2 := subL_ok hθ hu
      show p.2 * σT p.1 + evL σT r = _
      rw [h1, h2, evL_add, evL_mul, Int.mul_add]
      omega
    · cases h
def seIs (θ : TH) (e : SE) (v : CV) : Bool := match form v with
  | some (k, c, l) => match subL θ e.l with
    | some s => kEq e.k k && intEq (e.c + s.1) c && llEq s.2 l
    | none => false
  | none => false
def rhoOf (m : Heap) (k : Key) : Option Key := match getH k m with
  | some (.cells (.ptr b _ :: _)) => some b
  | _ => none
def covK (ρ : Heap) (k j : Key) : Bool := match rhoOf ρ k with
  | some b => decide (b = j)
  | none => false
def kindIs (k : IntKind) (v : CV) : Bool := match v with
  | .anyi j => kEq k j
  | v => match form v with
    | some (j, _, _) => kEq k j
    | none => false
mutual
def covV (ρ : Heap) (θ : TH) : CV → CV → Bool
  | .any, _ => true
  | .sym e, v => seIs θ e v
  | .bool a, .bool b => a == b
  | .nat a, .nat b => Nat.beq a b
  | .int k a, .int j b => kEq k j && intEq a b
  | .anyi k, v => kindIs k v
  | .str a, .str b => strEq a b
  | .nilptr, .nilptr => true
  | .ptr k o, .ptr j p => covK ρ k j && Nat.beq o p
  | .nilsl, .nilsl => true
  | .sl k o l c e x, .sl k' o' l' c' e' x' => covK ρ k k' && Nat.beq o o' && Nat.beq l l' && Nat.beq e e' && x == x' && (Nat.beq c c' || (!x && Nat.ble c c'))
  | .nilmap, .nilmap => true
  | .map k, .map j => covK ρ k j
  | .func f a b, .func g c d => decide (f = g) && covVs ρ θ a c && covVs ρ θ b d
  | .nilfunc, .nilfunc => true
  | .iface t v, .iface u w => Nat.beq t u && covV ρ θ v w
  | .niliface, .niliface => true
  | .agg a, .agg b => covVs ρ θ a b
  | .tup a, .tup b => covVs ρ θ a b
  | .sst a, .sst b => covVs ρ θ a b
  | _, _ => false
def covVs (ρ : Heap) (θ : TH) : List CV → List CV → Bool
  | [], [] => true
  | a :: as, b :: bs => covV ρ θ a b && covVs ρ θ as bs
  | _, _ => false
end
def PsOk (ρ : Heap) (ψs ψT : Psi) : Prop := ∀ k j p, covK ρ k j = true → ψs j = some p → ∃ p', ψT k = some p' ∧ p'.blk = p.blk ∧ p'.off = p.off ∧ p'.sz = p.sz
section
variable {σs σT : Nat → Int} {Ks KT : Known} {θ : TH} {ρ : Heap} {ψs ψT : Psi}
theorem seIs_ok (hθ : ThOk σs σT θ) {e : SE} {d : CV} (h : seIs θ e d = true) {v : Value} (hv : @VRel (linSym σs Ks) ψs d v) : v = .int e.k (evE σT e) := by
  unfold seIs at h
  split at h
  · rename_i k c l hf
    split at h
    · rename_i s hs
      rw [Bool.and_eq_true, Bool.and_eq_true, @kEq_iff noSym, @intEq_iff noSym, decide_eq_true_eq, decide_eq_true_eq] at h
      have h1 := form_spec d hf hv
      have h2 := subL_ok hθ hs
      have h3 := @llEq_eq noSym _ _ h.2
      rw [h1, h.1.1, ← h.1.2]
      unfold evE
      rw [h2, h3, Int.add_assoc]
    · cases h
  · cases h
theorem kindIs_ok {k : IntKind} {d : CV} (h : kindIs k d = true) {v : Value} (hv : @VRel (linSym σs Ks) ψs d v) : ∃ n, v = .int k n := by
  unfold kindIs at h
  split at h
  · rename_i j
    rw [@kEq_iff noSym, decide_eq_true_eq] at h
    subst h
    exact (@vrel_anyi (linSym σs Ks) _ _ _).1 hv
  · split at h
    · rename_i j c l hf
      rw [@kEq_iff noSym, decide_eq_true_eq] at h
      subst h
      exact ⟨_, form_spec d hf hv⟩
    · cases h
mutual
theorem covV_ok (hθ : ThOk σs σT θ) (hψ : PsOk ρ ψs ψT) : ∀ (c d : CV) {v : Value}, covV ρ θ c d = true → @VRel (linSym σs Ks) ψs d v → @VRel (linSym σT KT) ψT c v
  | .any, _, _, _, _ => @vrel_any (linSym σT KT) _ _
  | .sym e, d, v, h, hv => by
    rw [covV] at h
    rw [@vrel_sym (linSym σT KT)]
    exact seIs_ok hθ h hv
  | .anyi k, d, v, h, hv => by
    rw [covV] at h
    rw [@vrel_anyi (linSym σT KT)]
    exact kindIs_ok h hv
  | .bool a, d, v, h, hv => by
    cases d <;> try (simp [covV] at h; done)
    simp only [covV, beq_iff_eq] at h
    subst h
    rw [@vrel_bool (linSym σs Ks)] at hv
    rw [@vrel_bool (linSym σT KT)]; exact hv
  | .nat a, d, v, h, hv => by
    cases d <;> try (simp [covV] at h; done)
    simp only [covV] at h
    obtain rfl := @beq_yes noSym _ _ h
    rw [@vrel_nat (linSym σs Ks)] at hv
    rw [@vrel_nat (linSym σT KT)]; exact hv
  | .int k a, d, v, h, hv => by
    cases d <;> try (simp [covV] at h; done)
    simp only [covV, Bool.and_eq_true, @kEq_iff noSym, @intEq_iff noSym, decide_eq_true_eq] at h
    obtain ⟨rfl, rfl⟩ := h
    rw [@vrel_int (linSym σs Ks)] at hv
    rw [@vrel_int (linSym σT KT)]; exact hv
  | .str a, d, v, h, hv => by
    cases d <;> try (simp [covV] at h; done)
    simp only [covV, @strEq_iff noSym, decide_eq_true_eq] at h
    subst h
    rw [@vrel_str (linSym σs Ks)] at hv
    rw [@vrel_str (linSym σT KT)]; exact hv
  | .nilptr, d, v, h, hv => by
    cases d <;> try (simp [covV] at h; done)
    rw [@vrel_nilptr (linSym σs Ks)] at hv
    rw [@vrel_nilptr (linSym σT KT)]; exact hv
  | .ptr k o, d, v, h, hv => by
    cases d <;> try (simp [covV] at h; done)
    simp only [covV, Bool.and_eq_true] at h
    obtain rfl := @beq_yes noSym _ _ h.2
    rw [@vrel_ptr (linSym σs Ks)] at hv
    obtain ⟨p, hp, rfl⟩ := hv
    obtain ⟨p', h1, h2, h3, h4⟩ := hψ _ _ _ h.1 hp
    rw [@vrel_ptr (linSym σT KT)]
    exact ⟨p', h1, by rw [h2, h3]⟩
  | .nilsl, d, v, h, hv => by
    cases d <;> try (simp [covV] at h; done)
    rw [@vrel_nilsl (linSym σs Ks)] at hv
    rw [@vrel_nilsl (linSym σT KT)]; exact hv
  | .sl k o l c e x, d, v, h, hv => by
    cases d <;> try (simp [covV] at h; done)
    rename_i k' o' l' c' e' x'
    simp only [covV, Bool.and_eq_true, beq_iff_eq] at h
    obtain ⟨⟨⟨⟨⟨hk, ho⟩, hl⟩, he⟩, hx⟩, hc⟩ := h
    obtain rfl := @beq_yes noSym _ _ ho
    obtain rfl := @beq_yes noSym _ _ hl
    obtain rfl := @beq_yes noSym _ _ he
    subst hx
    rw [@vrel_sl (linSym σs Ks)] at hv
    obtain ⟨p, y, cap', hp, rfl, h1, h2, h3, h4⟩ := hv
    obtain ⟨p', g1, g2, g3, g4⟩ := hψ _ _ _ hk hp
    rw [@vrel_sl (linSym σT KT)]
    refine ⟨p', y, cap', g1, by rw [g2], ?_, h2, ?_, ?_⟩
    · rw [Bool.or_eq_true, Bool.and_eq_true] at hc
      rcases hc with hc | hc
      · rw [@beq_yes noSym _ _ hc]; exact h1
      · have := @ble_yes noSym _ _ hc.2; omega
    · intro hx
      subst hx
      rw [Bool.or_eq_true, Bool.and_eq_true] at hc
      rcases hc with hc | hc
      · rw [@beq_yes noSym _ _ hc]; exact h3 rfl
      · simp at hc
    · rw [g3, g4]; exact h4
  | .nilmap, d, v, h, hv => by
    cases d <;> try (simp [covV] at h; done)
    rw [@vrel_nilmap (linSym σs Ks)] at hv
    rw [@vrel_nilmap (linSym σT KT)]; exact hv
  | .map k, d, v, h, hv => by
    cases d <;> try (simp [covV] at h; done)
    simp only [covV] at h
    rw [@vrel_map (linSym σs Ks)] at hv
    obtain ⟨p, hp, rfl⟩ := hv
    obtain ⟨p', h1, h2, h3, h4⟩ := hψ _ _ _ h hp
    rw [@vrel_map (linSym σT KT)]
    exact ⟨p', h1, by rw [h2]⟩
  | .func f a b, d, v, h, hv => by
    cases d <;> try (simp [covV] at h; done)
    simp only [covV, Bool.and_eq_true, decide_eq_true_eq] at h
    obtain ⟨⟨rfl, h1⟩, h2⟩ := h
    rw [@vrel_func (linSym σs Ks)] at hv
    obtain ⟨a', b', rfl, g1, g2⟩ := hv
    rw [@vrel_func (linSym σT KT)]
    exact ⟨a', b', rfl, covVs_ok hθ hψ a _ h1 g1, covVs_ok hθ hψ b _ h2 g2⟩
  | .nilfunc, d, v, h, hv => by
    cases d <;> try (simp [covV] at h; done)
    rw [@vrel_nilfunc (linSym σs Ks)] at hv
    rw [@vrel_nilfunc (linSym σT KT)]; exact hv
  | .iface t x, d, v, h, hv => by
    cases d <;> try (simp [covV] at h; done)
    simp only [covV, Bool.and_eq_true] at h
    obtain rfl := @beq_yes noSym _ _ h.1
    rw [@vrel_iface (linSym σs Ks)] at hv
    obtain ⟨y, rfl, g⟩ := hv
    rw [@vrel_iface (linSym σT KT)]
    exact ⟨y, rfl, covV_ok hθ hψ x _ h.2 g⟩
  | .niliface, d, v, h, hv => by
    cases d <;> try (simp [covV] at h; done)
    rw [@vrel_niliface (linSym σs Ks)] at hv
    rw [@vrel_niliface (linSym σT KT)]; exact hv
  | .agg a, d, v, h, hv => by
    cases d <;> try (simp [covV] at h; done)
    simp only [covV] at h
    rw [@vrel_agg (linSym σs Ks)] at hv
    obtain ⟨a', rfl, g⟩ := hv
    rw [@vrel_agg (linSym σT KT)]
    exact ⟨a', rfl, covVs_ok hθ hψ a _ h g⟩
  | .tup a, d, v, h, hv => by
    cases d <;> try (simp [covV] at h; done)
    simp only [covV] at h
    rw [@vrel_tup (linSym σs Ks)] at hv
    obtain ⟨a', rfl, g⟩ := hv
    rw [@vrel_tup (linSym σT KT)]
    exact ⟨a', rfl, covVs_ok hθ hψ a _ h g⟩
  | .sst a, d, v, h, hv => by
    cases d <;> try (simp [covV] at h; done)
    simp only [covV] at h
    rw [@vrel_sst (linSym σs Ks)] at hv
    obtain ⟨b, rfl, g⟩ := hv
    rw [@vrel_sst (linSym σT KT)]
    exact ⟨b, rfl, covVs_ok hθ hψ a _ h g⟩
  | .win .., d, v, h, hv => by
    cases d <;> simp [covV] at h
theorem covVs_ok (hθ : ThOk σs σT θ) (hψ : PsOk ρ ψs ψT) : ∀ (cs ds : List CV) {l : List Value}, covVs ρ θ cs ds = true → @VRels (linSym σs Ks) ψs ds l → @VRels (linSym σT KT) ψT cs l
  | [], [], l, _, hl => by
    rw [@vrels_nil (linSym σs Ks)] at hl
    rw [@vrels_nil (linSym σT KT)]; exact hl
  | [], _ :: _, _, h, _ => by simp [covVs] at h
  | _ :: _, [], _, h, _ => by simp [covVs] at h
  | c :: cs, d :: ds, l, h, hl => by
    simp only [covVs, Bool.and_eq_true] at h
    rw [@vrels_cons (linSym σs Ks)] at hl
    obtain ⟨v, r, rfl, h1, h2⟩ := hl
    exact (@vrels_cons' (linSym σT KT) _ _ _ _ _).2 ⟨covV_ok hθ hψ c d h.1 h1, covVs_ok hθ hψ cs ds h.2 h2⟩
end
def covPre (ρ : Heap) (θ : TH) : List CV → List CV → Bool
  | [], _ => true
  | a :: as, b :: bs => covV ρ θ a b && covPre ρ θ as bs
  | _ :: _, [] => false
def covEs (ρ : Heap) (θ : TH) : List CE → List CE → Bool
  | [], [] => true
  | a :: as, b :: bs => covV ρ θ a.key b.key && covV ρ θ a.val b.val && covEs ρ θ as bs
  | _, _ => false
def strLe : List Nat → List Nat → Bool
  | [], _ => true
  | _ :: _, [] => false
  | a :: x, b :: y => match Nat.beq a b with
    | true => strLe x y
    | false => Nat.ble a b
def keyLe (a b : CV) : Bool := match a, b with
  | .str x, .str y => strLe x y
  | .nat x, .nat y => Nat.ble x y
  | _, _ => true
def insE (e : CE) : List CE → List CE
  | [] => [e]
  | c :: l => match keyLe e.key c.key with
    | true => e :: c :: l
    | false => c :: insE e l
def canE : List CE → List CE
  | [] => []
  | e :: l => insE e (canE l)
theorem insE_perm {e : CE} : ∀ {l : List CE}, (insE e l).Perm (e :: l)
  | [] => List.Perm.refl _
  | c :: l => by
    unfold insE
    split
    · exact List.Perm.refl _
    · exact (List.Perm.cons c insE_perm).trans (List.Perm.swap e c l)
theorem canE_perm : ∀ {l : List CE}, (canE l).Perm l
  | [] => List.Perm.refl _
  | e :: l => insE_perm.trans (List.Perm.cons e canE_perm)
def noStamp (b : Nat) : List CE → Bool
  | [] => true
  | e :: r => !(Nat.beq b e.born) && noStamp b r
def upB : List CE → Nat → Bool
  | [], _ => true
  | e :: r, clock => Nat.ble (Nat.succ e.born) clock && noStamp e.born r && upB r clock
def numB : List CE → Nat → Nat → Bool
  | [], i, clock => Nat.beq i clock
  | e :: r, i, clock => Nat.beq e.born i && numB r (Nat.succ i) clock
def covO (ρ : Heap) (θ : TH) : CObj → CObj → Bool
  | .cells a, .cells b => covPre ρ θ a b
  | .cells a, .full _ b => covPre ρ θ a b
  | .map es c, .map es' c' => covEs ρ θ es (canE es') && numB es 0 c && upB (canE es') c'
  | _, _ => false
theorem covPre_ok : ∀ {as bs : List CV}, covPre ρ θ as bs = true → as.length ≤ bs.length ∧ ∀ (i : Nat) (c : CV), as[i]? = some c → ∃ d, bs[i]? = some d ∧ covV ρ θ c d = true
  | [], bs, _ => ⟨Nat.zero_le _, fun i c h => by simp at h⟩
  | _ :: _, [], h => by cases h
  | a :: as, b :: bs, h => by
    unfold covPre at h
    rw [Bool.and_eq_true] at h
    obtain ⟨h1, h2⟩ := covPre_ok h.2
    refine ⟨by simp; exact h1, fun i c hc => ?_⟩
    cases i with
    | zero => simp at hc; subst hc; exact ⟨b, rfl, h.1⟩
    | succ i => exact h2 i c (by simpa using hc)
theorem covPre_cells (hθ : ThOk σs σT θ) (hψ : PsOk ρ ψs ψT) {as bs : List CV} (h : covPre ρ θ as bs = true) {w : World} {p p' : Pl} (h1 : p'.blk = p.blk) (h2 : p'.off = p.off) (h3 : p'.sz = p.sz)
    (hc : @CellsAt (linSym σs Ks) ψs w p bs) : @CellsAt (linSym σT KT) ψT w p' as := by
  obtain ⟨arr, elem, fz, g1, g2, g3, g4, g5⟩ := hc
  obtain ⟨q1, q2⟩ := covPre_ok h
  refine ⟨arr, elem, fz, by rw [h1]; exact g1, by rw [h3]; exact g2, by rw [h2, h3]; omega, by rw [h3]; exact g4, fun i c hi => ?_⟩
  obtain ⟨d, hd, hcd⟩ := q2 i c hi
  obtain ⟨x, hx, hr⟩ := g5 i d hd
  exact ⟨x, by rw [h2]; exact hx, covV_ok hθ hψ c d hcd hr⟩
def newCk (bs : List CE) (clock : Nat) (j : Nat) : Nat := match bs[j]? with
  | some e => e.born
  | none => clock + (j - bs.length)
theorem upB_old : ∀ {bs : List CE} {clock : Nat}, upB bs clock = true → ∀ (j : Nat) (e : CE), bs[j]? = some e → e.born < clock
  | [], clock, h, j, e, he => by simp at he
  | b :: bs, clock, h, j, e, he => by
    unfold upB at h
    rw [Bool.and_eq_true, Bool.and_eq_true] at h
    have h1 := @ble_yes noSym _ _ h.1.1
    cases j with
    | zero => simp at he; subst he; omega
    | succ j => exact upB_old h.2 j e (by simpa using he)
theorem noStamp_ok {b : Nat} : ∀ {l : List CE}, noStamp b l = true → ∀ e ∈ l, e.born ≠ b
  | [], _, e, he => by cases he
  | x :: l, h, e, he => by
    unfold noStamp at h
    rw [Bool.and_eq_true] at h
    rcases List.mem_cons.1 he with rfl | he
    · intro q
      rw [← q, @beq_self noSym] at h; simp at h
    · exact noStamp_ok h.2 e he
theorem upB_ne : ∀ {bs : List CE} {clock : Nat}, upB bs clock = true → ∀ (i j : Nat) (a b : CE), i < j → bs[i]? = some a → bs[j]? = some b → b.born ≠ a.born
  | [], clock, h, i, j, a, b, _, h1, _ => by simp at h1
  | c :: bs, clock, h, i, j, a, b, hij, h1, h2 => by
    unfold upB at h
    rw [Bool.and_eq_true, Bool.and_eq_true] at h
    cases j with
    | zero => omega
    | succ j =>
      have h2 : bs[j]? = some b := by simpa using h2
      cases i with
      | zero =>
        simp at h1; subst h1
        exact noStamp_ok h.1.2 b (List.mem_of_getElem? h2)
      | succ i => exact upB_ne h.2 i j a b (by omega) (by simpa using h1) h2
theorem newCk_one {bs : List CE} {clock : Nat} (h : upB bs clock = true) : ∀ a b, newCk bs clock a = newCk bs clock b → a = b := by
  have key : ∀ a b, a < b → newCk bs clock a ≠ newCk bs clock b := by
    intro a b hab
    unfold newCk
    cases ha : bs[a]? with
    | none =>
      have hla := List.getElem?_eq_none_iff.1 ha
      rw [List.getElem?_eq_none (by omega)]
      simp only; omega
    | some x =>
      cases hb : bs[b]? with
      | none =>
        have := upB_old h a x ha
        simp only; omega
      | some y =>
        have := upB_ne h a b x y hab ha hb
        simp only; exact fun e => this e.symm
  intro a b e
  rcases Nat.lt_trichotomy a b with q | q | q
  · exact absurd e (key a b q)
  · exact q
  · exact absurd e.symm (key b a q)
theorem newCk_run {bs : List CE} {clock : Nat} (k : Nat) : newCk bs clock (bs.length + k) = clock + k := by
  unfold newCk
  rw [List.getElem?_eq_none (by omega)]
  simp only; omega
theorem newCk_lt {bs : List CE} {clock : Nat} (h : upB bs clock = true) (k x : Nat) : x < bs.length + k ↔ newCk bs clock x < clock + k := by
  unfold newCk
  cases hx : bs[x]? with
  | none =>
    have := List.getElem?_eq_none_iff.1 hx
    simp only; omega
  | some e =>
    have h1 := upB_old h x e hx
    have h2 := (List.getElem?_eq_some_iff.1 hx).1
    simp only
    exact ⟨fun _ => by omega, fun _ => by omega⟩
theorem newCk_ok {bs : List CE} {clock : Nat} (h : upB bs clock = true) {ck : Nat → Nat} (hc : CkOk ck clock) : CkOk (fun j => ck (newCk bs clock j)) bs.length := by
  refine ⟨fun a b hab => newCk_one h a b (hc.one _ _ hab), fun k x => ?_, fun k => ?_⟩
  · show _ ↔ ck (newCk bs clock x) < ck (newCk bs clock (bs.length + k))
    rw [newCk_run, newCk_lt h k x]
    exact hc.cmp k _
  · show ck (newCk bs clock (bs.length + k)) = ck (newCk bs clock bs.length) + k
    have h0 : newCk bs clock bs.length = clock := newCk_run 0
    rw [newCk_run, h0, hc.run]
theorem covEs_length : ∀ {as bs : List CE}, covEs ρ θ as bs = true → as.length = bs.length
  | [], [], _ => rfl
  | [], _ :: _, h => by cases h
  | _ :: _, [], h => by cases h
  | a :: as, b :: bs, h => by
    unfold covEs at h
    rw [Bool.and_eq_true] at h
    simp [covEs_length h.2]
theorem numB_spec : ∀ {es : List CE} {i clock : Nat}, numB es i clock = true → clock = i + es.length ∧ ∀ (j : Nat) (e : CE), es[j]? = some e → e.born = i + j
  | [], i, clock, h => ⟨by have := @beq_yes noSym _ _ h; simp; omega, fun j e he => by simp at he⟩
  | a :: es, i, clock, h => by
    unfold numB at h
    rw [Bool.and_eq_true] at h
    have h1 := @beq_yes noSym _ _ h.1
    obtain ⟨h2, h3⟩ := numB_spec h.2
    refine ⟨by simp; omega, fun j e he => ?_⟩
    cases j with
    | zero => simp at he; subst he; omega
    | succ j => have := h3 j e (by simpa using he); omega
theorem covEs_ok (hθ : ThOk σs σT θ) (hψ : PsOk ρ ψs ψT) {ck ck' : Nat → Nat} : ∀ {as bs : List CE} {l : List MapEntry}, covEs ρ θ as bs = true →
    (∀ (j : Nat) (a b : CE), as[j]? = some a → bs[j]? = some b → ck' a.born = ck b.born) → @CERels (linSym σs Ks) ψs ck bs l → @CERels (linSym σT KT) ψT ck' as l
  | [], [], l, _, _, hl => hl
  | [], _ :: _, _, h, _, _ => by cases h
  | _ :: _, [], _, h, _, _ => by cases h
  | a :: as, b :: bs, l, h, hb, hl => by
    unfold covEs at h
    rw [Bool.and_eq_true, Bool.and_eq_true] at h
    obtain ⟨e, r, rfl, ⟨h1, h2, h3⟩, h4⟩ := hl
    exact ⟨e, r, rfl, ⟨covV_ok hθ hψ _ _ h.1.1 h1, covV_ok hθ hψ _ _ h.1.2 h2, by rw [h3]; exact (hb 0 a b rfl rfl).symm⟩,
      covEs_ok hθ hψ h.2 (fun j x y hx hy => hb (j + 1) x y (by simpa using hx) (by simpa using hy)) h4⟩
theorem ce_perm {S : Sym} {ψ : Psi} {ck : Nat → Nat} {cs ds : List CE} (hp : ds.Perm cs) : ∀ {l : List MapEntry}, @CERels S ψ ck cs l → ∃ l', l'.Perm l ∧ @CERels S ψ ck ds l' := by
  induction hp with
  | nil => intro l h; exact ⟨l, List.Perm.refl _, h⟩
  | cons x _ ih =>
    rintro l ⟨e, r, rfl, hx, hr⟩
    obtain ⟨r', g1, g2⟩ := ih hr
    exact ⟨e :: r', List.Perm.cons e g1, e, r', rfl, hx, g2⟩
  | swap x y m =>
    rintro l ⟨e, r, rfl, hx, e', r', rfl, hy, hr⟩
    exact ⟨e' :: e :: r', List.Perm.swap e e' r', e', _, rfl, hy, e, r', rfl, hx, hr⟩
  | trans _ _ ih1 ih2 =>
    intro l h
    obtain ⟨l1, g1, g2⟩ := ih2 h
    obtain ⟨l2, g3, g4⟩ := ih1 g2
    exact ⟨l2, g3.trans g1, g4⟩
def ckOf (o : Option CObj) (ck : Nat → Nat) : Nat → Nat := match o with
  | some (.map es clock) => fun j => ck (newCk (canE es) clock j)
  | _ => ck
theorem covO_ok (hθ : ThOk σs σT θ) (hψ : PsOk ρ ψs ψT) {o o' : CObj} (h : covO ρ θ o o' = true) {w : World} {p p' : Pl} (h1 : p'.blk = p.blk) (h2 : p'.off = p.off) (h3 : p'.sz = p.sz) (h4 : p'.ck = ckOf (some o') p.ck)
    (ho : @ORel (linSym σs Ks) ψs w p o') : @ORel (linSym σT KT) ψT w p' o ∧ o.isRo = false ∧ o'.isRo = false := by
  unfold covO at h
  split at h
  · exact ⟨covPre_cells hθ hψ h h1 h2 h3 ho, rfl, rfl⟩
  · exact ⟨covPre_cells hθ hψ h h1 h2 h3 (@FullAt.toCells (linSym σs Ks) _ _ _ _ _ ho), rfl, rfl⟩
  · rename_i es c es' c'
    rw [Bool.and_eq_true, Bool.and_eq_true] at h
    refine ⟨?_, rfl, rfl⟩
    obtain ⟨arr, g1, ⟨l0, gp, g2⟩, g3⟩ := ho
    have hlen := covEs_length h.1.1
    obtain ⟨n1, n2⟩ := numB_spec h.1.2
    have hc : c = (canE es').length := by omega
    have h4 : p'.ck = fun j => p.ck (newCk (canE es') c' j) := h4
    obtain ⟨l1, gq, g2⟩ := ce_perm (canE_perm (l := es')) g2
    refine ⟨arr, ?_, ⟨l1, gq.trans gp, ?_⟩, ?_⟩
    · rw [h1, g1, h4, hc]
      show _ = some (Obj.map arr (p.ck (newCk (canE es') c' (canE es').length)))
      have h0 : newCk (canE es') c' (canE es').length = c' := newCk_run 0
      rw [h0]
    · refine covEs_ok hθ hψ h.1.1 (fun j a b ha hb => ?_) g2
      rw [h4]
      show p.ck (newCk (canE es') c' a.born) = _
      rw [n2 j a ha, Nat.zero_add]
      unfold newCk
      rw [hb]
    · rw [h4, hc]
      exact newCk_ok h.2 g3
  · cases h
end
structure Win where
  key : Key
  esz : Nat
  base : Option Addr
  B : Nat
  x : Nat
  len : Nat
  cap : Nat
  sz : Nat
structure TS where
  locs : List (Nat × CV)
  objs : List (Key × CObj)
  n : Key
  b : List (Int × Int)
  f : List (LL × Int × Int)
  r : List SRule := []
def mkTm : List (Nat × CV) → Tm
  | [] => .nil
  | p :: r => putL p.2 (Loc.ofNat p.1) (mkTm r)
def mkH (h : Heap) : List (Key × CObj) → Heap
  | [] => h
  | p :: r => putH (some p.2) p.1 (mkH h r)
def mkRho : List (Key × CObj) → List Key → Heap
  | p :: r, j :: js => putH (some (.cells [.ptr j 0])) p.1 (mkRho r js)
  | _, _ => .nil
def mkInv : List (Key × CObj) → List Key → Heap
  | p :: r, j :: js => putH (some (.cells [.ptr p.1 0])) j (mkInv r js)
  | _, _ => .nil
def chkObjs (ρ inv : Heap) (θ : TH) (h : Heap) (lo hi : Nat) : List (Key × CObj) → List Key → Bool
  | [], [] => true
  | p :: r, j :: js => covK ρ p.1 j && covK inv j p.1 && Nat.ble lo p.1.ix && Nat.ble (Nat.succ p.1.ix) hi && (match getH j h with
      | some o => covO ρ θ p.2 o
      | none => false) && chkObjs ρ inv θ h lo hi r js
  | _, _ => false
def findW : List Win → Key → Option Win
  | [], _ => none
  | w :: r, k => match decide (w.key = k) with
    | true => some w
    | false => findW r k
def winK : List (Key × Nat) → Key → Nat → Bool
  | [], _, _ => false
  | p :: r, k, z => match decide (p.1 = k) with
    | true => Nat.beq p.2 z
    | false => winK r k z
def winB (lo hi : Nat) : List (Key × Nat) → Bool
  | [] => true
  | p :: r => Nat.ble lo p.1.ix && Nat.ble (Nat.succ p.1.ix) hi && winB lo hi r
def wsOf (l : List Win) : List (Key × Nat) := l.map fun w => (w.key, w.esz)
def noRho (ρ : Heap) (k : Key) : Bool := match rhoOf ρ k with
  | none => true
  | some _ => false
def covF (ρ : Heap) (θ : TH) (ws : List (Key × Nat)) (c d : CV) : Bool := match c with
  | .win k z e n => match d with
    | .win k' z' _ n' => decide (k = k') && Nat.beq z z' && seEq e (sv 0) && seIs θ n (.sym n') && winK ws k z && noRho ρ k
    | _ => false
  | c => covV ρ θ c d
def chkTm (ρ : Heap) (θ : TH) (ws : List (Key × Nat)) (tm : Tm) : List (Nat × CV) → Bool
  | [] => true
  | p :: r => Nat.ble p.1 271 && covF ρ θ ws p.2 (getL (Loc.ofNat p.1) tm) && chkTm ρ θ ws tm r
def chkB (K : Known) : List (Int × Int) → TH → Bool
  | [], [] => true
  | q :: r, s :: θ => (match rngs K.b s.2 K.f with
      | some u => decide (q.1 ≤ s.1 + u.1) && decide (s.1 + u.2 ≤ q.2)
      | none => false) && chkB K r θ
  | _, _ => false
def chkF (K : Known) (θ : TH) : List (LL × Int × Int) → Bool
  | [] => true
  | q :: r => (match subL θ q.1 with
    | some s => match rngs K.b s.2 K.f with
      | some u => decide (q.2.1 ≤ s.1 + u.1) && decide (s.1 + u.2 ≤ q.2.2)
      | none => false
    | none => false) && chkF K θ r
def ruleIs (θ : TH) (r q : SRule) : Bool := (match subL θ r.x.l with
    | some s => decide (r.op = q.op) && kEq r.x.k q.x.k && Nat.beq r.c q.c && intEq (r.x.c + s.1) q.x.c && llEq s.2 q.x.l
    | none => false) && (match r.v, q.v with
    | .sym e, .sym e' => seIs θ e (.sym e')
    | _, _ => false)
def anyRule (θ : TH) (r : SRule) : List SRule → Bool
  | [] => false
  | q :: l => ruleIs θ r q || anyRule θ r l
def chkRules (θ : TH) (l : List SRule) : List SRule → Bool
  | [] => true
  | r :: rs => anyRule θ r l && chkRules θ l rs
theorem mkInt_nosym (k : IntKind) (n : Int) (e : SE) : mkInt k n ≠ .sym e := by
  cases n with
  | ofNat m => cases m <;> cases k <;> (intro h; cases h)
  | negSucc m => cases m <;> (intro h; cases h)
theorem mkPos_nosym (k : IntKind) (n : Nat) (e : SE) : mkPos k n ≠ .sym e := by
  cases n <;> cases k <;> (intro h; cases h)
theorem intOp_nosym {op : BinOp} {k : IntKind} {a b : Int} {e : SE} (h : intOp op k a b = some (.sym e)) : False := by
  cases op <;> first
    | (have h : some (mkInt k _) = some (.sym e) := h
       injection h with h; exact mkInt_nosym _ _ _ h)
    | (have h : some (CV.bool _) = some (.sym e) := h
       injection h with h; cases h)
    | (have h : Bool.rec (motive := fun _ => Option CV) (some (mkInt k _)) none (intEq b (.ofNat 0)) = some (.sym e) := h
       cases hb : intEq b (.ofNat 0) <;> rw [hb] at h
       · injection h with h; exact mkInt_nosym _ _ _ h
       · cases h)
    | (cases b with
       | ofNat m =>
         first
           | (have h : some (mkInt k _) = some (.sym e) := h
              injection h with h; exact mkInt_nosym _ _ _ h)
           | (cases a with
              | ofNat x =>
                have h : some (mkPos k _) = some (.sym e) := h
                injection h with h; exact mkPos_nosym _ _ _ h
              | negSucc x =>
                have h : some (mkInt k _) = some (.sym e) := h
                injection h with h; exact mkInt_nosym _ _ _ h)
       | negSucc m => cases h)
theorem ruleIs_ok {σs σT : Nat → Int} {θ : TH} (hθ : ThOk σs σT θ) {r q : SRule} (h : ruleIs θ r q = true) (hq : RuleOk σs q) : RuleOk σT r := by
  unfold ruleIs at h
  rw [Bool.and_eq_true] at h
  obtain ⟨h1, h2⟩ := h
  split at h1
  · rename_i s hs
    simp only [Bool.and_eq_true, decide_eq_true_eq] at h1
    obtain ⟨⟨⟨⟨a1, a2⟩, a3⟩, a4⟩, a5⟩ := h1
    rw [@kEq_iff noSym, decide_eq_true_eq] at a2
    have a3 := @beq_yes noSym _ _ a3
    rw [@intEq_iff noSym, decide_eq_true_eq] at a4
    have a5 := @llEq_eq noSym _ _ a5
    obtain ⟨u, b1, b2, b3⟩ := hq
    have ex : evE σT r.x = evE σs q.x := by
      unfold evE
      rw [subL_ok hθ hs, ← a4, a5]
      omega
    refine ⟨u, by rw [a1, a2]; exact b1, by rw [a1, a2, a3, ex]; exact b2, ?_⟩
    split at h2
    · rename_i e e' he he'
      refine .inr ⟨e, he, ?_⟩
      unfold seIs at h2
      split at h2
      · rename_i k c l hf
        split at h2
        · rename_i s' hs'
          simp only [Bool.and_eq_true] at h2
          obtain ⟨⟨c1, c2⟩, c3⟩ := h2
          rw [@kEq_iff noSym, decide_eq_true_eq] at c1
          rw [@intEq_iff noSym, decide_eq_true_eq] at c2
          have c3 := @llEq_eq noSym _ _ c3
          injection hf with hf
          injection hf with d1 hf
          injection hf with d2 d3
          rcases b3 with b3 | ⟨e2, b4, b5⟩
          · rw [he'] at b3
            rw [← b3] at b2
            exact (intOp_nosym b2).elim
          · rw [he'] at b4
            injection b4 with b4
            subst b4
            rw [b5, c1, ← d1]
            congr 1
            unfold evE
            rw [subL_ok hθ hs', c3, ← d3, d2, ← c2]
            omega
        · cases h2
      · cases h2
    · cases h2
  · cases h1
theorem chkRules_ok {σs σT : Nat → Int} {θ : TH} (hθ : ThOk σs σT θ) {l : List SRule} (hl : ∀ q ∈ l, RuleOk σs q) : ∀ {rs : List SRule}, chkRules θ l rs = true → RulesOk σT rs
  | [], _ => trivial
  | r :: rs, h => by
    unfold chkRules at h
    rw [Bool.and_eq_true] at h
    refine ⟨?_, chkRules_ok hθ hl h.2⟩
    have : ∀ {m : List SRule}, anyRule θ r m = true → (∀ q ∈ m, RuleOk σs q) → RuleOk σT r := by
      intro m
      induction m with
      | nil => intro h _; cases h
      | cons q m ih =>
        intro h hm
        unfold anyRule at h
        rw [Bool.or_eq_true] at h
        rcases h with h | h
        · exact ruleIs_ok hθ h (hm q (by simp))
        · exact ih h fun q' hq' => hm q' (by simp [hq'])
    exact this h.1 hl
def chkS (G : Nat) (ws : List (Key × Nat)) (T : TS) (ks : List Key) (θ : TH) (K : Known) (tm : Tm) (h : Heap) : Bool :=
  chkObjs (mkRho T.objs ks) (mkInv T.objs ks) θ h G T.n.ix T.objs ks && chkTm (mkRho T.objs ks) θ ws tm T.locs && chkB K T.b θ && chkF K θ T.f && winB G T.n.ix ws && Nat.ble G T.n.ix && chkRules θ K.rules T.r
theorem gL_nil (p : Loc) : getL p Tm.nil = .any := @getL_nil noSym p
theorem gL_same (v : CV) (p : Loc) (t : Tm) : getL p (putL v p t) = v := @getL_putL_same noSym v p t
theorem gL_other (v : CV) (p q : Loc) (t : Tm) (h : q ≠ p) : getL q (putL v p t) = getL q t := @getL_putL_other noSym v p q t h
theorem gH_put (o : Option CObj) (k j : Key) (h : Heap) : getH j (putH o k h) = if j = k then o else getH j h := @getH_putH noSym o k j h
theorem gH_nil (k : Key) : getH k (.nil : Heap) = none := @fam_nil noSym k
theorem getL_mkTm (t : Nat) : ∀ {locs : List (Nat × CV)}, getL (Loc.ofNat t) (mkTm locs) = .any ∨ ∃ p ∈ locs, Loc.ofNat p.1 = Loc.ofNat t ∧ getL (Loc.ofNat t) (mkTm locs) = p.2
  | [] => .inl (gL_nil _)
  | p :: r => by
    by_cases e : Loc.ofNat p.1 = Loc.ofNat t
    · refine .inr ⟨p, by simp, e, ?_⟩
      show getL _ (putL p.2 _ _) = _
      rw [e, gL_same]
    · have h : getL (Loc.ofNat t) (mkTm (p :: r)) = getL (Loc.ofNat t) (mkTm r) := gL_other _ _ _ _ (fun q => e q.symm)
      rcases getL_mkTm t (locs := r) with h' | ⟨q, hq, h1, h2⟩
      · exact .inl (h.trans h')
      · exact .inr ⟨q, by simp [hq], h1, h.trans h2⟩
theorem getH_mkH {h : Heap} {k : Key} {o : CObj} : ∀ {objs : List (Key × CObj)}, getH k (mkH h objs) = some o → (∃ j : Nat, objs[j]? = some (k, o)) ∨ getH k h = some o
  | [], hh => .inr hh
  | p :: r, hh => by
    have hh : getH k (putH (some p.2) p.1 (mkH h r)) = some o := hh
    rw [gH_put] at hh
    split at hh
    · rename_i e
      injection hh with h1
      exact .inl ⟨0, by subst e; subst h1; rfl⟩
    · rcases getH_mkH hh with ⟨j, hj⟩ | h'
      · exact .inl ⟨j + 1, by simpa using hj⟩
      · exact .inr h'
theorem rho_mk {k b : Key} : ∀ {objs : List (Key × CObj)} {ks : List Key}, rhoOf (mkRho objs ks) k = some b → ∃ (j : Nat) (o : CObj), objs[j]? = some (k, o) ∧ ks[j]? = some b
  | [], _, h => by
    have h : rhoOf .nil k = some b := h
    unfold rhoOf at h
    rw [gH_nil] at h; cases h
  | _ :: _, [], h => by
    have h : rhoOf .nil k = some b := h
    unfold rhoOf at h
    rw [gH_nil] at h; cases h
  | p :: r, j :: js, h => by
    by_cases e : k = p.1
    · have h : rhoOf (putH (some (.cells [.ptr j 0])) p.1 (mkRho r js)) k = some b := h
      unfold rhoOf at h
      rw [gH_put, if_pos e] at h
      injection h with h
      exact ⟨0, p.2, by subst e; rfl, by subst h; rfl⟩
    · have h' : rhoOf (mkRho r js) k = some b := by
        have h : rhoOf (putH (some (.cells [.ptr j 0])) p.1 (mkRho r js)) k = some b := h
        unfold rhoOf at h ⊢
        rw [gH_put, if_neg e] at h
        exact h
      obtain ⟨i, o, h1, h2⟩ := rho_mk h'
      exact ⟨i + 1, o, by simpa using h1, by simpa using h2⟩
theorem covK_eq {ρ : Heap} {k j : Key} (h : covK ρ k j = true) : rhoOf ρ k = some j := by
  unfold covK at h
  split at h
  · rename_i b hb
    rw [decide_eq_true_eq] at h
    rw [hb, h]
  · cases h
theorem chkObjs_ok {ρ inv : Heap} {θ : TH} {h : Heap} {lo hi : Nat} : ∀ {objs : List (Key × CObj)} {ks : List Key}, chkObjs ρ inv θ h lo hi objs ks = true → ∀ (j : Nat) (k : Key) (o : CObj), objs[j]? = some (k, o) →
    ∃ i o', ks[j]? = some i ∧ rhoOf ρ k = some i ∧ rhoOf inv i = some k ∧ lo ≤ k.ix ∧ k.ix < hi ∧ getH i h = some o' ∧ covO ρ θ o o' = true
  | [], _, _, j, k, o, hj => by simp at hj
  | _ :: _, [], hc, _, _, _, _ => by cases hc
  | p :: r, i :: is, hc, j, k, o, hj => by
    unfold chkObjs at hc
    simp only [Bool.and_eq_true] at hc
    obtain ⟨⟨⟨⟨⟨c1, c2⟩, c3⟩, c4⟩, c5⟩, c6⟩ := hc
    cases j with
    | zero =>
      simp at hj
      subst hj
      split at c5
      · rename_i o' ho
        exact ⟨i, o', rfl, covK_eq c1, covK_eq c2, @ble_yes noSym _ _ c3, @ble_yes noSym _ _ c4, ho, c5⟩
      · cases c5
    | succ j =>
      obtain ⟨i', o', h1, h2⟩ := chkObjs_ok c6 j k o (by simpa using hj)
      exact ⟨i', o', by simpa using h1, h2⟩
theorem findW_key {l : List Win} {k : Key} {w : Win} (h : findW l k = some w) : w ∈ l ∧ w.key = k := by
  induction l with
  | nil => cases h
  | cons x l ih =>
    unfold findW at h
    split at h
    · rename_i e
      injection h with h; subst h
      exact ⟨by simp, of_decide_eq_true e⟩
    · have := ih h
      exact ⟨by simp [this.1], this.2⟩
theorem winK_ok {l : List Win} {k : Key} {z : Nat} (h : winK (wsOf l) k z = true) : ∃ w, findW l k = some w ∧ w.esz = z := by
  induction l with
  | nil => cases h
  | cons x l ih =>
    have h : winK ((x.key, x.esz) :: wsOf l) k z = true := h
    unfold winK at h
    unfold findW
    split at h
    · rename_i e
      simp only at e
      rw [e]
      exact ⟨x, rfl, @beq_yes noSym _ _ h⟩
    · rename_i e
      simp only at e
      rw [e]
      exact ih h
theorem winB_ok {lo hi : Nat} {l : List Win} (h : winB lo hi (wsOf l) = true) : ∀ w ∈ l, lo ≤ w.key.ix ∧ w.key.ix < hi := by
  induction l with
  | nil => intro w hw; cases hw
  | cons x l ih =>
    have h : winB lo hi ((x.key, x.esz) :: wsOf l) = true := h
    unfold winB at h
    rw [Bool.and_eq_true, Bool.and_eq_true] at h
    intro w hw
    rcases List.mem_cons.1 hw with rfl | hw
    · exact ⟨@ble_yes noSym _ _ h.1.1, @ble_yes noSym _ _ h.1.2⟩
    · exact ih h.2 w hw
theorem chkTm_ok {ρ : Heap} {θ : TH} {ws : List (Key × Nat)} {tm : Tm} : ∀ {locs : List (Nat × CV)}, chkTm ρ θ ws tm locs = true → ∀ p ∈ locs, p.1 ≤ 271 ∧ covF ρ θ ws p.2 (getL (Loc.ofNat p.1) tm) = true
  | [], _, p, hp => by cases hp
  | q :: r, h, p, hp => by
    unfold chkTm at h
    rw [Bool.and_eq_true, Bool.and_eq_true] at h
    rcases List.mem_cons.1 hp with rfl | hp
    · exact ⟨@ble_yes noSym _ _ h.1.1, h.1.2⟩
    · exact chkTm_ok h.2 p hp
def psiT (ρ h : Heap) (wins : List Win) (ψ : Psi) (G : Nat) (i : Int) : Psi := fun k => match rhoOf ρ k with
  | some j => (ψ j).map fun p => ⟨p.blk, p.off, p.sz, ckOf (getH j h) p.ck⟩
  | none => match findW wins k with
    | some w => some ⟨w.B, w.x + i.toNat * w.esz, w.sz, fun n => n⟩
    | none => if k.ix < G then ψ k else none
def evQ (σ : Nat → Int) (q : Int × LL) : Int := q.1 + evL σ q.2
def ArgsAre (A : Key → Option Value) (wins : List Win) : Prop := ∀ w ∈ wins, A w.key = some (.slice w.base w.len w.cap) ∧ (0 < w.len → w.base = some ⟨w.B, w.x, none⟩)
section
variable {σs : Nat → Int} {Ks : Known} {θ : TH} {T : TS} {ks : List Key} {wins : List Win} {G : Nat} {F N : Nat} {ψ : Psi} {tm : Tm} {h : Heap} {n : Key} {a : Act} {w : World}
theorem chkB_ok {σs : Nat → Int} {Ks : Known} (hK : KnownOk σs Ks) {σT : Nat → Int} : ∀ {b : List (Int × Int)} {θ : TH} {k : Nat}, chkB Ks b θ = true → (∀ j q, nth θ j = some q → σT (k + j) = evQ σs q) →
    b.length = θ.length ∧ BoundsOk σT k b
  | [], [], _, _, _ => ⟨rfl, trivial⟩
  | [], _ :: _, _, h, _ => by cases h
  | _ :: _, [], _, h, _ => by cases h
  | q :: r, s :: θ, k, h, hθ => by
    unfold chkB at h
    rw [Bool.and_eq_true] at h
    obtain ⟨h1, h2⟩ := h
    obtain ⟨g1, g2⟩ := chkB_ok hK (σT := σT) (k := k + 1) h2 (fun j q hj => by
      have := hθ (j + 1) q hj
      rw [show k + 1 + j = k + (j + 1) from by omega]; exact this)
    refine ⟨by simp [g1], ?_, g2⟩
    split at h1
    · rename_i u hu
      rw [Bool.and_eq_true, decide_eq_true_eq, decide_eq_true_eq] at h1
      obtain ⟨r1, r2⟩ := rngs_spec hK.b hK.f hu
      have h0 : σT k = evQ σs s := hθ 0 s rfl
      rw [h0]
      unfold evQ
      constructor <;> omega
    · cases h1
theorem chkF_ok {σs σT : Nat → Int} {Ks : Known} (hK : KnownOk σs Ks) {θ : TH} (hθ : ThOk σs σT θ) : ∀ {f : List (LL × Int × Int)}, chkF Ks θ f = true → FactsOk σT f
  | [], _ => trivial
  | q :: r, h => by
    unfold chkF at h
    rw [Bool.and_eq_true] at h
    refine ⟨?_, chkF_ok hK hθ h.2⟩
    have h1 := h.1
    split at h1
    · rename_i s hs
      split at h1
      · rename_i u hu
        rw [Bool.and_eq_true, decide_eq_true_eq, decide_eq_true_eq] at h1
        obtain ⟨r1, r2⟩ := rngs_spec hK.b hK.f hu
        rw [subL_ok hθ hs]
        constructor <;> omega
      · cases h1
    · cases h1
theorem cover_st (hst : @St (linSym σs Ks) P F N ψ tm [] h n a w) (hG : P.globals.size ≤ G) (hA : ArgsAre Ks.arg wins) (hc : chkS G (wsOf wins) T ks θ Ks tm h = true) (i : Int) (hi : ∀ q, nth θ 0 = some q → evQ σs q = i) (h0 : ∃ q, nth θ 0 = some q) :
    ∃ ψT, (∀ σT KT, ThOk σs σT θ → KT.arg = Ks.arg → @St (linSym σT KT) P F N ψT (mkTm T.locs) [] (mkH .nil T.objs) T.n a w) ∧
      (∀ k o p, Heap.fam (mkH .nil T.objs) k = some o → ψT k = some p → o.isRo = false ∧ ∃ k0 o0 p0, Heap.fam h k0 = some o0 ∧ o0.isRo = false ∧ ψ k0 = some p0 ∧ p0.blk = p.blk) ∧
      (∀ k wn, findW wins k = some wn → noRho (mkRho T.objs ks) k = true → ψT k = some ⟨wn.B, wn.x + i.toNat * wn.esz, wn.sz, fun n => n⟩) := by
  have hR : @Rel (linSym σs Ks) ψ (Heap.fam h) w := @St.rel (linSym σs Ks) _ _ _ _ _ _ _ _ _ _ hst
  have hTot : ∀ k o, Heap.fam h k = some o → ∃ p, ψ k = some p := @Rel.tot (linSym σs Ks) _ _ _ hR
  have hOn : ∀ k o p, Heap.fam h k = some o → ψ k = some p → @ORel (linSym σs Ks) ψ w p o := @Rel.on (linSym σs Ks) _ _ _ hR
  have hInj := @Rel.inj (linSym σs Ks) _ _ _ hR
  have hGl : Glob P ψ := @St.glob (linSym σs Ks) _ _ _ _ _ _ _ _ _ _ hst
  have hDf := @St.dfr (linSym σs Ks) _ _ _ _ _ _ _ _ _ _ hst
  have hFr : @FrameRel (linSym σs Ks) ψ F N tm a := @St.frame (linSym σs Ks) _ _ _ _ _ _ _ _ _ _ hst
  have hTmp := @FrameRel.tmp (linSym σs Ks) _ _ _ _ _ hFr
  have hSz := @FrameRel.size (linSym σs Ks) _ _ _ _ _ hFr
  unfold chkS at hc
  simp only [Bool.and_eq_true] at hc
  obtain ⟨⟨⟨⟨⟨⟨c1, c2⟩, c3⟩, c4⟩, c5⟩, c6⟩, _⟩ := hc
  have c6 := @ble_yes noSym _ _ c6
  generalize hρ : mkRho T.objs ks = ρ at c1 c2
  generalize hinv : mkInv T.objs ks = inv at c1
  have hobj := chkObjs_ok c1
  have hwb := winB_ok c5
  have hrho : ∀ k b, rhoOf ρ k = some b → G ≤ k.ix ∧ k.ix < T.n.ix ∧ ∃ (o o' : CObj) (j : Nat), T.objs[j]? = some (k, o) ∧ rhoOf inv b = some k ∧ getH b h = some o' ∧ covO ρ θ o o' = true := by
    intro k b hk
    have hk' := hk
    rw [← hρ] at hk'
    obtain ⟨j, o, h1, h2⟩ := rho_mk hk'
    obtain ⟨i', o', g1, g2, g3, g4, g5, g6, g7⟩ := hobj j k o h1
    rw [hk] at g2
    injection g2 with g2
    subst g2
    exact ⟨g4, g5, o, o', j, h1, g3, g6, g7⟩
  have hps : ∀ k j p, rhoOf ρ k = some j → ψ j = some p → psiT ρ h wins ψ G i k = some ⟨p.blk, p.off, p.sz, ckOf (getH j h) p.ck⟩ := by
    intro k j p hk hp
    unfold psiT
    rw [hk]
    simp only
    rw [hp]; rfl
  have hPs : PsOk ρ ψ (psiT ρ h wins ψ G i) := fun k j p hk hp => ⟨_, hps k j p (covK_eq hk) hp, rfl, rfl, rfl⟩
  have hwin : ∀ k wn, findW wins k = some wn → noRho ρ k = true → psiT ρ h wins ψ G i k = some ⟨wn.B, wn.x + i.toNat * wn.esz, wn.sz, fun n => n⟩ := by
    intro k wn hw hno
    have hno : rhoOf ρ k = none := by
      unfold noRho at hno
      split at hno
      · assumption
      · cases hno
    unfold psiT
    rw [hno]
    simp only
    rw [hw]
  have hfam : ∀ k o p, Heap.fam (mkH .nil T.objs) k = some o → psiT ρ h wins ψ G i k = some p → ∃ b o' p0, rhoOf ρ k = some b ∧ rhoOf inv b = some k ∧ Heap.fam h b = some o' ∧ ψ b = some p0 ∧ covO ρ θ o o' = true ∧
      p = ⟨p0.blk, p0.off, p0.sz, ckOf (some o') p0.ck⟩ := by
    intro k o p hk hp
    rcases getH_mkH hk with ⟨j, hj⟩ | hn
    · obtain ⟨b, o', g1, g2, g3, g4, g5, g6, g7⟩ := hobj j k o hj
      obtain ⟨p0, hp0⟩ := hTot b o' g6
      rw [hps k b p0 g2 hp0, g6] at hp
      injection hp with hp
      exact ⟨b, o', p0, g2, g3, g6, hp0, g7, hp.symm⟩
    · rw [gH_nil] at hn; cases hn
  refine ⟨psiT ρ h wins ψ G i, fun σT KT hθ hKT => ?_, ?_, hwin⟩
  · refine @St.mk (linSym σT KT) P F N _ _ _ _ _ _ _ ?_ ?_ ?_ ?_ ?_
    · refine @FrameRel.mk (linSym σT KT) _ _ _ _ _ hSz fun t h1 h2 h3 => ?_
      rcases getL_mkTm t (locs := T.locs) with e | ⟨p, hp, e1, e2⟩
      · rw [e]; exact @vrel_any (linSym σT KT) _ _
      · obtain ⟨q1, q2⟩ := chkTm_ok c2 p hp
        have e1 : p.1 = t := @Loc.ofNat_inj noSym _ _ q1 h2 e1
        rw [e2]
        rw [e1] at q2
        have hv := hTmp t h1 h2 h3
        unfold covF at q2
        split at q2
        · rename_i k z e nn heq
          split at q2
          · rename_i k' z' e' n' heq'
            simp only [Bool.and_eq_true, decide_eq_true_eq] at q2
            obtain ⟨⟨⟨⟨⟨rfl, hz⟩, he⟩, hn⟩, hw⟩, hno⟩ := q2
            obtain rfl := @beq_yes noSym _ _ hz
            obtain rfl := @seEq_eq noSym _ _ he
            rw [heq', @vrel_win (linSym σs Ks)] at hv
            obtain ⟨ha, base, len, cap, iv, hv', hn', he', _⟩ := hv
            obtain ⟨wn, hwn, hez⟩ := winK_ok hw
            obtain ⟨hmem, hkey⟩ := findW_key hwn
            obtain ⟨hA', hbase⟩ := hA wn hmem
            rw [hkey] at hA'
            have ha : Ks.arg k = some (a.tmps.getD t undef) := ha
            rw [ha] at hA'
            injection hA' with hA'
            rw [heq, @vrel_win (linSym σT KT)]
            obtain ⟨q0, hq0⟩ := h0
            have hn2 := seIs_ok (Ks := Ks) (ψs := ψ) hθ hn (v := .int .i64 len) ((@vrel_sym (linSym σs Ks) _ _ _).2 hn'.symm)
            have hlen : len = wn.len := by
              rw [hv'] at hA'
              injection hA' with _ h2 _
            refine ⟨by show KT.arg k = _; rw [hKT]; exact ha, wn.base, wn.len, wn.cap, i, hA', ?_, ?_, fun q1 q2 => ⟨_, wn.x, hwin k wn hwn hno, hbase (by omega), ?_⟩⟩
            · rw [← hlen]; exact hn2.symm
            · show Value.int .i64 (evE σT (sv 0)) = .int .i64 i
              rw [evE_sv, hθ 0 q0 hq0]
              have := hi q0 hq0
              unfold evQ at this
              rw [this]
            · rw [← hez]
          · cases q2
        · exact covV_ok hθ hPs _ _ q2 hv
    · exact hDf
    · refine @Rel.mk (linSym σT KT) _ _ _ ?_ ?_ ?_
      · intro k o p hk hp
        obtain ⟨b, o', p0, g1, g2, g3, g4, g5, rfl⟩ := hfam k o p hk hp
        exact (covO_ok (p := p0) (p' := ⟨p0.blk, p0.off, p0.sz, ckOf (some o') p0.ck⟩) hθ hPs g5 rfl rfl rfl rfl (hOn b o' p0 g3 g4)).1
      · intro k o hk
        rcases getH_mkH hk with ⟨j, hj⟩ | hn
        · obtain ⟨b, o', g1, g2, g3, g4, g5, g6, g7⟩ := hobj j k o hj
          obtain ⟨p0, hp0⟩ := hTot b o' g6
          exact ⟨_, hps k b p0 g2 hp0⟩
        · rw [gH_nil] at hn; cases hn
      · intro k₁ k₂ o₁ o₂ p₁ p₂ h1 h2 h3 h4 e
        obtain ⟨b1, o1', q1, g1, g2, g3, g4, g5, rfl⟩ := hfam _ _ _ h1 h3
        obtain ⟨b2, o2', q2, f1, f2, f3, f4, f5, rfl⟩ := hfam _ _ _ h2 h4
        have := hInj b1 b2 _ _ _ _ g3 f3 g4 f4 e
        subst this
        rw [g2] at f2
        injection f2
    · intro g hg h4
      obtain ⟨sz, e⟩ := hGl g hg h4
      have hix : (Key.ofNat g).ix = g := @Key.ix_ofNat noSym _ (by omega)
      refine ⟨sz, ?_⟩
      have hno : rhoOf ρ (Key.ofNat g) = none := by
        cases hr : rhoOf ρ (Key.ofNat g) with
        | none => rfl
        | some b => have := (hrho _ _ hr).1; omega
      have hnw : findW wins (Key.ofNat g) = none := by
        cases hr : findW wins (Key.ofNat g) with
        | none => rfl
        | some wn =>
          obtain ⟨hm, hk⟩ := findW_key hr
          have := (hwb wn hm).1
          rw [hk] at this; omega
      unfold psiT
      rw [hno]
      simp only
      rw [hnw]
      simp only
      rw [if_pos (by omega)]
      exact e
    · intro k hk
      have hno : rhoOf ρ k = none := by
        cases hr : rhoOf ρ k with
        | none => rfl
        | some b => have := (hrho _ _ hr).2.1; omega
      have hnw : findW wins k = none := by
        cases hr : findW wins k with
        | none => rfl
        | some wn =>
          obtain ⟨hm, hk⟩ := findW_key hr
          have := (hwb wn hm).2
          rw [hk] at this; omega
      unfold psiT
      rw [hno]
      simp only
      rw [hnw]
      simp only
      split
      · rename_i hlt
        omega
      · rfl
  · intro k o p hk hp
    obtain ⟨b, o', p0, g1, g2, g3, g4, g5, rfl⟩ := hfam k o p hk hp
    have hro : o.isRo = false ∧ o'.isRo = false := by
      unfold covO at g5
      split at g5
      · exact ⟨rfl, rfl⟩
      · exact ⟨rfl, rfl⟩
      · exact ⟨rfl, rfl⟩
      · cases g5
    exact ⟨hro.1, b, o', p0, g3, hro.2, g4, rfl⟩
end
end
end Go.Ev

namespace Go.Ev
variable [Sym]
noncomputable section
variable {P : Program}
variable [SymFact P]
inductive Stp where
  | l | r | b
def preC (P : Program) (call : CallF) : List Stp → CCode → K
  | [], _ => fun tm ds h n => .ok .normal tm ds h n
  | .l :: p, .seq a _ => preC P call p a
  | .r :: p, .seq a b => fun tm ds h n => thenK (preC P call p b) (evCode P call a tm ds h n)
  | .b :: p, .block _ x => preC P call p x
  | _, _ => fun _ _ _ _ => .err 330
def postC (P : Program) (call : CallF) : List Stp → CCode → R → R
  | [], _ => fun r => r
  | .l :: p, .seq a b => fun r => thenK (evCode P call b) (postC P call p a r)
  | .r :: p, .seq _ b => postC P call p b
  | .b :: p, .block id x => fun r => blockK id (postC P call p x r)
  | _, _ => fun _ => .err 331
def bodyC : List Stp → CCode → CCode
  | [], .loop b => b
  | .l :: p, .seq a _ => bodyC p a
  | .r :: p, .seq _ b => bodyC p b
  | .b :: p, .block _ x => bodyC p x
  | _, _ => .bad 50
def bodyF : CFn → CCode
  | .mk b _ => b
  | _ => .bad 51
def resF : CFn → List CRes
  | .mk _ r => r
  | _ => []
def hasL : CCode → Bool
  | .seq a b => hasL a || hasL b
  | .block _ b => hasL b
  | .loop _ => true
  | _ => false
def pathC : CCode → List Stp
  | .seq a b => match hasL a with
    | true => .l :: pathC a
    | false => .r :: pathC b
  | .block _ b => .b :: pathC b
  | _ => []
def subC : List Stp → Code → Option Code
  | [], .loop b => some b
  | .l :: p, .seq x _ => subC p x
  | .r :: p, .seq _ y => subC p y
  | .b :: p, .block _ x => subC p x
  | _, _ => none
def QH (P : Program) : List Stp → Code → (Exit → Act → World → Prop) → Exit → Act → World → Prop
  | .l :: p, .seq x y, Q => QH P p x (Exit.then (y.wp P Q) Q)
  | .r :: p, .seq _ y, Q => QH P p y Q
  | .b :: p, .block id x, Q => QH P p x (Exit.inBlock id Q)
  | _, _, Q => Q
omit [SymFact P] in
theorem body_comp {F N : Nat} : ∀ {p : List Stp} {c b : Code}, subC p c = some b → bodyC p (compCode P F N c) = compCode P F N b
  | [], c, b, h => by
    cases c <;> first | (injection h with h; subst h; rfl) | cases h
  | .l :: p, c, b, h => by
    cases c <;> first | exact body_comp (p := p) h | cases h
  | .r :: p, c, b, h => by
    cases c <;> first | exact body_comp (p := p) h | cases h
  | .b :: p, c, b, h => by
    cases c <;> first | exact body_comp (p := p) h | cases h
section
variable {F N : Nat} {call : CallF}
theorem above_preC (hcall : CallAbove call) : ∀ (p : List Stp) (c : CCode) (tm : Tm) (ds : Defs) (h : Heap) (n : Key), Above n (preC P call p c tm ds h n)
  | [], _, _, _, _, _ => Nat.le_refl _
  | .l :: p, c, tm, ds, h, n => by
    cases c <;> first | exact above_preC hcall p _ tm ds h n | trivial
  | .r :: p, c, tm, ds, h, n => by
    cases c <;> first | exact above_thenK (fun tm ds h n => above_preC hcall p _ tm ds h n) (above_code hcall _ tm ds h n) | trivial
  | .b :: p, c, tm, ds, h, n => by
    cases c <;> first | exact above_preC hcall p _ tm ds h n | trivial
theorem pre_sim (hcall : CallOk P call) (hdraw : DrawSim P F N call) : ∀ (p : List Stp) (c : Code) {b : Code} {Q : Exit → Act → World → Prop} {ψ : Psi} {tm : Tm} {ds : Defs} {h : Heap} {n : Key} {a : Act} {w : World},
    subC p c = some b → noRec c = true → St P F N ψ tm ds h n a w → Clean (preC P call p (compCode P F N c) tm ds h n) →
    (∀ e a' w', OutOk P F N ψ (Heap.fam h) n w (preC P call p (compCode P F N c) tm ds h n) e a' w' → e = .normal ∧ LoopAt P b (QH P p c Q) a' w') → c.wp P Q a w
  | [], c, b, Q, ψ, tm, ds, h, n, a, w, hs, hn, hst, hc, hq => by
    cases c <;> try (cases hs; done)
    rename_i b'
    injection hs with hs; subst hs
    exact wp_loop_of (hq .normal a w ⟨trivial, ψ, hst, Post.refl hst.rel, hc⟩).2
  | .l :: p, c, b, Q, ψ, tm, ds, h, n, a, w, hs, hn, hst, hc, hq => by
    cases c <;> try (cases hs; done)
    rename_i x y
    have hnr : noRec x = true ∧ noRec y = true := by simpa [noRec] using hn
    exact wp_seq (pre_sim hcall hdraw p x (Q := Exit.then (y.wp P Q) Q) hs hnr.1 hst hc hq)
  | .r :: p, c, b, Q, ψ, tm, ds, h, n, a, w, hs, hn, hst, hc, hq => by
    cases c <;> try (cases hs; done)
    rename_i x y
    have hnr : noRec x = true ∧ noRec y = true := by simpa [noRec] using hn
    have hc : Clean (thenK (preC P call p (compCode P F N y)) (evCode P call (compCode P F N x) tm ds h n)) := hc
    have hab := fun tm ds h n => above_preC (P := P) hcall.above p (compCode P F N y) tm ds h n
    refine wp_seq (wp_mono (code_sim hcall hdraw x hnr.1 hst (clean_thenK hab hc)) fun e a' w' ho => ?_)
    rcases thenK_out hc ho with ⟨rfl, tm', ds', h', n', ψ', h2, h3, h4, h5⟩ | ⟨h1, h2⟩
    · refine pre_sim hcall hdraw p y (Q := Q) hs hnr.2 h2 h4 fun e'' a'' w'' ho' => ?_
      exact hq e'' a'' w'' (h5 e'' a'' w'' (OutOk.trans h3 ho'))
    · exact absurd (hq e a' w' h2).1 h1
  | .b :: p, c, b, Q, ψ, tm, ds, h, n, a, w, hs, hn, hst, hc, hq => by
    cases c <;> try (cases hs; done)
    rename_i id x
    exact wp_block (pre_sim hcall hdraw p x (Q := Exit.inBlock id Q) hs hn hst hc hq)
theorem post_clean (hcall : CallAbove call) : ∀ (p : List Stp) (c : CCode) {r : R}, Clean (postC P call p c r) → Clean r
  | [], _, _, h => h
  | .l :: p, c, r, h => by
    cases c <;> first | exact post_clean hcall p _ (clean_thenK (fun tm ds h n => above_code hcall _ tm ds h n) h) | exact h.elim
  | .r :: p, c, r, h => by
    cases c <;> first | exact post_clean hcall p _ h | exact h.elim
  | .b :: p, c, r, h => by
    cases c <;> first | exact post_clean hcall p _ (clean_blockK _ h) | exact h.elim
theorem post_sim (hcall : CallOk P call) (hdraw : DrawSim P F N call) {ψ₀ : Psi} {g₀ : Fam} {n₀ : Key} {w₀ : World} : ∀ (p : List Stp) (c : Code) {b : Code} {Q : Exit → Act → World → Prop} {r : R} {e : Exit} {a : Act} {w : World},
    subC p c = some b → noRec c = true → OutOk P F N ψ₀ g₀ n₀ w₀ r e a w → Clean (postC P call p (compCode P F N c) r) →
    (∀ e a w, OutOk P F N ψ₀ g₀ n₀ w₀ (postC P call p (compCode P F N c) r) e a w → Q e a w) → QH P p c Q e a w
  | [], c, b, Q, r, e, a, w, hs, hn, ho, hc, hq => by
    cases c <;> first | exact hq e a w ho | cases hs
  | .l :: p, c, b, Q, r, e, a, w, hs, hn, ho, hc, hq => by
    cases c <;> try (cases hs; done)
    rename_i x y
    have hnr : noRec x = true ∧ noRec y = true := by simpa [noRec] using hn
    have hc : Clean (thenK (evCode P call (compCode P F N y)) (postC P call p (compCode P F N x) r)) := hc
    have hab := fun tm ds h n => above_code (P := P) hcall.above (compCode P F N y) tm ds h n
    refine post_sim hcall hdraw p x (Q := Exit.then (y.wp P Q) Q) hs hnr.1 ho (clean_thenK hab hc) fun e a w ho => ?_
    rcases thenK_out hc ho with ⟨rfl, tm', ds', h', n', ψ', h2, h3, h4, h5⟩ | ⟨h1, h2⟩
    · exact wp_mono (code_sim hcall hdraw y hnr.2 h2 h4) fun e'' a'' w'' ho' => hq e'' a'' w'' (h5 e'' a'' w'' (OutOk.trans h3 ho'))
    · cases e <;> first | exact absurd rfl h1 | exact hq _ _ _ h2
  | .r :: p, c, b, Q, r, e, a, w, hs, hn, ho, hc, hq => by
    cases c <;> try (cases hs; done)
    rename_i x y
    have hnr : noRec x = true ∧ noRec y = true := by simpa [noRec] using hn
    exact post_sim hcall hdraw p y (Q := Q) hs hnr.2 ho hc hq
  | .b :: p, c, b, Q, r, e, a, w, hs, hn, ho, hc, hq => by
    cases c <;> try (cases hs; done)
    rename_i id x
    have hc : Clean (blockK id (postC P call p (compCode P F N x) r)) := hc
    refine post_sim hcall hdraw p x (Q := Exit.inBlock id Q) hs hn ho (clean_blockK id hc) fun e a w ho => ?_
    exact blockK_out (fun e a w h => hq e a w h) ho
end
end
end Go.Ev

namespace Go.Ev
open Go.RowKit
noncomputable section
variable {P : Program}
structure Hint where
  T : Nat
  ks : List Key
  θ : TH
def oneMore (θ : TH) : Bool := match θ with
  | q :: _ => intEq q.1 1 && llEq q.2 [(0, 1)]
  | [] => false
def someTh (θ : TH) : Bool := match θ with
  | _ :: _ => true
  | [] => false
def lensTh (θ : TH) : List (Key × Nat) → Bool
  | [] => true
  | q :: r => (match nth θ q.2 with
    | some u => intEq u.1 0 && llEq u.2 [(q.2, 1)]
    | none => false) && lensTh θ r
def LensAre (wins : List Win) (L : List (Key × Nat)) (σ : Nat → Int) : Prop := ∀ q ∈ L, ∃ wn, findW wins q.1 = some wn ∧ σ q.2 = wn.len
theorem lensTh_ok {θ : TH} : ∀ {L : List (Key × Nat)}, lensTh θ L = true → ∀ q ∈ L, nth θ q.2 = some (0, [(q.2, 1)])
  | [], _, q, h => by cases h
  | x :: r, h, q, hq => by
    unfold lensTh at h
    rw [Bool.and_eq_true] at h
    rcases List.mem_cons.1 hq with rfl | hq
    · have h1 := h.1
      split at h1
      · rename_i u hu
        rw [Bool.and_eq_true, @intEq_iff noSym, decide_eq_true_eq] at h1
        rw [hu]
        obtain ⟨a, b⟩ := u
        simp only at h1
        rw [h1.1, @llEq_eq noSym _ _ h1.2]
      · cases h1
    · exact lensTh_ok h.2 q hq
def chkLeaf (G : Nat) (ws : List (Key × Nat)) (Ts : List TS) (ok : TH → Bool) (K : Known) (t : Hint) (tm : Tm) (ds : Defs) (h : Heap) (n : Key) : Bool := match ds with
  | [] => match nth Ts t.T with
    | some T => ok t.θ && chkS G ws T t.ks t.θ K tm h && Nat.ble (Nat.succ n.ix) 65535
    | none => false
  | _ => false
def chkR (G : Nat) (ws : List (Key × Nat)) (Ts : List TS) (ok : TH → Bool) (K : Known) (fin : R → Bool) : R → List Hint → Option (List Hint)
  | .ok .normal tm ds h n, t :: r => match chkLeaf G ws Ts ok K t tm ds h n with
    | true => some r
    | false => none
  | .ok (.exit i) tm ds h n, r => match fin (.ok (.exit i) tm ds h n) with
    | true => some r
    | false => none
  | .ok .ret tm ds h n, r => match fin (.ok .ret tm ds h n) with
    | true => some r
    | false => none
  | .fork a b, r => match chkR G ws Ts ok K fin a r with
    | some r => chkR G ws Ts ok K fin b r
    | none => none
  | _, _ => none
def isSomeH (o : Option (List Hint)) : Bool := match o with
  | some _ => true
  | none => false
section
variable {G : Nat} {ws : List (Key × Nat)} {Ts : List TS} {ok : TH → Bool} {K : Known} {fin : R → Bool}
theorem chkR_clean (hf : ∀ r, fin r = true → Clean r) : ∀ {r : R} {l l' : List Hint}, chkR G ws Ts ok K fin r l = some l' → Clean r
  | .ok .normal tm ds h n, [], _, hc => by cases hc
  | .ok .normal tm ds h n, t :: r, l', hc => by
    unfold chkR at hc
    split at hc
    · rename_i hl
      unfold chkLeaf at hl
      split at hl
      · split at hl
        · rw [Bool.and_eq_true] at hl
          exact @ble_yes noSym _ _ hl.2
        · cases hl
      · cases hl
    · cases hc
  | .ok (.exit i) tm ds h n, l, l', hc => by
    unfold chkR at hc
    split at hc
    · rename_i h1; exact hf _ h1
    · cases hc
  | .ok .ret tm ds h n, l, l', hc => by
    unfold chkR at hc
    split at hc
    · rename_i h1; exact hf _ h1
    · cases hc
  | .ret .., l, l', hc => by cases hc
  | .err _, l, l', hc => by cases hc
  | .fork a b, l, l', hc => by
    unfold chkR at hc
    split at hc
    · rename_i r hr
      exact ⟨chkR_clean hf hr, chkR_clean hf hc⟩
    · cases hc
def LeafIs (P : Program) (F N : Nat) (ψ₀ : Psi) (g₀ : Fam) (n₀ : Key) (w₀ : World) (G : Nat) (ws : List (Key × Nat)) (Ts : List TS) (ok : TH → Bool) (K : Known) (fin : R → Bool) (S : Sym) (e : Exit) (a : Act) (w : World) : Prop :=
  (e = .normal ∧ ∃ (tm : Tm) (h : Heap) (n : Key) (ψ : Psi) (t : Hint) (T : TS), @St S P F N ψ tm [] h n a w ∧ @Post S ψ₀ g₀ n₀ w₀ ψ (Heap.fam h) n w ∧ nth Ts t.T = some T ∧ ok t.θ = true ∧ chkS G ws T t.ks t.θ K tm h = true) ∨
  (e ≠ .normal ∧ ∃ r, @OutOk S P F N ψ₀ g₀ n₀ w₀ r e a w ∧ fin r = true)
theorem chkR_out {S : Sym} {F N : Nat} {ψ₀ : Psi} {g₀ : Fam} {n₀ : Key} {w₀ : World} {e : Exit} {a : Act} {w : World} : ∀ {r : R} {l l' : List Hint}, chkR G ws Ts ok K fin r l = some l' →
    @OutOk S P F N ψ₀ g₀ n₀ w₀ r e a w → LeafIs P F N ψ₀ g₀ n₀ w₀ G ws Ts ok K fin S e a w
  | .ok .normal tm ds h n, [], _, hc, _ => by cases hc
  | .ok .normal tm ds h n, t :: r, l', hc, ⟨h1, ψ, h2, h3, h4⟩ => by
    unfold chkR at hc
    split at hc
    · rename_i hl
      unfold chkLeaf at hl
      split at hl
      · split at hl
        · rename_i T hT
          rw [Bool.and_eq_true, Bool.and_eq_true] at hl
          cases e <;> first | exact h1.elim | skip
          exact Or.inl ⟨rfl, tm, h, n, ψ, t, T, h2, h3, hT, hl.1.1, hl.1.2⟩
        · cases hl
      · cases hl
    · cases hc
  | .ok (.exit i) tm ds h n, l, l', hc, ho => by
    unfold chkR at hc
    split at hc
    · rename_i hf
      refine Or.inr ⟨fun e1 => ?_, _, ho, hf⟩
      subst e1; exact ho.1.elim
    · cases hc
  | .ok .ret tm ds h n, l, l', hc, ho => by
    unfold chkR at hc
    split at hc
    · rename_i hf
      refine Or.inr ⟨fun e1 => ?_, _, ho, hf⟩
      subst e1; exact ho.1.elim
    · cases hc
  | .ret .., l, l', hc, _ => by cases hc
  | .err _, l, l', hc, _ => by cases hc
  | .fork a b, l, l', hc, ho => by
    unfold chkR at hc
    split at hc
    · rename_i r hr
      rcases ho with ho | ho
      · exact chkR_out hr ho
      · exact chkR_out hc ho
    · cases hc
end
structure LInv (P : Program) (F N : Nat) (G : Nat) (A : Key → Option Value) (wins : List Win) (L : List (Key × Nat)) (w0 : World) (T : TS) (σ : Nat → Int) (ψ : Psi) (a : Act) (w : World) : Prop where
  bnd : BoundsOk σ 0 T.b
  fct : FactsOk σ T.f
  rul : RulesOk σ T.r
  len : LensAre wins L σ
  st : ∀ σ' K', (∀ j, j < T.b.length → σ' j = σ j) → K'.arg = A → @St (linSym σ' K') P F N ψ (mkTm T.locs) [] (mkH .nil T.objs) T.n a w
  own : ∀ k o p, Heap.fam (mkH .nil T.objs) k = some o → ψ k = some p → o.isRo = false ∧ w0.heap.size ≤ p.blk
  blw : Below w0.heap.size w0 w
  win : ∀ k wn, findW wins k = some wn → Heap.fam (mkH .nil T.objs) k = none → ψ k = some ⟨wn.B, wn.x + (σ 0).toNat * wn.esz, wn.sz, fun n => n⟩
theorem blw_post {S : Sym} {ψ ψ' : Psi} {g g' : Fam} {n n' : Key} {w0 w w' : World} (h : Below w0.heap.size w0 w) (hp : @Post S ψ g n w ψ' g' n' w') (hm : ∀ k o p, g k = some o → o.isRo = false → ψ k = some p → w0.heap.size ≤ p.blk) :
    Below w0.heap.size w0 w' := by
  have h1 := @Post.os S _ _ _ _ _ _ _ _ hp
  have h2 := @Post.tape S _ _ _ _ _ _ _ _ hp
  have h3 := @Post.output S _ _ _ _ _ _ _ _ hp
  have h4 := @Post.size S _ _ _ _ _ _ _ _ hp
  have h5 := @Post.frame S _ _ _ _ _ _ _ _ hp
  refine ⟨h1.trans h.os, h2.trans h.tape, h3.trans h.output, Nat.le_trans h.size h4, fun k hk => ?_⟩
  rw [h5 k (Nat.lt_of_lt_of_le hk h.size) fun k' o p q1 q2 q3 e => ?_, h.block k hk]
  have := hm k' o p q1 q2 q3
  omega
theorem mkH_mem {h : Heap} : ∀ {objs : List (Key × CObj)} {j : Nat} {k : Key} {o : CObj}, objs[j]? = some (k, o) → ∃ o', getH k (mkH h objs) = some o'
  | [], j, k, o, hj => by simp at hj
  | p :: r, j, k, o, hj => by
    show ∃ o', getH k (putH (some p.2) p.1 (mkH h r)) = some o'
    rw [gH_put]
    split
    · exact ⟨_, rfl⟩
    · rename_i e
      cases j with
      | zero => simp at hj; subst hj; exact absurd rfl e
      | succ j => exact mkH_mem (j := j) (by simpa using hj)
theorem noRho_of {objs : List (Key × CObj)} {ks : List Key} {k : Key} (h : Heap.fam (mkH .nil objs) k = none) : noRho (mkRho objs ks) k = true := by
  unfold noRho
  split
  · rfl
  · rename_i b hb
    obtain ⟨j, o, h1, h2⟩ := rho_mk hb
    obtain ⟨o', h3⟩ := mkH_mem (h := .nil) h1
    have h : getH k (mkH .nil objs) = none := h
    rw [h] at h3; cases h3
theorem inv_of {L : List (Key × Nat)} {wins : List Win} {σs : Nat → Int} {Ks : Known} (hK : KnownOk σs Ks) (hlen : LensAre wins L σs) {θ : TH} {T : TS} {ks : List Key} {G F N : Nat} {ψ₀ ψ : Psi} {g₀ : Fam} {n₀ : Key} {w0 w₀ : World} {tm : Tm} {h : Heap} {n : Key} {a : Act} {w : World}
    (hst : @St (linSym σs Ks) P F N ψ tm [] h n a w) (hp : @Post (linSym σs Ks) ψ₀ g₀ n₀ w₀ ψ (Heap.fam h) n w) (hG : P.globals.size ≤ G) (hA : ArgsAre Ks.arg wins) (hc : chkS G (wsOf wins) T ks θ Ks tm h = true)
    (h0 : ∃ q, nth θ 0 = some q) (hL : lensTh θ L = true) (hm : ∀ k o p, g₀ k = some o → o.isRo = false → ψ₀ k = some p → w0.heap.size ≤ p.blk) (hb : Below w0.heap.size w0 w₀) :
    ∃ σ ψT, LInv P F N G Ks.arg wins L w0 T σ ψT a w ∧ ∀ q, nth θ 0 = some q → σ 0 = evQ σs q := by
  obtain ⟨σ, hσ⟩ : ∃ σ : Nat → Int, ∀ j, σ j = match nth θ j with | some q => evQ σs q | none => 0 := ⟨_, fun _ => rfl⟩
  have hth : ∀ j q, nth θ j = some q → σ j = evQ σs q := fun j q hj => by rw [hσ, hj]
  obtain ⟨q0, hq0⟩ := h0
  obtain ⟨ψT, c1, c2, c3⟩ := cover_st hst hG hA hc (evQ σs q0) (fun q hq => by rw [hq0] at hq; injection hq with hq; rw [hq]) ⟨q0, hq0⟩
  have hc' := hc
  unfold chkS at hc'
  simp only [Bool.and_eq_true] at hc'
  obtain ⟨⟨⟨⟨⟨⟨_, _⟩, c6⟩, c7⟩, _⟩, _⟩, c10⟩ := hc'
  obtain ⟨hlenb, hbd⟩ := chkB_ok hK (σT := σ) (k := 0) c6 (fun j q hj => by rw [Nat.zero_add]; exact hth j q hj)
  have hout := @Post.img (linSym σs Ks) _ _ _ _ _ _ _ _ hp
  have hsz := @Post.size (linSym σs Ks) _ _ _ _ _ _ _ _ hp
  refine ⟨σ, ψT, ⟨hbd, chkF_ok hK (fun j q hj => hth j q hj) c7, chkRules_ok (fun j q hj => hth j q hj) hK.rules c10, fun q hq => ?_, fun σ' K' hag hK' => ?_, fun k o p h1 h2 => ?_, blw_post hb hp hm, fun k wn hw hno => ?_⟩, fun q hq => hth 0 q hq⟩
  · obtain ⟨wn, h1, h2⟩ := hlen q hq
    refine ⟨wn, h1, ?_⟩
    rw [hth _ _ (lensTh_ok hL q hq)]
    show (0 : Int) + (1 * σs q.2 + 0) = _
    rw [h2]; omega
  · refine c1 σ' K' (fun j q hj => ?_) hK'
    have hlt : j < T.b.length := by
      rw [hlenb]
      rw [@nth_eq noSym] at hj
      exact (List.getElem?_eq_some_iff.1 hj).1
    rw [hag j hlt]
    exact hth j q hj
  · obtain ⟨g1, k0, o0, p0, g2, g3, g4, g5⟩ := c2 k o p h1 h2
    refine ⟨g1, ?_⟩
    rw [← g5]
    rcases hout k0 o0 p0 g2 g3 g4 with ⟨k1, o1, p1, r1, r2, r3, r4⟩ | r
    · rw [← r4]; exact hm k1 o1 p1 r1 r2 r3
    · exact Nat.le_trans hb.size (Nat.le_trans (by exact Nat.le_refl _) r)
  · rw [c3 k wn hw (noRho_of hno), hth 0 q0 hq0]
def WinOk (S : Sym) (wins : List Win) (w0 : World) (i : Int) (q : Key × List CV) : Prop :=
  ∃ wn arr elem fz, findW wins q.1 = some wn ∧ w0.heap[wn.B]? = some (.cells arr elem fz) ∧ arr.size = wn.sz ∧ wn.x + i.toNat * wn.esz + q.2.length ≤ wn.sz ∧
    ∀ (j : Nat) (c : CV), q.2[j]? = some c → ∃ v, arr[wn.x + i.toNat * wn.esz + j]? = some v ∧ ∀ ψ, @VRel S ψ c v
def roOf (l : List (Key × List CV)) : List (Key × CObj) := l.map fun q => (q.1, .ro q.2)
def apartK (objs : List (Key × CObj)) : List (Key × List CV) → Bool
  | [] => true
  | q :: r => (match getH q.1 (mkH .nil objs) with
      | none => true
      | some _ => false) && (match getH q.1 (mkH .nil (roOf r)) with
      | none => true
      | some _ => false) && apartK objs r
theorem roOf_get {l : List (Key × List CV)} {j : Nat} {k : Key} {o : CObj} (h : (roOf l)[j]? = some (k, o)) : ∃ cs, (k, cs) ∈ l ∧ o = .ro cs := by
  unfold roOf at h
  rw [List.getElem?_map] at h
  cases hq : l[j]? with
  | none => rw [hq] at h; cases h
  | some q =>
    rw [hq] at h
    injection h with h
    injection h with h1 h2
    subst h1 h2
    exact ⟨q.2, List.mem_of_getElem? hq, rfl⟩
theorem apartK_ok {objs : List (Key × CObj)} : ∀ {l : List (Key × List CV)}, apartK objs l = true → ∀ q ∈ l, getH q.1 (mkH .nil objs) = none
  | [], _, q, hq => by cases hq
  | x :: r, h, q, hq => by
    unfold apartK at h
    rw [Bool.and_eq_true, Bool.and_eq_true] at h
    rcases List.mem_cons.1 hq with rfl | hq
    · have h1 := h.1.1
      split at h1
      · assumption
      · cases h1
    · exact apartK_ok h.2 q hq
theorem fam_wins {objs : List (Key × CObj)} {l : List (Key × List CV)} {k : Key} {o : CObj} (h : Heap.fam (mkH (mkH .nil objs) (roOf l)) k = some o) :
    (∃ cs, (k, cs) ∈ l ∧ o = .ro cs) ∨ Heap.fam (mkH .nil objs) k = some o := by
  rcases getH_mkH h with ⟨j, hj⟩ | h
  · exact .inl (roOf_get hj)
  · exact .inr h
section
variable {F N G : Nat} {A : Key → Option Value} {wins : List Win} {L : List (Key × Nat)} {w0 : World} {T : TS} {σ : Nat → Int} {ψ : Psi} {a : Act} {w : World}
theorem inv_wins (hi : LInv P F N G A wins L w0 T σ ψ a w) (hB : ∀ x ∈ wins, ∀ y ∈ wins, x.B = y.B → x.key = y.key) {σ' : Nat → Int} {K' : Known} (hag : ∀ j, j < T.b.length → σ' j = σ j) (hA : K'.arg = A) {l : List (Key × List CV)}
    (hl : ∀ q ∈ l, WinOk (linSym σ' K') wins w0 (σ 0) q) (hap : apartK T.objs l = true) :
    @St (linSym σ' K') P F N ψ (mkTm T.locs) [] (mkH (mkH .nil T.objs) (roOf l)) T.n a w := by
  have hst := hi.st σ' K' hag hA
  have hR : @Rel (linSym σ' K') ψ (Heap.fam (mkH .nil T.objs)) w := @St.rel (linSym σ' K') _ _ _ _ _ _ _ _ _ _ hst
  have hTot := @Rel.tot (linSym σ' K') _ _ _ hR
  have hOn := @Rel.on (linSym σ' K') _ _ _ hR
  have hInj := @Rel.inj (linSym σ' K') _ _ _ hR
  have hwin : ∀ k cs, (k, cs) ∈ l → ∃ wn arr elem fz, findW wins k = some wn ∧ ψ k = some ⟨wn.B, wn.x + (σ 0).toNat * wn.esz, wn.sz, fun n => n⟩ ∧ w.heap[wn.B]? = some (.cells arr elem fz) ∧ wn.B < w0.heap.size ∧
      arr.size = wn.sz ∧ wn.x + (σ 0).toNat * wn.esz + cs.length ≤ wn.sz ∧
      ∀ (j : Nat) (c : CV), cs[j]? = some c → ∃ v, arr[wn.x + (σ 0).toNat * wn.esz + j]? = some v ∧ ∀ ψ, @VRel (linSym σ' K') ψ c v := by
    intro k cs hm
    obtain ⟨wn, arr, elem, fz, h1, h2, h3, h5, h6⟩ := hl _ hm
    have hlt : wn.B < w0.heap.size := by
      rcases Nat.lt_or_ge wn.B w0.heap.size with h | h
      · exact h
      · rw [Array.getElem?_eq_none h] at h2; cases h2
    exact ⟨wn, arr, elem, fz, h1, hi.win k wn h1 (apartK_ok hap _ hm), by rw [hi.blw.block _ hlt]; exact h2, hlt, h3, h5, h6⟩
  refine @St.mk (linSym σ' K') P F N _ _ _ _ _ _ _ (@St.frame (linSym σ' K') _ _ _ _ _ _ _ _ _ _ hst) (@St.dfr (linSym σ' K') _ _ _ _ _ _ _ _ _ _ hst) ?_ (@St.glob (linSym σ' K') _ _ _ _ _ _ _ _ _ _ hst) (@St.fresh (linSym σ' K') _ _ _ _ _ _ _ _ _ _ hst)
  refine @Rel.mk (linSym σ' K') _ _ _ ?_ ?_ ?_
  · intro k o p hk hp
    rcases fam_wins hk with ⟨cs, hm, rfl⟩ | hk
    · obtain ⟨wn, arr, elem, fz, h1, h2, h3, _, h4, h6, h7⟩ := hwin k cs hm
      rw [h2] at hp
      injection hp with hp; subst hp
      refine ⟨arr, elem, fz, h3, h4, h6, fun j c hj => ?_⟩
      obtain ⟨v, hv, hr⟩ := h7 j c hj
      exact ⟨v, hv, hr ψ⟩
    · exact hOn k o p hk hp
  · intro k o hk
    rcases fam_wins hk with ⟨cs, hm, rfl⟩ | hk
    · obtain ⟨wn, arr, elem, fz, h1, h2, _⟩ := hwin k cs hm
      exact ⟨_, h2⟩
    · exact hTot k o hk
  · intro k₁ k₂ o₁ o₂ p₁ p₂ h1 h2 h3 h4 e
    rcases fam_wins h1 with ⟨cs1, m1, rfl⟩ | h1 <;> rcases fam_wins h2 with ⟨cs2, m2, rfl⟩ | h2
    · obtain ⟨w1, _, _, _, f1, g1, _⟩ := hwin k₁ cs1 m1
      obtain ⟨w2, _, _, _, f2, g2, _⟩ := hwin k₂ cs2 m2
      rw [g1] at h3; rw [g2] at h4
      injection h3 with h3; injection h4 with h4
      subst h3; subst h4
      obtain ⟨m1, e1⟩ := findW_key f1
      obtain ⟨m2, e2⟩ := findW_key f2
      rw [← e1, ← e2]
      exact hB _ m1 _ m2 e
    · exfalso
      obtain ⟨w1, _, _, _, f1, g1, _, hlt, _⟩ := hwin k₁ cs1 m1
      rw [g1] at h3
      injection h3 with h3; subst h3
      have := (hi.own _ _ _ h2 h4).2
      simp only at e
      omega
    · exfalso
      obtain ⟨w1, _, _, _, f1, g1, _, hlt, _⟩ := hwin k₂ cs2 m2
      rw [g1] at h4
      injection h4 with h4; subst h4
      have := (hi.own _ _ _ h1 h3).2
      simp only at e
      omega
    · exact hInj k₁ k₂ o₁ o₂ p₁ p₂ h1 h2 h3 h4 e
end
def boundIs (m : Int) : List TS → Bool
  | [] => true
  | T :: r => (match T.b with
    | q :: _ => decide (q.2 ≤ m)
    | [] => false) && boundIs m r
theorem boundIs_ok {m : Int} : ∀ {Ts : List TS} {t : Nat} {T : TS}, boundIs m Ts = true → nth Ts t = some T → ∃ q r, T.b = q :: r ∧ q.2 ≤ m
  | [], _, _, _, h => by cases h
  | x :: r, t, T, hb, h => by
    unfold boundIs at hb
    rw [Bool.and_eq_true] at hb
    cases t with
    | zero =>
      injection h with h; subst h
      have h1 := hb.1
      split at h1
      · rename_i q l e
        exact ⟨q, l, e, of_decide_eq_true h1⟩
      · cases h1
    | succ t => exact boundIs_ok hb.2 h
section
variable {code : FuncId → CFn} {nat : Nats} {fuel : Nat} {fn : Func} {c b : Code} {p : List Stp} {rs : List CRes} {G : Nat} {wins : List Win} {L : List (Key × Nat)} {A : Key → Option Value} {Ts : List TS} {bound : Int} {w0 : World}
abbrev callOf (P : Program) (code : FuncId → CFn) (nat : ∀ _ : Sym, Nats) (fuel : Nat) (S : Sym) : CallF := @ev S P code (nat S) fuel
def finOf (P : Program) (code : FuncId → CFn) (nat : Nats) (fuel : Nat) (p : List Stp) (cc : CCode) (rs : List CRes) (S : Sym) (r : R) : Bool :=
  allTrue (afterFn false (@ev S P code nat fuel) rs (@postC S P (@ev S P code nat fuel) p cc r))
def passOf (P : Program) (code : FuncId → CFn) (nat : Nats) (fuel : Nat) (G : Nat) (ws L : List (Key × Nat)) (Ts : List TS) (p : List Stp) (cc : CCode) (rs : List CRes) (T : TS) (l : List (Key × List CV)) (S : Sym) (K : Known) (hs : List Hint) : Bool :=
  isSomeH (chkR G ws Ts (fun θ => oneMore θ && lensTh θ L) K (finOf P code nat fuel p cc rs S) (@evCode S P (@ev S P code nat fuel) (bodyC p cc) (mkTm T.locs) [] (mkH (mkH .nil T.objs) (roOf l)) T.n) hs)
def Passes (P : Program) (code : FuncId → CFn) (nat : Nats) (fuel : Nat) (G : Nat) (wins : List Win) (L : List (Key × Nat)) (A : Key → Option Value) (Ts : List TS) (p : List Stp) (cc : CCode) (rs : List CRes) (w0 : World) : Prop :=
  ∀ t T, nth Ts t = some T → ∀ σ, BoundsOk σ 0 T.b → FactsOk σ T.f → RulesOk σ T.r → LensAre wins L σ → ∃ σ' K' l hs, (∀ j, j < T.b.length → σ' j = σ j) ∧ (∀ q ∈ L, σ' q.2 = σ q.2) ∧ K'.arg = A ∧ KnownOk σ' K' ∧ (∀ q ∈ l, WinOk (linSym σ' K') wins w0 (σ 0) q) ∧ apartK T.objs l = true ∧
    passOf P code nat fuel G (wsOf wins) L Ts p cc rs T l (linSym σ' K') K' hs = true
theorem fin_clean {σ : Nat → Int} {K : Known} (hK : KnownOk σ K) (hm : P.follows .mixedOrders = true) (hcode : CodeOk P code) (hnat : ∀ [Sym] [SymFact P], NatsOk P nat) {cc : CCode} : ∀ r, finOf P code nat fuel p cc rs (linSym σ K) r = true → Clean r := by
  letI S : Sym := linSym σ K
  haveI hS : SymFact P := linSym_ok hK
  have hcall : CallOk P (ev P code nat fuel) := ev_ok (fun call hcall F N => draw_sim hm hcall) hcode hnat fuel
  intro r h
  have h : allTrue (afterFn false (ev P code nat fuel) rs (postC P (ev P code nat fuel) p cc r)) = true := h
  exact post_clean hcall.above p cc (clean_afterFn hcall.above false rs (allTrue_clean h))
abbrev EndQ (P : Program) (fn : Func) (w0 : World) : Exit → Act → World → Prop := bodyPostD P fn fun e w => e = .returned (.bool true) ∧ Below w0.heap.size w0 w
theorem fin_sim {σ : Nat → Int} {K : Known} (hK : KnownOk σ K) (hm : P.follows .mixedOrders = true) (hcode : CodeOk P code) (hnat : ∀ [Sym] [SymFact P], NatsOk P nat) {F N : Nat} (hsub : subC p c = some b) (hn : noRec c = true)
    (hrs : optMap (compRes P F N) fn.results.toList = some rs) {ψ₀ : Psi} {g₀ : Fam} {n₀ : Key} {w₀ : World} {r : R} {e : Exit} {a : Act} {w : World}
    (ho : @OutOk (linSym σ K) P F N ψ₀ g₀ n₀ w₀ r e a w) (hf : finOf P code nat fuel p (compCode P F N c) rs (linSym σ K) r = true)
    (hb : Below w0.heap.size w0 w₀) (ho0 : ∀ k o p, g₀ k = some o → o.isRo = false → ψ₀ k = some p → w0.heap.size ≤ p.blk) : QH P p c (EndQ P fn w0) e a w := by
  letI S : Sym := linSym σ K
  haveI hS : SymFact P := linSym_ok hK
  have hcall : CallOk P (ev P code nat fuel) := ev_ok (fun call hcall F N => draw_sim hm hcall) hcode hnat fuel
  have hdraw : DrawSim P F N (ev P code nat fuel) := draw_sim hm hcall
  have hf : allTrue (afterFn false (ev P code nat fuel) rs (postC P (ev P code nat fuel) p (compCode P F N c) r)) = true := hf
  have hc := allTrue_clean hf
  have hc2 := clean_afterFn hcall.above false rs hc
  refine post_sim hcall hdraw p c hsub hn ho hc2 fun e a w ho => ?_
  refine after_out false rs hc ho fun tm ds h' n' ψ' q1 q2 q3 q4 q5 => ?_
  have hl := leave_sim hcall hrs q2 q4
  have : Leaves P fn a.tmps (fun e w => e = .returned (.bool true) ∧ Below w0.heap.size w0 w) a.defers .returning w := by
    refine leaves_mono' (fun e w'' ⟨v, he, hr⟩ => ?_) _ _ _ hl
    obtain ⟨rfl, ψ'', g'', n'', hp⟩ := allTrue_out hf (q5 _ _ (RetOut.trans q3 hr))
    exact ⟨he, blw_post hb hp ho0⟩
  rcases q1 with rfl | rfl
  · exact this
  · exact this
theorem loop_good (hm : P.follows .mixedOrders = true) (hcode : CodeOk P code) (hnat : ∀ [Sym] [SymFact P], NatsOk P nat) (hG : P.globals.size ≤ G) {F N : Nat} (hsub : subC p c = some b) (hn : noRec c = true)
    (hrs : optMap (compRes P F N) fn.results.toList = some rs) (hA : ArgsAre A wins) (hB : ∀ x ∈ wins, ∀ y ∈ wins, x.B = y.B → x.key = y.key) (hbd : boundIs bound Ts = true)
    (hgood : Passes P code nat fuel G wins L A Ts p (compCode P F N c) rs w0) : ∀ (m : Nat) (t : Nat) (T : TS) (σ : Nat → Int) (ψ : Psi) (a : Act) (w : World), nth Ts t = some T → LInv P F N G A wins L w0 T σ ψ a w → (bound - σ 0).toNat ≤ m →
    LoopAt P b (QH P p c (EndQ P fn w0)) a w := by
  have hnb : noRec b = true := by
    have : ∀ {p : List Stp} {c : Code}, subC p c = some b → noRec c = true → noRec b = true := by
      intro p
      induction p with
      | nil =>
        intro c hs hn
        cases c <;> try (cases hs; done)
        injection hs with hs; subst hs
        simpa [noRec] using hn
      | cons x p ih =>
        intro c hs hn
        cases x <;> cases c <;> try (cases hs; done)
        · rename_i x y
          have hn : noRec x = true ∧ noRec y = true := by simpa [noRec] using hn
          exact ih hs hn.1
        · rename_i x y
          have hn : noRec x = true ∧ noRec y = true := by simpa [noRec] using hn
          exact ih hs hn.2
        · exact ih hs hn
    exact this hsub hn
  have step : ∀ (t : Nat) (T : TS) (σ : Nat → Int) (ψ : Psi) (a : Act) (w : World), nth Ts t = some T → LInv P F N G A wins L w0 T σ ψ a w →
      (∀ (t' : Nat) (T' : TS) (σ' : Nat → Int) (ψ' : Psi) (a' : Act) (w' : World), nth Ts t' = some T' → LInv P F N G A wins L w0 T' σ' ψ' a' w' → (bound - σ' 0).toNat < (bound - σ 0).toNat → LoopAt P b (QH P p c (EndQ P fn w0)) a' w') →
      LoopAt P b (QH P p c (EndQ P fn w0)) a w := by
    intro t T σ ψ a w hT hi hrec
    obtain ⟨σ', K', l, hs, hag, hagL, hKA, hK, hl, hap, hpass⟩ := hgood t T hT σ hi.bnd hi.fct hi.rul hi.len
    have hst := inv_wins hi hB hag hKA hl hap
    obtain ⟨q1, r1, hb1, _⟩ := boundIs_ok hbd hT
    have hag0 : σ' 0 = σ 0 := hag 0 (by rw [hb1]; simp)
    have hm0 : ∀ k o p, Heap.fam (mkH (mkH .nil T.objs) (roOf l)) k = some o → o.isRo = false → ψ k = some p → w0.heap.size ≤ p.blk := by
      intro k o p h1 h2 h3
      rcases fam_wins h1 with ⟨cs, _, rfl⟩ | h1
      · cases h2
      · exact (hi.own k o p h1 h3).2
    letI S : Sym := linSym σ' K'
    haveI hS : SymFact P := linSym_ok hK
    have hcall : CallOk P (ev P code nat fuel) := ev_ok (fun call hcall F N => draw_sim hm hcall) hcode hnat fuel
    have hdraw : DrawSim P F N (ev P code nat fuel) := draw_sim hm hcall
    unfold passOf at hpass
    rw [@body_comp S P F N p c b hsub] at hpass
    generalize hres : evCode P (ev P code nat fuel) (compCode P F N b) (mkTm T.locs) [] (mkH (mkH .nil T.objs) (roOf l)) T.n = r at hpass
    obtain ⟨hs', hchk⟩ : ∃ x, chkR G (wsOf wins) Ts (fun θ => oneMore θ && lensTh θ L) K' (finOf P code nat fuel p (compCode P F N c) rs (linSym σ' K')) r hs = some x := by
      unfold isSomeH at hpass
      split at hpass
      · rename_i x hx; exact ⟨x, hx⟩
      · cases hpass
    have hclean : Clean r := chkR_clean (fin_clean hK hm hcode hnat) hchk
    have hsim := code_sim hcall hdraw b hnb hst (by rw [hres]; exact hclean)
    rw [hres] at hsim
    refine loopAt_of (wp_mono hsim fun e a' w' ho => ?_)
    rcases chkR_out hchk ho with ⟨rfl, tm, h, n, ψ', t', T', h1, h2, h3, h4, h5⟩ | ⟨hne, r', h1, h2⟩
    · rw [Bool.and_eq_true] at h4
      obtain ⟨h4, h4L⟩ := h4
      obtain ⟨q0, θr, hθ, e1, e2⟩ : ∃ q0 θr, t'.θ = q0 :: θr ∧ q0.1 = 1 ∧ q0.2 = [(0, 1)] := by
        unfold oneMore at h4
        split at h4
        · rename_i q θr hq
          rw [Bool.and_eq_true, @intEq_iff noSym, decide_eq_true_eq] at h4
          exact ⟨q, θr, hq, h4.1, @llEq_eq noSym _ _ h4.2⟩
        · cases h4
      obtain ⟨σ'', ψT, hinv, h0⟩ := inv_of hK (fun q hq => by
        obtain ⟨wn, g1, g2⟩ := hi.len q hq
        exact ⟨wn, g1, by rw [hagL q hq]; exact g2⟩) h1 h2 hG (by rw [hKA]; exact hA) h5 ⟨q0, by rw [hθ]; rfl⟩ h4L hm0 hi.blw
      rw [hKA] at hinv
      have hσ : σ'' 0 = σ 0 + 1 := by
        rw [h0 q0 (by rw [hθ]; rfl)]
        unfold evQ
        rw [e1, e2]
        show (1 : Int) + (1 * σ' 0 + 0) = _
        rw [hag0]; omega
      obtain ⟨q2, r2, hb2, hle⟩ := boundIs_ok hbd h3
      have hbb := hinv.bnd
      rw [hb2] at hbb
      have := hbb.1.2
      exact hrec t'.T T' σ'' ψT a' w' h3 hinv (by omega)
    · have := fin_sim hK hm hcode hnat hsub hn hrs h1 h2 hi.blw hm0
      cases e <;> first | exact absurd rfl hne | exact this
  intro m
  induction m with
  | zero =>
    intro t T σ ψ a w hT hi hm0
    exact step t T σ ψ a w hT hi fun t' T' σ' ψ' a' w' hT' hi' hlt => by omega
  | succ m ih =>
    intro t T σ ψ a w hT hi hm0
    exact step t T σ ψ a w hT hi fun t' T' σ' ψ' a' w' hT' hi' hlt => ih t' T' σ' ψ' a' w' hT' hi' (by omega)
end
end
end Go.Ev

namespace Go.Ev
open Go.RowKit
noncomputable section
variable {P : Program}
theorem compFn_inv {f : FuncId} {fn : Func} {c : Code} {cc : CCode} {rs : List CRes} (hf : P.funcs[f]? = some fn) (hb : fn.body = some c) (h : compFn P f = .mk cc rs) :
    optMap (compRes P (frameBits fn c) fn.ntmps) fn.results.toList = some rs ∧ noRec c = true ∧ cc = compCode P (frameBits fn c) fn.ntmps c := by
  unfold compFn at h
  rw [@nth_eq noSym] at h
  have hf' : P.funcs.toList[f]? = some fn := by simpa using hf
  simp only [hf', hb] at h
  split at h
  · cases h
  · unfold compWith at h
    cases hrs : optMap (compRes P (frameBits fn c) fn.ntmps) fn.results.toList with
    | none => simp only [hrs] at h; cases h
    | some r =>
      simp only [hrs] at h
      split at h
      · rename_i hn
        injection h with h1 h2
        subst h1 h2
        exact ⟨rfl, hn, rfl⟩
      · split at h
        · split at h <;> cases h
        · cases h
def psiW (G : Nat) (wins : List Win) : Psi := fun k => match findW wins k with
  | some w => some ⟨w.B, w.x + 0 * w.esz, w.sz, fun n => n⟩
  | none => psi0 G k
theorem psiW_glob {G : Nat} {wins : List Win} {hi : Nat} (hG : P.globals.size ≤ G) (hw : winB G hi (wsOf wins) = true) : Glob P (psiW G wins) := by
  intro g hg h4
  obtain ⟨sz, e⟩ := @psi0_glob noSym P noSym_ok _ hG g hg h4
  have hix : (Key.ofNat g).ix = g := @Key.ix_ofNat noSym _ (by omega)
  have hnw : findW wins (Key.ofNat g) = none := by
    cases hr : findW wins (Key.ofNat g) with
    | none => rfl
    | some wn =>
      obtain ⟨hm, hk⟩ := findW_key hr
      have := (winB_ok hw wn hm).1
      rw [hk] at this; omega
  refine ⟨sz, ?_⟩
  unfold psiW
  rw [hnw]
  exact e
theorem psiW_fresh {G : Nat} {wins : List Win} {n : Key} (hn : G ≤ n.ix) (hw : winB G n.ix (wsOf wins) = true) : Fresh (psiW G wins) n := by
  intro k hk
  have hnw : findW wins k = none := by
    cases hr : findW wins k with
    | none => rfl
    | some wn =>
      obtain ⟨hm, hk'⟩ := findW_key hr
      have := (winB_ok hw wn hm).2
      rw [hk'] at this; omega
  unfold psiW
  rw [hnw]
  exact @psi0_fresh noSym _ _ hn k hk
def startOf (P : Program) (code : FuncId → CFn) (nat : Nats) (fuel : Nat) (G : Nat) (ws L : List (Key × Nat)) (Ts : List TS) (p : List Stp) (cc : CCode) (args : List CV) (n : Key) (S : Sym) (K : Known) (hs : List Hint) : Bool :=
  isSomeH (chkR G ws Ts (fun θ => someTh θ && lensTh θ L) K (fun _ => false) (@preC S P (@ev S P code nat fuel) p cc (argsT args 0 .nil) [] .nil n) hs)
theorem loop_calls {code : FuncId → CFn} {nat : Nats} {fuel : Nat} {f : FuncId} {fn : Func} {c b : Code} {cc : CCode} {p : List Stp} {rs : List CRes} {G : Nat} {wins : List Win} {L : List (Key × Nat)} {A : Key → Option Value} {Ts : List TS} {bound : Int} {w0 : World}
    {σ : Nat → Int} {K : Known} {args : List CV} {args' : Array Value} {n : Key} {hs : List Hint} (hK : KnownOk σ K) (hKA : K.arg = A) (hlen : LensAre wins L σ)
    (hm : P.follows .mixedOrders = true) (hcode : CodeOk P code) (hnat : ∀ [Sym] [SymFact P], NatsOk P nat) (hf : P.funcs[f]? = some fn) (hb : fn.body = some c) (hcf : compFn P f = .mk cc rs) (hsub : subC p c = some b)
    (hG : P.globals.size ≤ G) (hn : G ≤ n.ix) (hw : winB G n.ix (wsOf wins) = true) (hA : ArgsAre A wins) (hB : ∀ x ∈ wins, ∀ y ∈ wins, x.B = y.B → x.key = y.key) (hbd : boundIs bound Ts = true)
    (hargs : @VRels (linSym σ K) (psiW G wins) args args'.toList) (hrun : startOf P code nat fuel G (wsOf wins) L Ts p cc args n (linSym σ K) K hs = true)
    (hgood : Passes P code nat fuel G wins L A Ts p cc rs w0) : Calls P f args' w0 fun e w => e = .returned (.bool true) ∧ Below w0.heap.size w0 w := by
  obtain ⟨hrs, hnr, rfl⟩ := compFn_inv hf hb hcf
  letI S : Sym := linSym σ K
  haveI hS : SymFact P := linSym_ok hK
  have hcall : CallOk P (ev P code nat fuel) := ev_ok (fun call hcall F N => draw_sim hm hcall) hcode hnat fuel
  have hdraw : ∀ F N, DrawSim P F N (ev P code nat fuel) := fun F N => draw_sim hm hcall
  have hst : St P (frameBits fn c) fn.ntmps (psiW G wins) (argsT args 0 .nil) [] .nil n { tmps := args' ++ Array.replicate (fn.ntmps - args'.size) undef, defers := [] } w0 :=
    entry_st hcall hdraw hargs (psiW_glob hG hw) (rel_nil _ _) (psiW_fresh hn hw)
  unfold startOf at hrun
  generalize hres : preC P (ev P code nat fuel) p (compCode P (frameBits fn c) fn.ntmps c) (argsT args 0 .nil) [] .nil n = r at hrun
  obtain ⟨hs', hchk⟩ : ∃ x, chkR G (wsOf wins) Ts (fun θ => someTh θ && lensTh θ L) K (fun _ => false) r hs = some x := by
    unfold isSomeH at hrun
    split at hrun
    · rename_i x hx; exact ⟨x, hx⟩
    · cases hrun
  have hclean : Clean r := chkR_clean (fun _ h => by cases h) hchk
  refine calls_of_wp_defers hf hb (pre_sim hcall (hdraw _ _) p c hsub hnr hst (by rw [hres]; exact hclean) fun e a' w' ho => ?_)
  rw [hres] at ho
  rcases chkR_out hchk ho with ⟨rfl, tm, h, n', ψ', t', T', h1, h2, h3, h4, h5⟩ | ⟨_, r', _, h2⟩
  · rw [Bool.and_eq_true] at h4
    obtain ⟨h4, h4L⟩ := h4
    obtain ⟨q0, θr, hθ⟩ : ∃ q0 θr, t'.θ = q0 :: θr := by
      unfold someTh at h4
      split at h4
      · rename_i q θr hq; exact ⟨q, θr, hq⟩
      · cases h4
    obtain ⟨σ'', ψT, hinv, _⟩ := inv_of hK hlen h1 h2 hG (by rw [hKA]; exact hA) h5 ⟨q0, by rw [hθ]; rfl⟩ h4L (w0 := w0) (fun k o p h1 _ _ => by
      have h1 : getH k .nil = some o := h1
      rw [gH_nil] at h1; cases h1) (Below.refl _ _)
    rw [hKA] at hinv
    exact ⟨rfl, loop_good hm hcode hnat hG hsub hnr hrs hA hB hbd hgood _ _ _ _ _ _ _ h3 hinv (Nat.le_refl _)⟩
  · cases h2
end
end Go.Ev

