/- A part of the proof that NightPlansCardSaid holds, without conditions. -/
import Derived.Test.YtomghboflcafbaaGreatDoorS4
import Derived.Laws.RangeAny
import Derived.Test.YtomghboflcafbaaGreatDoorS3
set_option linter.unusedVariables false
set_option linter.unusedSimpArgs false
section
namespace Go.Lens.Tb
open Go.Proofs
variable [Lz]
set_option linter.unusedSectionVars false
set_option maxRecDepth 100000
attribute [local irreducible] TK PK T RG EfR Body
theorem ag3 : aggT tab 3 = some false := by kernel_rfl
theorem ag34 : aggT tab 34 = some false := by kernel_rfl
theorem sz3 : szT tab 3 = some 1 := by kernel_rfl
theorem sz34 : szT tab 34 = some 1 := by kernel_rfl
theorem un22 : tab.underlying 22 = some (.slice 3) := by kernel_rfl
theorem un289 : tab.underlying 289 = some (.slice 34) := by kernel_rfl
theorem w101 (b : Bool) (e : Int) : CallOk Tryz.prog 101 [vB b, vI e] (lookM []) (vI (whenF b e)) [] := by
 haveI := tab_ok
 obtain ⟨fn, f1, f2, f3, f4, _, f6⟩ := qf101
 refine callOk_of (Y := tab) (F := fn101) f1 (f2.trans rfl) f3 f4 f6 (Nat.le_of_ble_eq_true rfl) rfl ?_
 clear f1 f2 f3 f4 f6
 show TK _ _ _ _ _ _ ⟨[(0, vB b), (1, vI e)], []⟩
 refine At rfl ?_
 refine NR ⟨[(0, vB b), (1, vI e)], []⟩ (sb rfl rfl rfl) rfl ?_
 refine ag rfl ?_
 refine RN ?_
 refine Ap rfl ?_
 refine NR ⟨[(0, vB b), (1, vI e)], []⟩ (sb rfl rfl rfl) rfl ?_
 refine mv rfl ?_
 refine RN ?_
 refine Ap rfl ?_
 refine TK.norm ⟨[(1, vI e), (5, vB b)], []⟩ (sb rfl rfl rfl) ?_
 refine TK.cond rfl (fun h1 => ?_) (fun h1 => ?_)
 ·
  refine At rfl ?_
  refine NR ⟨[(1, vI e)], []⟩ (sb rfl rfl rfl) rfl ?_
  refine mv rfl ?_
  refine ag rfl ?_
  refine RN ?_
  refine Ap rfl ?_
  refine TK.ret ?_
  refine PK.ret ?_
  refine leaf (val0 := vI e) (by kernel_rfl) ?_
  exact li (by subst h1; rfl)
 ·
  refine At rfl ?_
  refine NR ⟨[], []⟩ (sb rfl rfl rfl) rfl ?_
  refine ag rfl ?_
  refine RN ?_
  refine Ap rfl ?_
  refine TK.ret ?_
  refine PK.ret ?_
  refine leaf (val0 := vI 0) (by kernel_rfl) ?_
  exact li (by subst h1; rfl)
theorem w28 (b : Bool) (e : Int) : CallOk Tryz.prog 28 [vB b, vI e] (lookM []) (vI (whenF b e)) [] := by
 haveI := tab_ok
 obtain ⟨fn, f1, f2, f3, f4, _, f6⟩ := qf28
 refine callOk_of (Y := tab) (F := fn28) f1 (f2.trans rfl) f3 f4 f6 (Nat.le_of_ble_eq_true rfl) rfl ?_
 clear f1 f2 f3 f4 f6
 show TK _ _ _ _ _ _ ⟨[(0, vB b), (1, vI e)], []⟩
 refine At rfl ?_
 refine NR ⟨[(0, vB b), (1, vI e)], []⟩ (sb rfl rfl rfl) rfl ?_
 refine ag rfl ?_
 refine RN ?_
 refine Ap rfl ?_
 refine NR ⟨[(0, vB b), (1, vI e)], []⟩ (sb rfl rfl rfl) rfl ?_
 refine mv rfl ?_
 refine RN ?_
 refine Ap rfl ?_
 refine TK.norm ⟨[(1, vI e), (5, vB b)], []⟩ (sb rfl rfl rfl) ?_
 refine TK.cond rfl (fun h1 => ?_) (fun h1 => ?_)
 ·
  refine At rfl ?_
  refine NR ⟨[(1, vI e)], []⟩ (sb rfl rfl rfl) rfl ?_
  refine mv rfl ?_
  refine ag rfl ?_
  refine RN ?_
  refine Ap rfl ?_
  refine TK.ret ?_
  refine PK.ret ?_
  refine leaf (val0 := vI e) (by kernel_rfl) ?_
  exact li (by subst h1; rfl)
 ·
  refine At rfl ?_
  refine NR ⟨[], []⟩ (sb rfl rfl rfl) rfl ?_
  refine ag rfl ?_
  refine RN ?_
  refine Ap rfl ?_
  refine TK.ret ?_
  refine PK.ret ?_
  refine leaf (val0 := vI 0) (by kernel_rfl) ?_
  exact li (by subst h1; rfl)
theorem w93 (n low high : Int) : CallOk Tryz.prog 93 [vI n, vI low, vI high] (lookM []) (vB (outF n low high)) [] := by
 haveI := tab_ok
 obtain ⟨fn, f1, f2, f3, f4, _, f6⟩ := qf93
 refine callOk_of (Y := tab) (F := fn93) f1 (f2.trans rfl) f3 f4 f6 (Nat.le_of_ble_eq_true rfl) rfl ?_
 clear f1 f2 f3 f4 f6
 show TK _ _ _ _ _ _ ⟨[(0, vI n), (1, vI low), (2, vI high)], []⟩
 refine At rfl ?_
 refine NR ⟨[(0, vI n), (1, vI low), (2, vI high)], []⟩ (sb rfl rfl rfl) rfl ?_
 refine ag rfl ?_
 refine RN ?_
 refine Ap rfl ?_
 refine NR ⟨[(0, vI n), (1, vI low), (2, vI high)], []⟩ (sb rfl rfl rfl) rfl ?_
 refine mv rfl ?_
 refine mv rfl ?_
 refine RO (Body.lss rfl rfl) ?_
 refine mv rfl ?_
 refine RG.cons (EfR.sym rfl (fun hc => Body.move rfl) rfl) ?_
 refine RG.cons (EfR.sym rfl (fun hc => Body.move rfl) rfl) ?_
 refine RG.cons (EfR.sym rfl (fun hc => Body.gtr (ev1_gd rfl hc) (ev1_gd rfl hc)) rfl) ?_
 refine RO (Body.pick rfl rfl rfl rfl (gdB rfl) (pick_or _)) ?_
 refine ag rfl ?_
 refine RN ?_
 refine Ap rfl ?_
 refine TK.ret ?_
 refine PK.ret ?_
 refine leaf (val0 := vB (bif (decide (n < low)) then true else (decide (high < n)))) (by kernel_rfl) ?_
 exact lb (by simp only [outF, bif_or])
theorem w99 (n low high : Int) : CallOk Tryz.prog 99 [vI n, vI low, vI high] (lookM []) (vI (withinF n low high)) [] := by
 haveI := tab_ok
 obtain ⟨fn, f1, f2, f3, f4, _, f6⟩ := qf99
 refine callOk_of (Y := tab) (F := fn99) f1 (f2.trans rfl) f3 f4 f6 (Nat.le_of_ble_eq_true rfl) rfl ?_
 clear f1 f2 f3 f4 f6
 show TK _ _ _ _ _ _ ⟨[(0, vI n), (1, vI low), (2, vI high)], []⟩
 refine At rfl ?_
 refine NR ⟨[(0, vI n), (1, vI low), (2, vI high)], []⟩ (sb rfl rfl rfl) rfl ?_
 refine ag rfl ?_
 refine RN ?_
 refine Ap rfl ?_
 refine NR ⟨[(0, vI n), (1, vI low), (2, vI high)], []⟩ (sb rfl rfl rfl) rfl ?_
 refine mv rfl ?_
 refine mv rfl ?_
 refine RO (Body.lss rfl rfl) ?_
 refine mv rfl ?_
 refine RG.cons (EfR.sym rfl (fun hc => Body.move rfl) rfl) ?_
 refine RG.cons (EfR.sym rfl (fun hc => Body.move rfl) rfl) ?_
 refine RG.cons (EfR.sym rfl (fun hc => Body.gtr (ev1_gd rfl hc) (ev1_gd rfl hc)) rfl) ?_
 refine RO (Body.pick rfl rfl rfl rfl (gdB rfl) (pick_or _)) ?_
 refine RO (Body.call (w101 (bif (decide (n < low)) then true else (decide (high < n))) 3) rfl rfl rfl) ?_
 refine ag rfl ?_
 refine RN ?_
 refine Ap rfl ?_
 refine TK.ret ?_
 refine PK.ret ?_
 refine leaf (val0 := vI (whenF (bif (decide (n < low)) then true else (decide (high < n))) 3)) (by kernel_rfl) ?_
 exact li (by simp only [withinF, outF, bif_or])
theorem w100 (l : List Int) (hl : l.length ≤ 1000000000000000) : CallOk Tryz.prog 100 [vL eI l] (lookM []) (vI (firstF l)) [] := by
 haveI := tab_ok
 obtain ⟨fn, f1, f2, f3, f4, _, f6⟩ := qf100
 refine callOk_of (Y := tab) (F := fn100) f1 (f2.trans rfl) f3 f4 f6 (Nat.le_of_ble_eq_true rfl) rfl ?_
 clear f1 f2 f3 f4 f6
 show TK _ _ _ _ _ _ ⟨[(0, vL eI l)], []⟩
 refine At rfl ?_
 refine NR ⟨[(0, vL eI l)], []⟩ (sb rfl rfl rfl) rfl ?_
 refine ag rfl ?_
 refine RN ?_
 refine Ap rfl ?_
 refine NR ⟨[(0, vL eI l)], []⟩ (sb rfl rfl rfl) rfl ?_
 refine mv rfl ?_
 refine RO (Body.lenL rfl un289) ?_
 refine mv rfl ?_
 refine RN ?_
 refine Ap rfl ?_
 refine TK.loop (α := Nat) (fun x => ⟨[(5, vL eI l), (6, vI ((List.length l : Nat) : Int)), (7, vI ((x : Nat) : Int))], []⟩) (fun x => x ≤ List.length l ∧ firstF l = firstF (List.drop x l)) (fun x => List.length l - x) 0 ?_ (sb rfl rfl rfl) ?_
 · show 0 ≤ List.length l ∧ firstF l = firstF (List.drop 0 l)
   exact ⟨Nat.zero_le _, rfl⟩
 rintro k hI0
 replace hI0 : k ≤ List.length l ∧ firstF l = firstF (List.drop k l) := hI0
 show TK _ _ _ _ _ _ ⟨[(5, vL eI l), (6, vI ((List.length l : Nat) : Int)), (7, vI ((k : Nat) : Int))], []⟩
 refine At rfl ?_
 refine NR ⟨[(5, vL eI l), (6, vI ((List.length l : Nat) : Int)), (7, vI ((k : Nat) : Int))], []⟩ (sb rfl rfl rfl) rfl ?_
 refine RO (Body.lss rfl rfl) ?_
 refine RN ?_
 refine Ap rfl ?_
 refine TK.norm ⟨[(5, vL eI l), (6, vI ((List.length l : Nat) : Int)), (7, vI ((k : Nat) : Int)), (8, vB (decide (((k : Nat) : Int) < ((List.length l : Nat) : Int))))], []⟩ (sb rfl rfl rfl) ?_
 refine TK.condP rfl (fun h1 => ?_) (fun h1 => ?_)
 ·
  refine At rfl ?_
  refine NR ⟨[(5, vL eI l), (6, vI ((List.length l : Nat) : Int)), (7, vI ((k : Nat) : Int))], []⟩ (sb rfl rfl rfl) rfl ?_
  refine RO (Body.idx (z := 0) (i := k) rfl rfl un289 sz34 (fun _ => rfl) rfl (by omega)) ?_
  refine RO (Body.loadP rfl ag34 sz34) ?_
  refine ag rfl ?_
  refine RN ?_
  refine Ap rfl ?_
  refine NR ⟨[(4, vI (List.getD l k 0)), (5, vL eI l), (6, vI ((List.length l : Nat) : Int)), (7, vI ((k : Nat) : Int))], []⟩ (sb rfl rfl rfl) rfl ?_
  refine mv rfl ?_
  refine RO (Body.neq rfl rfl) ?_
  refine RN ?_
  refine Ap rfl ?_
  refine TK.norm ⟨[(4, vI (List.getD l k 0)), (5, vL eI l), (6, vI ((List.length l : Nat) : Int)), (7, vI ((k : Nat) : Int)), (12, vB (decide ((List.getD l k 0) ≠ 0)))], []⟩ (sb rfl rfl rfl) ?_
  refine TK.condP rfl (fun h2 => ?_) (fun h2 => ?_)
  ·
   refine At rfl ?_
   refine NR ⟨[(4, vI (List.getD l k 0))], []⟩ (sb rfl rfl rfl) rfl ?_
   refine mv rfl ?_
   refine ag rfl ?_
   refine RN ?_
   refine Ap rfl ?_
   refine TK.ret ?_
   refine PK.ret ?_
   refine leaf (val0 := vI (List.getD l k 0)) (by kernel_rfl) ?_
   exact li (by first | (rw [hI0.2, drop_at l k 0 (by omega), firstF, if_neg (by omega)]) | (rw [hI0.2, List.drop_eq_nil_of_le (by omega)]; rfl))
  ·
   refine At rfl ?_
   refine NR ⟨[(5, vL eI l), (6, vI ((List.length l : Nat) : Int)), (7, vI ((k : Nat) : Int))], []⟩ (sb rfl rfl rfl) rfl ?_
   refine RO (Body.add rfl rfl (by unfold R64; omega)) ?_
   refine mv rfl ?_
   refine RN ?_
   refine Aq rfl ?_
   refine PK.lp ?_
   refine LP.mk (k + 1) ?_ ?_ (sb rfl rfl rfl)
   · show (k + 1) ≤ List.length l ∧ firstF l = firstF (List.drop (k + 1) l)
     refine ⟨by omega, ?_⟩; rw [hI0.2, drop_at l k 0 (by omega), firstF, if_pos (by omega)]
   · show List.length l - (k + 1) < List.length l - k
     omega
 ·
  refine At rfl ?_
  refine TK.exit ?_
  refine PK.exit rfl ?_
  refine Ap rfl ?_
  refine NR ⟨[], []⟩ (sb rfl rfl rfl) rfl ?_
  refine ag rfl ?_
  refine RN ?_
  refine Ap rfl ?_
  refine TK.ret ?_
  refine PK.ret ?_
  refine leaf (val0 := vI 0) (by kernel_rfl) ?_
  exact li (by first | (rw [hI0.2, drop_at l k 0 (by omega), firstF, if_neg (by omega)]) | (rw [hI0.2, List.drop_eq_nil_of_le (by omega)]; rfl))
theorem w25 (l : List Int) (hl : l.length ≤ 1000000000000000) : CallOk Tryz.prog 25 [vL eI l] (lookM []) (vI (firstF l)) [] := by
 haveI := tab_ok
 obtain ⟨fn, f1, f2, f3, f4, _, f6⟩ := qf25
 refine callOk_of (Y := tab) (F := fn25) f1 (f2.trans rfl) f3 f4 f6 (Nat.le_of_ble_eq_true rfl) rfl ?_
 clear f1 f2 f3 f4 f6
 show TK _ _ _ _ _ _ ⟨[(0, vL eI l)], []⟩
 refine At rfl ?_
 refine NR ⟨[(0, vL eI l)], []⟩ (sb rfl rfl rfl) rfl ?_
 refine ag rfl ?_
 refine RN ?_
 refine Ap rfl ?_
 refine NR ⟨[(0, vL eI l)], []⟩ (sb rfl rfl rfl) rfl ?_
 refine mv rfl ?_
 refine RO (Body.lenL rfl un22) ?_
 refine mv rfl ?_
 refine RN ?_
 refine Ap rfl ?_
 refine TK.loop (α := Nat) (fun x => ⟨[(5, vL eI l), (6, vI ((List.length l : Nat) : Int)), (7, vI ((x : Nat) : Int))], []⟩) (fun x => x ≤ List.length l ∧ firstF l = firstF (List.drop x l)) (fun x => List.length l - x) 0 ?_ (sb rfl rfl rfl) ?_
 · show 0 ≤ List.length l ∧ firstF l = firstF (List.drop 0 l)
   exact ⟨Nat.zero_le _, rfl⟩
 rintro k hI0
 replace hI0 : k ≤ List.length l ∧ firstF l = firstF (List.drop k l) := hI0
 show TK _ _ _ _ _ _ ⟨[(5, vL eI l), (6, vI ((List.length l : Nat) : Int)), (7, vI ((k : Nat) : Int))], []⟩
 refine At rfl ?_
 refine NR ⟨[(5, vL eI l), (6, vI ((List.length l : Nat) : Int)), (7, vI ((k : Nat) : Int))], []⟩ (sb rfl rfl rfl) rfl ?_
 refine RO (Body.lss rfl rfl) ?_
 refine RN ?_
 refine Ap rfl ?_
 refine TK.norm ⟨[(5, vL eI l), (6, vI ((List.length l : Nat) : Int)), (7, vI ((k : Nat) : Int)), (8, vB (decide (((k : Nat) : Int) < ((List.length l : Nat) : Int))))], []⟩ (sb rfl rfl rfl) ?_
 refine TK.condP rfl (fun h1 => ?_) (fun h1 => ?_)
 ·
  refine At rfl ?_
  refine NR ⟨[(5, vL eI l), (6, vI ((List.length l : Nat) : Int)), (7, vI ((k : Nat) : Int))], []⟩ (sb rfl rfl rfl) rfl ?_
  refine RO (Body.idx (z := 0) (i := k) rfl rfl un22 sz3 (fun _ => rfl) rfl (by omega)) ?_
  refine RO (Body.loadP rfl ag3 sz3) ?_
  refine ag rfl ?_
  refine RN ?_
  refine Ap rfl ?_
  refine NR ⟨[(4, vI (List.getD l k 0)), (5, vL eI l), (6, vI ((List.length l : Nat) : Int)), (7, vI ((k : Nat) : Int))], []⟩ (sb rfl rfl rfl) rfl ?_
  refine mv rfl ?_
  refine RO (Body.neq rfl rfl) ?_
  refine RN ?_
  refine Ap rfl ?_
  refine TK.norm ⟨[(4, vI (List.getD l k 0)), (5, vL eI l), (6, vI ((List.length l : Nat) : Int)), (7, vI ((k : Nat) : Int)), (12, vB (decide ((List.getD l k 0) ≠ 0)))], []⟩ (sb rfl rfl rfl) ?_
  refine TK.condP rfl (fun h2 => ?_) (fun h2 => ?_)
  ·
   refine At rfl ?_
   refine NR ⟨[(4, vI (List.getD l k 0))], []⟩ (sb rfl rfl rfl) rfl ?_
   refine mv rfl ?_
   refine ag rfl ?_
   refine RN ?_
   refine Ap rfl ?_
   refine TK.ret ?_
   refine PK.ret ?_
   refine leaf (val0 := vI (List.getD l k 0)) (by kernel_rfl) ?_
   exact li (by first | (rw [hI0.2, drop_at l k 0 (by omega), firstF, if_neg (by omega)]) | (rw [hI0.2, List.drop_eq_nil_of_le (by omega)]; rfl))
  ·
   refine At rfl ?_
   refine NR ⟨[(5, vL eI l), (6, vI ((List.length l : Nat) : Int)), (7, vI ((k : Nat) : Int))], []⟩ (sb rfl rfl rfl) rfl ?_
   refine RO (Body.add rfl rfl (by unfold R64; omega)) ?_
   refine mv rfl ?_
   refine RN ?_
   refine Aq rfl ?_
   refine PK.lp ?_
   refine LP.mk (k + 1) ?_ ?_ (sb rfl rfl rfl)
   · show (k + 1) ≤ List.length l ∧ firstF l = firstF (List.drop (k + 1) l)
     refine ⟨by omega, ?_⟩; rw [hI0.2, drop_at l k 0 (by omega), firstF, if_pos (by omega)]
   · show List.length l - (k + 1) < List.length l - k
     omega
 ·
  refine At rfl ?_
  refine TK.exit ?_
  refine PK.exit rfl ?_
  refine Ap rfl ?_
  refine NR ⟨[], []⟩ (sb rfl rfl rfl) rfl ?_
  refine ag rfl ?_
  refine RN ?_
  refine Ap rfl ?_
  refine TK.ret ?_
  refine PK.ret ?_
  refine leaf (val0 := vI 0) (by kernel_rfl) ?_
  exact li (by first | (rw [hI0.2, drop_at l k 0 (by omega), firstF, if_neg (by omega)]) | (rw [hI0.2, List.drop_eq_nil_of_le (by omega)]; rfl))
end Go.Lens.Tb
end
section
namespace Go.Lens.Tb
set_option linter.unusedSectionVars false
theorem bnot_t {b : Bool} (h : (!b) = true) : b = false := by cases b <;> first | rfl | cases h
theorem bnot_f {b : Bool} (h : (!b) = false) : b = true := by cases b <;> first | rfl | cases h
def letterF (c : Int) : Bool := (decide (97 ≤ c) && decide (c ≤ 122)) || (decide (65 ≤ c) && decide (c ≤ 90))
def nameAt (i : Nat) (c : Int) : Bool := letterF c || (!decide ((i : Int) = 0) && ((decide (48 ≤ c) && decide (c ≤ 57)) || decide (c = 95)))
def isNameF (s : ByteArray) : Bool := decide (1 ≤ s.size) && decide (s.size ≤ 24) && (List.range s.size).all fun i => nameAt i (byteAt s i)
theorem nm8 : ∀ a b c d z e f g : Bool, (bif !(bif (bif a then b else false) then true else (bif c then d else false)) then (bif z then true else !(bif (bif e then f else false) then true else g)) else false) = !(((a && b) || (c && d)) || (!z && ((e && f) || g))) := by decide
theorem isName_no {s : ByteArray} (k : Nat) (hk : k < s.size) (h : nameAt k (byteAt s k) = false) : isNameF s = false := by
  unfold isNameF
  have : ((List.range s.size).all fun i => nameAt i (byteAt s i)) = false := by
    rw [List.all_eq_false]
    exact ⟨k, List.mem_range.2 hk, by simp [h]⟩
  rw [this, Bool.and_false]
theorem isName_yes {s : ByteArray} (h1 : 1 ≤ s.size) (h2 : s.size ≤ 24) (h : ∀ j, j < s.size → nameAt j (byteAt s j) = true) : isNameF s = true := by
  unfold isNameF
  rw [decide_eq_true h1, decide_eq_true h2]
  simp only [Bool.true_and, List.all_eq_true, List.mem_range]
  exact h
theorem isName_len {s : ByteArray} (h : s.size < 1 ∨ 24 < s.size) : isNameF s = false := by
  unfold isNameF
  rcases h with h | h
  · rw [decide_eq_false (by omega)]; simp
  · rw [decide_eq_false (p := s.size ≤ 24) (by omega)]; simp
def findI {α : Type} (p : α → Bool) : List α → Int
  | [] => -1
  | a :: l => bif p a then 0 else (bif decide (findI p l < 0) then -1 else findI p l + 1)
section
variable {α : Type} {p : α → Bool} {z : α}
theorem findI_none : ∀ {l : List α}, (∀ j, j < l.length → p (l.getD j z) = false) → findI p l = -1
  | [], _ => rfl
  | a :: l, h => by
    have h0 := h 0 (by simp)
    have h1 := findI_none (l := l) fun j hj => h (j + 1) (by simpa using hj)
    simp only [List.getD_cons_zero] at h0
    simp [findI, h0, h1]
theorem findI_some : ∀ {l : List α} (k : Nat), k < l.length → (∀ j, j < k → p (l.getD j z) = false) → p (l.getD k z) = true → findI p l = k
  | [], k, hk, _, _ => by simp at hk
  | a :: l, 0, _, _, h => by
    simp only [List.getD_cons_zero] at h
    simp [findI, h]
  | a :: l, k + 1, hk, hj, h => by
    have h0 := hj 0 (by omega)
    have h1 := findI_some (l := l) k (by simpa using hk) (fun j hj' => hj (j + 1) (by omega)) h
    simp only [List.getD_cons_zero] at h0
    simp only [findI, h0, h1, cond_false]
    rw [decide_eq_false (by omega)]; simp
theorem findI_nonneg : ∀ (l : List α), decide (0 ≤ findI p l) = l.any p
  | [] => rfl
  | a :: l => by
    have ih := findI_nonneg l
    simp only [findI, List.any_cons]
    by_cases hp : p a = true
    · simp only [hp, cond_true, Bool.true_or]; rfl
    · rw [Bool.not_eq_true] at hp
      simp only [hp, cond_false, Bool.false_or]
      rw [← ih]
      by_cases h : findI p l < 0
      · rw [decide_eq_true h, decide_eq_false (p := 0 ≤ findI p l) (by omega)]; rfl
      · rw [decide_eq_false h, decide_eq_true (p := 0 ≤ findI p l) (by omega)]
        exact decide_eq_true (by simp only [cond_false]; omega)
end
theorem findI_nonneg_t {α : Type} {p : α → Bool} {l : List α} : (0 ≤ findI p l) = (l.any p = true) := by
  rw [← findI_nonneg]; simp
theorem findI_nonneg_f {α : Type} {p : α → Bool} {l : List α} : (¬ 0 ≤ findI p l) = (l.any p = false) := by
  rw [← findI_nonneg]; simp
theorem list_ext_getD {α : Type} {a b : List α} (z : α) (h1 : a.length = b.length) (h2 : ∀ j, j < a.length → a.getD j z = b.getD j z) : a = b := by
  apply List.ext_getElem h1
  intro j hj hj'
  have := h2 j hj
  simpa [List.getD_eq_getElem?_getD, hj, hj'] using this
theorem take_succ_at {α : Type} (l : List α) (k : Nat) (z : α) (h : k < l.length) : l.take (k + 1) = l.take k ++ [l.getD k z] := by
  rw [List.take_add_one, List.getD_eq_getElem?_getD, List.getElem?_eq_getElem h]; rfl
theorem any_getD {α : Type} {p : α → Bool} {l : List α} {k : Nat} {z : α} (hk : k < l.length) (h : p (l.getD k z) = true) : l.any p = true := by
  rw [List.any_eq_true]
  rw [List.getD_eq_getElem?_getD, List.getElem?_eq_getElem hk] at h
  exact ⟨l[k], List.getElem_mem hk, h⟩
theorem any_getD_none {α : Type} {p : α → Bool} {l : List α} (z : α) (h : ∀ j, j < l.length → p (l.getD j z) = false) : l.any p = false := by
  rw [List.any_eq_false]
  intro a ha
  obtain ⟨j, hj, rfl⟩ := List.getElem_of_mem ha
  have := h j hj
  rw [List.getD_eq_getElem?_getD, List.getElem?_eq_getElem hj] at this
  simpa using this
theorem take_any_no {α : Type} {p : α → Bool} {l : List α} {i : Nat} (z : α) (h : ∀ m, m < i → p (l.getD m z) = false) : (l.take i).any p = false := by
  refine any_getD_none z fun j hj => ?_
  simp only [List.length_take] at hj
  have : (l.take i).getD j z = l.getD j z := by simp only [List.getD_eq_getElem?_getD, List.getElem?_take]; rw [if_pos (by omega)]
  rw [this]; exact h j (by omega)
theorem take_any_yes {α : Type} {p : α → Bool} {l : List α} {i m : Nat} {z : α} (h1 : m < i) (h2 : m < l.length) (h : p (l.getD m z) = true) : (l.take i).any p = true := by
  refine any_getD (k := m) (z := z) (by simp only [List.length_take]; omega) ?_
  have : (l.take i).getD m z = l.getD m z := by simp only [List.getD_eq_getElem?_getD, List.getElem?_take]; rw [if_pos h1]
  rw [this]; exact h
theorem all_getD_no {α : Type} {p : α → Bool} {l : List α} {k : Nat} {z : α} (hk : k < l.length) (h : p (l.getD k z) = false) : l.all p = false := by
  rw [List.all_eq_false]
  rw [List.getD_eq_getElem?_getD, List.getElem?_eq_getElem hk] at h
  exact ⟨l[k], List.getElem_mem hk, by simpa using h⟩
theorem all_getD_yes {α : Type} {p : α → Bool} {l : List α} (z : α) (h : ∀ j, j < l.length → p (l.getD j z) = true) : l.all p = true := by
  rw [List.all_eq_true]
  intro a ha
  obtain ⟨j, hj, rfl⟩ := List.getElem_of_mem ha
  have := h j hj
  rwa [List.getD_eq_getElem?_getD, List.getElem?_eq_getElem hj] at this
def inRangeF (t : Tgt) : Bool := !outF t.bright 1 1000 && !outF t.place 0 360 && !outF t.length 1 1440 && !outF t.from_ 0 1440 && !outF t.to 0 1440 && !outF t.limit 0 100
def chkNightF (start : Int) (W : List Int) : Int := bif outF start 0 1440 then 3 else bif decide (W.length = 0) then 12 else bif decide (24 < W.length) then 5 else bif W.any (fun x => outF x 0 100) then 3 else 0
def chkOne (pre : List Tgt) (t : Tgt) : Int := bif !isNameF t.name then 8 else bif pre.any (fun o => decide (o.name = t.name)) then 9 else bif !inRangeF t then 3 else 0
def chkGo : List Tgt → List Tgt → Int
  | _, [] => 0
  | pre, t :: r => if chkOne pre t = 0 then chkGo (pre ++ [t]) r else chkOne pre t
def chkTgtsF (l : List Tgt) : Int := bif decide (32 < l.length) then 5 else chkGo [] l
def ordOne (n : Int) (pre : List Int) (i : Int) : Int := bif outF i 0 (n - 1) then 10 else bif pre.any (fun j => decide (j = i)) then 9 else 0
def ordGo (n : Int) : List Int → List Int → Int
  | _, [] => 0
  | pre, t :: r => if ordOne n pre t = 0 then ordGo n (pre ++ [t]) r else ordOne n pre t
def chkOrdF (n : Int) (o : List Int) : Int := ordGo n [] o
def calmM (W : List Int) (lim b : Int) (n : Nat) : Bool := (List.range n).all fun j => decide (W.getD ((b + (j : Int)) / 60).toNat 0 ≤ lim)
def canF (W : List Int) (t : Tgt) (b : Int) : Bool := !(decide (b < t.from_)) && !(decide (t.to < b + t.length)) && !(decide (60 * (W.length : Int) < b + t.length)) && calmM W t.limit b t.length.toNat
def searchF (p : Int → Bool) (b : Int) : Nat → Int
  | 0 => -1
  | n + 1 => bif p b then b else searchF p (b + 1) n
def begF (W : List Int) (t : Tgt) (e : Int) : Int := searchF (canF W t) e (1441 - e).toNat
def shortN (W : List Int) : Bool := decide ((W.length : Int) ≤ 6) || (decide (24 < (W.length : Int)) && decide ((W.length : Int) ≤ 26))
def shortT (l : List Tgt) (k limit : Int) : Bool := bif ((decide (k < (l.length : Int)) && decide ((l.length : Int) ≤ limit)) || decide (34 < (l.length : Int))) then false else l.all fun t => decide (t.name.size ≤ 40)
def tlGo (W : List Int) (l : List Tgt) : Option Tgt → Int → List Int → Option (List Int)
  | _, _, [] => some []
  | prev, at_, i :: r =>
    let t := l.getD i.toNat default
    let b := begF W t (match prev with | none => at_ | some p => at_ + apartF t.place p.place)
    if b < 0 then none else (tlGo W l (some t) (b + t.length) r).map (b :: ·)
def tlF (start : Int) (W : List Int) (l : List Tgt) (order : List Int) : Option (List Int) := tlGo W l none start order
theorem calmM_no {W : List Int} {lim b : Int} {n : Nat} (m : Int) (h1 : b ≤ m) (h2 : m < b + n) (h : lim < W.getD (m / 60).toNat 0) : calmM W lim b n = false := by
  unfold calmM
  rw [List.all_eq_false]
  refine ⟨(m - b).toNat, List.mem_range.2 (by omega), ?_⟩
  have : b + ((m - b).toNat : Int) = m := by omega
  rw [this]; simpa using h
theorem calmM_yes {W : List Int} {lim b : Int} {n : Nat} (h : ∀ m, b ≤ m → m < b + n → W.getD (m / 60).toNat 0 ≤ lim) : calmM W lim b n = true := by
  unfold calmM
  rw [List.all_eq_true]
  intro j hj
  have := List.mem_range.1 hj
  exact decide_eq_true (h _ (by omega) (by omega))
theorem searchF_some {p : Int → Bool} : ∀ {n : Nat} {e b : Int}, e ≤ b → b < e + n → (∀ i, e ≤ i → i < b → p i = false) → p b = true → searchF p e n = b
  | 0, e, b, h1, h2, _, _ => by omega
  | n + 1, e, b, h1, h2, h3, h4 => by
    simp only [searchF]
    by_cases he : e = b
    · subst he; rw [h4]; rfl
    · rw [h3 e (by omega) (by omega)]
      exact searchF_some (by omega) (by omega) (fun i hi hi' => h3 i (by omega) hi') h4
theorem searchF_none {p : Int → Bool} : ∀ {n : Nat} {e : Int}, (∀ i, e ≤ i → i < e + n → p i = false) → searchF p e n = -1
  | 0, e, _ => rfl
  | n + 1, e, h => by
    simp only [searchF]
    rw [h e (by omega) (by omega)]
    exact searchF_none fun i hi hi' => h i (by omega) (by omega)
end Go.Lens.Tb
end
section
namespace Go.Lens.Tb
open Go.Proofs
variable [Lz]
set_option linter.unusedSectionVars false
set_option maxRecDepth 100000
attribute [local irreducible] TK PK T RG EfR Body
theorem ag22 : aggT tab 22 = some false := by kernel_rfl
theorem ag9 : aggT tab 9 = some false := by kernel_rfl
theorem fa26_0 : fadQ tab 26 0 = some 0 := by kernel_rfl
theorem fa26_1 : fadQ tab 26 1 = some 1 := by kernel_rfl
theorem fa49_0 : fadQ tab 49 0 = some 0 := by kernel_rfl
theorem fa49_1 : fadQ tab 49 1 = some 1 := by kernel_rfl
theorem fa49_2 : fadQ tab 49 2 = some 2 := by kernel_rfl
theorem fa49_3 : fadQ tab 49 3 = some 3 := by kernel_rfl
theorem fa49_4 : fadQ tab 49 4 = some 4 := by kernel_rfl
theorem fa49_5 : fadQ tab 49 5 = some 5 := by kernel_rfl
theorem fa49_6 : fadQ tab 49 6 = some 6 := by kernel_rfl
theorem sz22 : szT tab 22 = some 1 := by kernel_rfl
theorem sz49 : szT tab 49 = some 7 := by kernel_rfl
theorem sz9 : szT tab 9 = some 1 := by kernel_rfl
theorem un27 : tab.underlying 27 = some (.slice 49) := by kernel_rfl
theorem un9 : tab.underlying 9 = some (.string) := by kernel_rfl
theorem w94 (s : ByteArray) : CallOk Tryz.prog 94 [vS s] (lookM []) (vB (isNameF s)) [] := by
 haveI := tab_ok
 obtain ⟨fn, f1, f2, f3, f4, _, f6⟩ := qf94
 refine callOk_of (Y := tab) (F := fn94) f1 (f2.trans rfl) f3 f4 f6 (Nat.le_of_ble_eq_true rfl) rfl ?_
 clear f1 f2 f3 f4 f6
 show TK _ _ _ _ _ _ ⟨[(0, vS s)], []⟩
 refine At rfl ?_
 refine NR ⟨[(0, vS s)], []⟩ (sb rfl rfl rfl) rfl ?_
 refine ag rfl ?_
 refine RN ?_
 refine Ap rfl ?_
 refine NR ⟨[(0, vS s)], []⟩ (sb rfl rfl rfl) rfl ?_
 refine mv rfl ?_
 refine RO (Body.lenS rfl un9) ?_
 refine RO (Body.lss rfl rfl) ?_
 refine mv rfl ?_
 refine RG.cons (EfR.sym rfl (fun hc => Body.move rfl) rfl) ?_
 refine RG.cons (EfR.sym rfl (fun hc => Body.lenS (ev1_gd rfl hc) un9) rfl) ?_
 refine RG.cons (EfR.sym rfl (fun hc => Body.gtr (ev1_gd rfl hc) rfl) rfl) ?_
 refine RO (Body.pick rfl rfl rfl rfl (gdB rfl) (pick_or _)) ?_
 refine RN ?_
 refine Ap rfl ?_
 refine TK.norm ⟨[(0, vS s), (13, vB (bif (decide (((ByteArray.size s : Nat) : Int) < 1)) then true else (decide (24 < ((ByteArray.size s : Nat) : Int)))))], []⟩ (sb rfl rfl rfl) ?_
 refine TK.cond rfl (fun h1 => ?_) (fun h1 => ?_)
 ·
  refine At rfl ?_
  refine NR ⟨[], []⟩ (sb rfl rfl rfl) rfl ?_
  refine ag rfl ?_
  refine RN ?_
  refine Ap rfl ?_
  refine TK.ret ?_
  refine PK.ret ?_
  refine leaf (val0 := vB false) (by kernel_rfl) ?_
  exact lb (by first | (refine (isName_len ?_).symm; simp only [bif_or, Bool.or_eq_true, decide_eq_true_eq] at h1; omega) | (exact (isName_no k (by omega) (bnot_t ((nm8 _ _ _ _ _ _ _ _).symm.trans h3))).symm) | exact (isName_yes hI0.2.1 hI0.2.2.1 fun j hj => hI0.2.2.2 j (by omega)).symm)
 ·
  refine At rfl ?_
  refine NR ⟨[(0, vS s)], []⟩ (sb rfl rfl rfl) rfl ?_
  refine ag rfl ?_
  refine RN ?_
  refine Ap rfl ?_
  refine TK.loop (α := Nat) (fun x => ⟨[(0, vS s), (3, vI ((x : Nat) : Int))], []⟩) (fun x => x ≤ ByteArray.size s ∧ 1 ≤ ByteArray.size s ∧ ByteArray.size s ≤ 24 ∧ ∀ j, j < x → nameAt j (byteAt s j) = true) (fun x => ByteArray.size s - x) 0 ?_ (sb rfl rfl rfl) ?_
  · show 0 ≤ ByteArray.size s ∧ 1 ≤ ByteArray.size s ∧ ByteArray.size s ≤ 24 ∧ ∀ j, j < 0 → nameAt j (byteAt s j) = true
    simp only [bif_or, Bool.or_eq_false_iff, decide_eq_false_iff_not] at h1; exact ⟨by omega, by omega, by omega, fun j hj => by omega⟩
  rintro k hI0
  replace hI0 : k ≤ ByteArray.size s ∧ 1 ≤ ByteArray.size s ∧ ByteArray.size s ≤ 24 ∧ ∀ j, j < k → nameAt j (byteAt s j) = true := hI0
  show TK _ _ _ _ _ _ ⟨[(0, vS s), (3, vI ((k : Nat) : Int))], []⟩
  refine At rfl ?_
  refine NR ⟨[(0, vS s), (3, vI ((k : Nat) : Int))], []⟩ (sb rfl rfl rfl) rfl ?_
  refine mv rfl ?_
  refine mv rfl ?_
  refine RO (Body.lenS rfl un9) ?_
  refine RO (Body.lss rfl rfl) ?_
  refine RN ?_
  refine Ap rfl ?_
  refine TK.norm ⟨[(0, vS s), (3, vI ((k : Nat) : Int)), (17, vB (decide (((k : Nat) : Int) < ((ByteArray.size s : Nat) : Int))))], []⟩ (sb rfl rfl rfl) ?_
  refine TK.condP rfl (fun h2 => ?_) (fun h2 => ?_)
  ·
   refine At rfl ?_
   refine NR ⟨[(0, vS s), (3, vI ((k : Nat) : Int))], []⟩ (sb rfl rfl rfl) rfl ?_
   refine mv rfl ?_
   refine mv rfl ?_
   refine RO (Body.sidx (i := k) rfl rfl un9 rfl (by omega)) ?_
   refine ag rfl ?_
   refine RN ?_
   refine Ap rfl ?_
   refine NR ⟨[(0, vS s), (3, vI ((k : Nat) : Int)), (4, .pv (.lit (.int .u8 (byteAt s k))))], []⟩ (sb rfl rfl rfl) rfl ?_
   refine mv rfl ?_
   refine RO (Body.geq rfl rfl) ?_
   refine mv rfl ?_
   refine RG.cons (EfR.sym rfl (fun hc => Body.move rfl) rfl) ?_
   refine RG.cons (EfR.sym rfl (fun hc => Body.leq (ev1_gd rfl hc) rfl) rfl) ?_
   refine RO (Body.pick rfl rfl rfl (gdB rfl) rfl (pick_and _)) ?_
   refine mv rfl ?_
   refine RG.cons (EfR.sym rfl (fun hc => Body.move rfl) rfl) ?_
   refine RG.cons (EfR.sym rfl (fun hc => Body.geq (ev1_gd rfl hc) rfl) rfl) ?_
   refine RG.cons (EfR.sym rfl (fun hc => Body.move (ev1_gd rfl hc)) rfl) ?_
   refine RG.cons (EfR.sym rfl (fun hc => Body.move rfl) rfl) ?_
   refine RG.cons (EfR.sym rfl (fun hc => Body.leq (ev1_gd rfl hc) rfl) rfl) ?_
   refine RG.cons (EfR.sym rfl (fun hc => Body.pick (ev1_gd rfl hc) rfl rfl (gdB rfl) rfl (pick_and2 hc)) rfl) ?_
   refine RO (Body.pick rfl rfl rfl rfl (gdB rfl) (pick_or _)) ?_
   refine ag rfl ?_
   refine RN ?_
   refine Ap rfl ?_
   refine NR ⟨[(0, vS s), (3, vI ((k : Nat) : Int)), (4, .pv (.lit (.int .u8 (byteAt s k)))), (5, vB (bif (bif (decide (97 ≤ (byteAt s k))) then (decide ((byteAt s k) ≤ 122)) else false) then true else (bif (decide (65 ≤ (byteAt s k))) then (decide ((byteAt s k) ≤ 90)) else false)))], []⟩ (sb rfl rfl rfl) rfl ?_
   refine mv rfl ?_
   refine RO (Body.not rfl) ?_
   refine mv rfl ?_
   refine RG.cons (EfR.sym rfl (fun hc => Body.move rfl) rfl) ?_
   refine RG.cons (EfR.sym rfl (fun hc => Body.eql (ev1_gd rfl hc) rfl) rfl) ?_
   refine RG.cons (EfR.sym rfl (fun hc => Body.move (ev1_gd rfl hc)) rfl) ?_
   refine RG.cons (EfR.sym rfl (fun hc => Body.move rfl) rfl) ?_
   refine RG.cons (EfR.sym rfl (fun hc => Body.geq (ev1_gd rfl hc) rfl) rfl) ?_
   refine RG.cons (EfR.sym rfl (fun hc => Body.move (ev1_gd rfl hc)) rfl) ?_
   refine RG.cons (EfR.sym rfl (fun hc => Body.move rfl) rfl) ?_
   refine RG.cons (EfR.sym rfl (fun hc => Body.leq (ev1_gd rfl hc) rfl) rfl) ?_
   refine RG.cons (EfR.sym rfl (fun hc => Body.pick (ev1_gd rfl hc) rfl rfl (gdB rfl) rfl (pick_and2 hc)) rfl) ?_
   refine RG.cons (EfR.sym rfl (fun hc => Body.move (ev1_gd rfl hc)) rfl) ?_
   refine RG.cons (EfR.sym rfl (fun hc => Body.move rfl) rfl) ?_
   refine RG.cons (EfR.sym rfl (fun hc => Body.eql (ev1_gd rfl hc) rfl) rfl) ?_
   refine RG.cons (EfR.sym rfl (fun hc => Body.pick (ev1_gd rfl hc) rfl rfl rfl (gdB rfl) (pick_or2 hc)) rfl) ?_
   refine RG.cons (EfR.sym rfl (fun hc => Body.not (ev1_gd rfl hc)) rfl) ?_
   refine RG.cons (EfR.sym rfl (fun hc => Body.pick (ev1_gd rfl hc) rfl rfl rfl (gdB rfl) (pick_or2 hc)) rfl) ?_
   refine RO (Body.pick rfl rfl rfl (gdB rfl) rfl (pick_and _)) ?_
   refine RN ?_
   refine Ap rfl ?_
   refine TK.norm ⟨[(0, vS s), (3, vI ((k : Nat) : Int)), (55, vB (bif (!(bif (bif (decide (97 ≤ (byteAt s k))) then (decide ((byteAt s k) ≤ 122)) else false) then true else (bif (decide (65 ≤ (byteAt s k))) then (decide ((byteAt s k) ≤ 90)) else false))) then (bif (decide (((k : Nat) : Int) = 0)) then true else (!(bif (bif (decide (48 ≤ (byteAt s k))) then (decide ((byteAt s k) ≤ 57)) else false) then true else (decide ((byteAt s k) = 95))))) else false))], []⟩ (sb rfl rfl rfl) ?_
   refine TK.cond rfl (fun h3 => ?_) (fun h3 => ?_)
   ·
    refine At rfl ?_
    refine NR ⟨[], []⟩ (sb rfl rfl rfl) rfl ?_
    refine ag rfl ?_
    refine RN ?_
    refine Ap rfl ?_
    refine TK.ret ?_
    refine PK.ret ?_
    refine leaf (val0 := vB false) (by kernel_rfl) ?_
    exact lb (by first | (refine (isName_len ?_).symm; simp only [bif_or, Bool.or_eq_true, decide_eq_true_eq] at h1; omega) | (exact (isName_no k (by omega) (bnot_t ((nm8 _ _ _ _ _ _ _ _).symm.trans h3))).symm) | exact (isName_yes hI0.2.1 hI0.2.2.1 fun j hj => hI0.2.2.2 j (by omega)).symm)
   ·
    refine At rfl ?_
    refine NR ⟨[(0, vS s), (3, vI ((k : Nat) : Int))], []⟩ (sb rfl rfl rfl) rfl ?_
    refine mv rfl ?_
    refine RO (Body.add rfl rfl (by unfold R64; omega)) ?_
    refine ag rfl ?_
    refine RN ?_
    refine Aq rfl ?_
    refine PK.lp ?_
    refine LP.mk (k + 1) ?_ ?_ (sb rfl rfl rfl)
    · show (k + 1) ≤ ByteArray.size s ∧ 1 ≤ ByteArray.size s ∧ ByteArray.size s ≤ 24 ∧ ∀ j, j < (k + 1) → nameAt j (byteAt s j) = true
      refine ⟨by omega, hI0.2.1, hI0.2.2.1, fun j hj => ?_⟩; rcases Nat.lt_succ_iff_lt_or_eq.1 hj with h | h; exact hI0.2.2.2 j h; subst h; exact bnot_f ((nm8 _ _ _ _ _ _ _ _).symm.trans h3)
    · show ByteArray.size s - (k + 1) < ByteArray.size s - k
      omega
  ·
   refine At rfl ?_
   refine TK.exit ?_
   refine PK.exit rfl ?_
   refine Ap rfl ?_
   refine NR ⟨[], []⟩ (sb rfl rfl rfl) rfl ?_
   refine ag rfl ?_
   refine RN ?_
   refine Ap rfl ?_
   refine TK.ret ?_
   refine PK.ret ?_
   refine leaf (val0 := vB true) (by kernel_rfl) ?_
   exact lb (by first | (refine (isName_len ?_).symm; simp only [bif_or, Bool.or_eq_true, decide_eq_true_eq] at h1; omega) | (exact (isName_no k (by omega) (bnot_t ((nm8 _ _ _ _ _ _ _ _).symm.trans h3))).symm) | exact (isName_yes hI0.2.1 hI0.2.2.1 fun j hj => hI0.2.2.2 j (by omega)).symm)
theorem w95 (l : List Tgt) (name : ByteArray) (hl : l.length ≤ 1000000000000000) : CallOk Tryz.prog 95 [vL eT l, vS name] (lookM []) (vI (findI (fun o => decide (Tgt.name o = name)) l)) [] := by
 haveI := tab_ok
 obtain ⟨fn, f1, f2, f3, f4, _, f6⟩ := qf95
 refine callOk_of (Y := tab) (F := fn95) f1 (f2.trans rfl) f3 f4 f6 (Nat.le_of_ble_eq_true rfl) rfl ?_
 clear f1 f2 f3 f4 f6
 show TK _ _ _ _ _ _ ⟨[(0, vL eT l), (1, vS name)], []⟩
 refine At rfl ?_
 refine NR ⟨[(0, vL eT l), (1, vS name)], []⟩ (sb rfl rfl rfl) rfl ?_
 refine ag rfl ?_
 refine RN ?_
 refine Ap rfl ?_
 refine NR ⟨[(0, vL eT l), (1, vS name)], []⟩ (sb rfl rfl rfl) rfl ?_
 refine ag rfl ?_
 refine RN ?_
 refine Ap rfl ?_
 refine TK.loop (α := Nat) (fun x => ⟨[(0, vL eT l), (1, vS name), (5, vI ((x : Nat) : Int))], []⟩) (fun x => x ≤ List.length l ∧ ∀ j, j < x → ¬ (Tgt.name (List.getD l j default) = name)) (fun x => List.length l - x) 0 ?_ (sb rfl rfl rfl) ?_
 · show 0 ≤ List.length l ∧ ∀ j, j < 0 → ¬ (Tgt.name (List.getD l j default) = name)
   exact ⟨Nat.zero_le _, fun j hj => by omega⟩
 rintro k hI0
 replace hI0 : k ≤ List.length l ∧ ∀ j, j < k → ¬ (Tgt.name (List.getD l j default) = name) := hI0
 show TK _ _ _ _ _ _ ⟨[(0, vL eT l), (1, vS name), (5, vI ((k : Nat) : Int))], []⟩
 refine At rfl ?_
 refine NR ⟨[(0, vL eT l), (1, vS name), (5, vI ((k : Nat) : Int))], []⟩ (sb rfl rfl rfl) rfl ?_
 refine mv rfl ?_
 refine mv rfl ?_
 refine RO (Body.lenL rfl un27) ?_
 refine RO (Body.lss rfl rfl) ?_
 refine RN ?_
 refine Ap rfl ?_
 refine TK.norm ⟨[(0, vL eT l), (1, vS name), (5, vI ((k : Nat) : Int)), (9, vB (decide (((k : Nat) : Int) < ((List.length l : Nat) : Int))))], []⟩ (sb rfl rfl rfl) ?_
 refine TK.condP rfl (fun h1 => ?_) (fun h1 => ?_)
 ·
  refine At rfl ?_
  refine NR ⟨[(0, vL eT l), (1, vS name), (5, vI ((k : Nat) : Int))], []⟩ (sb rfl rfl rfl) rfl ?_
  refine mv rfl ?_
  refine mv rfl ?_
  refine RO (Body.idx (z := default) (i := k) rfl rfl un27 sz49 (fun _ => rfl) rfl (by omega)) ?_
  refine RO (Body.fadP rfl fa49_0 rfl) ?_
  refine RO (Body.loadP rfl ag9 sz9) ?_
  refine mv rfl ?_
  refine RO (Body.seql rfl rfl) ?_
  refine RN ?_
  refine Ap rfl ?_
  refine TK.norm ⟨[(0, vL eT l), (1, vS name), (5, vI ((k : Nat) : Int)), (18, vB (decide ((Tgt.name (List.getD l k default)) = name)))], []⟩ (sb rfl rfl rfl) ?_
  refine TK.condP rfl (fun h2 => ?_) (fun h2 => ?_)
  ·
   refine At rfl ?_
   refine NR ⟨[(5, vI ((k : Nat) : Int))], []⟩ (sb rfl rfl rfl) rfl ?_
   refine mv rfl ?_
   refine ag rfl ?_
   refine RN ?_
   refine Ap rfl ?_
   refine TK.ret ?_
   refine PK.ret ?_
   refine leaf (val0 := vI ((k : Nat) : Int)) (by kernel_rfl) ?_
   exact li (by first | exact (findI_some (p := fun o => decide (Tgt.name o = name)) (l := l) (z := default) k (by omega) (fun j hj => decide_eq_false (hI0.2 j hj)) (decide_eq_true h2)).symm | exact (findI_none (p := fun o => decide (Tgt.name o = name)) (l := l) (z := default) fun j hj => decide_eq_false (hI0.2 j (by omega))).symm)
  ·
   refine At rfl ?_
   refine NR ⟨[(0, vL eT l), (1, vS name), (5, vI ((k : Nat) : Int))], []⟩ (sb rfl rfl rfl) rfl ?_
   refine mv rfl ?_
   refine RO (Body.add rfl rfl (by unfold R64; omega)) ?_
   refine ag rfl ?_
   refine RN ?_
   refine Aq rfl ?_
   refine PK.lp ?_
   refine LP.mk (k + 1) ?_ ?_ (sb rfl rfl rfl)
   · show (k + 1) ≤ List.length l ∧ ∀ j, j < (k + 1) → ¬ (Tgt.name (List.getD l j default) = name)
     refine ⟨by omega, fun j hj => ?_⟩; rcases Nat.lt_succ_iff_lt_or_eq.1 hj with h | h; exact hI0.2 j h; subst h; exact h2
   · show List.length l - (k + 1) < List.length l - k
     omega
 ·
  refine At rfl ?_
  refine TK.exit ?_
  refine PK.exit rfl ?_
  refine Ap rfl ?_
  refine NR ⟨[], []⟩ (sb rfl rfl rfl) rfl ?_
  refine ag rfl ?_
  refine RN ?_
  refine Ap rfl ?_
  refine TK.ret ?_
  refine PK.ret ?_
  refine leaf (val0 := vI (-1)) (by kernel_rfl) ?_
  exact li (by first | exact (findI_some (p := fun o => decide (Tgt.name o = name)) (l := l) (z := default) k (by omega) (fun j hj => decide_eq_false (hI0.2 j hj)) (decide_eq_true h2)).symm | exact (findI_none (p := fun o => decide (Tgt.name o = name)) (l := l) (z := default) fun j hj => decide_eq_false (hI0.2 j (by omega))).symm)
theorem w96 (t : Tgt) : CallOk Tryz.prog 96 [.pv (.agg [pS (Tgt.name t), pI (Tgt.bright t), pI (Tgt.place t), pI (Tgt.length t), pI (Tgt.from_ t), pI (Tgt.to t), pI (Tgt.limit t)])] (lookM []) (vB (inRangeF t)) [] := by
 haveI := tab_ok
 obtain ⟨fn, f1, f2, f3, f4, _, f6⟩ := qf96
 refine callOk_of (Y := tab) (F := fn96) f1 (f2.trans rfl) f3 f4 f6 (Nat.le_of_ble_eq_true rfl) rfl ?_
 clear f1 f2 f3 f4 f6
 show TK _ _ _ _ _ _ ⟨[(0, .pv (.agg [pS (Tgt.name t), pI (Tgt.bright t), pI (Tgt.place t), pI (Tgt.length t), pI (Tgt.from_ t), pI (Tgt.to t), pI (Tgt.limit t)]))], []⟩
 refine At rfl ?_
 refine NR ⟨[(0, .pv (.agg [pS (Tgt.name t), pI (Tgt.bright t), pI (Tgt.place t), pI (Tgt.length t), pI (Tgt.from_ t), pI (Tgt.to t), pI (Tgt.limit t)]))], []⟩ (sb rfl rfl rfl) rfl ?_
 refine rn rfl ?_
 refine ag rfl ?_
 refine RN ?_
 refine Ap rfl ?_
 refine NR ⟨[(1, .bref 2 0)], [(2, .box 49 [vS (Tgt.name t), vI (Tgt.bright t), vI (Tgt.place t), vI (Tgt.length t), vI (Tgt.from_ t), vI (Tgt.to t), vI (Tgt.limit t)])]⟩ (sb rfl rfl rfl) rfl ?_
 refine RO (Body.fadB rfl fa49_1 rfl) ?_
 refine RO (Body.loadB rfl rfl rfl ag3 sz3 rfl) ?_
 refine RO (Body.call (w93 (Tgt.bright t) 1 1000) rfl rfl rfl) ?_
 refine RO (Body.not rfl) ?_
 refine mv rfl ?_
 refine RG.cons (EfR.sym rfl (fun hc => Body.fadB rfl fa49_2 rfl) rfl) ?_
 refine RG.cons (EfR.sym rfl (fun hc => Body.loadB (ev1_gd rfl hc) rfl rfl ag3 sz3 rfl) rfl) ?_
 refine RG.cons (EfR.sym rfl (fun hc => Body.call (w93 (Tgt.place t) 0 360) rfl (ds3 (ev1_gd rfl hc) rfl rfl) rfl) rfl) ?_
 refine RG.cons (EfR.sym rfl (fun hc => Body.not (ev1_gd rfl hc)) rfl) ?_
 refine RO (Body.pick rfl rfl rfl (gdB rfl) rfl (pick_and _)) ?_
 refine mv rfl ?_
 refine RG.cons (EfR.sym rfl (fun hc => Body.fadB rfl fa49_3 rfl) rfl) ?_
 refine RG.cons (EfR.sym rfl (fun hc => Body.loadB (ev1_gd rfl hc) rfl rfl ag3 sz3 rfl) rfl) ?_
 refine RG.cons (EfR.sym rfl (fun hc => Body.call (w93 (Tgt.length t) 1 1440) rfl (ds3 (ev1_gd rfl hc) rfl rfl) rfl) rfl) ?_
 refine RG.cons (EfR.sym rfl (fun hc => Body.not (ev1_gd rfl hc)) rfl) ?_
 refine RO (Body.pick rfl rfl rfl (gdB rfl) rfl (pick_and _)) ?_
 refine mv rfl ?_
 refine RG.cons (EfR.sym rfl (fun hc => Body.fadB rfl fa49_4 rfl) rfl) ?_
 refine RG.cons (EfR.sym rfl (fun hc => Body.loadB (ev1_gd rfl hc) rfl rfl ag3 sz3 rfl) rfl) ?_
 refine RG.cons (EfR.sym rfl (fun hc => Body.call (w93 (Tgt.from_ t) 0 1440) rfl (ds3 (ev1_gd rfl hc) rfl rfl) rfl) rfl) ?_
 refine RG.cons (EfR.sym rfl (fun hc => Body.not (ev1_gd rfl hc)) rfl) ?_
 refine RO (Body.pick rfl rfl rfl (gdB rfl) rfl (pick_and _)) ?_
 refine mv rfl ?_
 refine RG.cons (EfR.sym rfl (fun hc => Body.fadB rfl fa49_5 rfl) rfl) ?_
 refine RG.cons (EfR.sym rfl (fun hc => Body.loadB (ev1_gd rfl hc) rfl rfl ag3 sz3 rfl) rfl) ?_
 refine RG.cons (EfR.sym rfl (fun hc => Body.call (w93 (Tgt.to t) 0 1440) rfl (ds3 (ev1_gd rfl hc) rfl rfl) rfl) rfl) ?_
 refine RG.cons (EfR.sym rfl (fun hc => Body.not (ev1_gd rfl hc)) rfl) ?_
 refine RO (Body.pick rfl rfl rfl (gdB rfl) rfl (pick_and _)) ?_
 refine mv rfl ?_
 refine RG.cons (EfR.sym rfl (fun hc => Body.fadB rfl fa49_6 rfl) rfl) ?_
 refine RG.cons (EfR.sym rfl (fun hc => Body.loadB (ev1_gd rfl hc) rfl rfl ag3 sz3 rfl) rfl) ?_
 refine RG.cons (EfR.sym rfl (fun hc => Body.call (w93 (Tgt.limit t) 0 100) rfl (ds3 (ev1_gd rfl hc) rfl rfl) rfl) rfl) ?_
 refine RG.cons (EfR.sym rfl (fun hc => Body.not (ev1_gd rfl hc)) rfl) ?_
 refine RO (Body.pick rfl rfl rfl (gdB rfl) rfl (pick_and _)) ?_
 refine ag rfl ?_
 refine RN ?_
 refine Ap rfl ?_
 refine TK.ret ?_
 refine PK.ret ?_
 refine leaf (val0 := vB (bif (bif (bif (bif (bif (!(outF (Tgt.bright t) 1 1000)) then (!(outF (Tgt.place t) 0 360)) else false) then (!(outF (Tgt.length t) 1 1440)) else false) then (!(outF (Tgt.from_ t) 0 1440)) else false) then (!(outF (Tgt.to t) 0 1440)) else false) then (!(outF (Tgt.limit t) 0 100)) else false)) (by kernel_rfl) ?_
 exact lb (by simp only [inRangeF, bif_and])
theorem w20 (start : Int) (W : List Int) (hl : W.length ≤ 1000000000000000) : CallOk Tryz.prog 20 [.pv (.agg [pI start, pL eI W])] (lookM []) (vI (chkNightF start W)) [] := by
 haveI := tab_ok
 obtain ⟨fn, f1, f2, f3, f4, _, f6⟩ := qf20
 refine callOk_of (Y := tab) (F := fn20) f1 (f2.trans rfl) f3 f4 f6 (Nat.le_of_ble_eq_true rfl) rfl ?_
 clear f1 f2 f3 f4 f6
 show TK _ _ _ _ _ _ ⟨[(0, .pv (.agg [pI start, pL eI W]))], []⟩
 refine At rfl ?_
 refine NR ⟨[(0, .pv (.agg [pI start, pL eI W]))], []⟩ (sb rfl rfl rfl) rfl ?_
 refine rn rfl ?_
 refine ag rfl ?_
 refine RN ?_
 refine Ap rfl ?_
 refine NR ⟨[(1, .bref 2 0)], [(2, .box 26 [vI start, vL eI W])]⟩ (sb rfl rfl rfl) rfl ?_
 refine RO (Body.fadB rfl fa26_0 rfl) ?_
 refine RO (Body.loadB rfl rfl rfl ag3 sz3 rfl) ?_
 refine RO (Body.call (w93 start 0 1440) rfl rfl rfl) ?_
 refine RN ?_
 refine Ap rfl ?_
 refine TK.norm ⟨[(1, .bref 2 0), (6, vB (outF start 0 1440))], [(2, .box 26 [vI start, vL eI W])]⟩ (sb rfl rfl rfl) ?_
 refine TK.cond rfl (fun h1 => ?_) (fun h1 => ?_)
 ·
  refine At rfl ?_
  refine NR ⟨[], []⟩ (sb rfl rfl rfl) rfl ?_
  refine ag rfl ?_
  refine RN ?_
  refine Ap rfl ?_
  refine TK.ret ?_
  refine PK.ret ?_
  refine leaf (val0 := vI 3) (by kernel_rfl) ?_
  exact li (by unfold chkNightF; first
          | (rw [h1]; rfl)
          | (rw [h1, decide_eq_true (by omega)]; rfl)
          | (rw [h1, decide_eq_false (by omega), decide_eq_true (by omega)]; rfl)
          | (rw [h1, decide_eq_false (by omega), decide_eq_false (by omega), any_getD (z := 0) (by omega) h5]; rfl)
          | (rw [h1, decide_eq_false (by omega), decide_eq_false (by omega), any_getD_none 0 (fun j hj => hI0.2 j (by omega))]; rfl))
 ·
  refine At rfl ?_
  refine NR ⟨[(1, .bref 2 0)], [(2, .box 26 [vI start, vL eI W])]⟩ (sb rfl rfl rfl) rfl ?_
  refine RO (Body.fadB rfl fa26_1 rfl) ?_
  refine RO (Body.loadB rfl rfl rfl ag22 sz22 rfl) ?_
  refine RO (Body.lenL rfl un22) ?_
  refine RO (Body.eql rfl rfl) ?_
  refine RN ?_
  refine Ap rfl ?_
  refine TK.norm ⟨[(1, .bref 2 0), (10, vB (decide (((List.length W : Nat) : Int) = 0)))], [(2, .box 26 [vI start, vL eI W])]⟩ (sb rfl rfl rfl) ?_
  refine TK.condP rfl (fun h2 => ?_) (fun h2 => ?_)
  ·
   refine At rfl ?_
   refine NR ⟨[], []⟩ (sb rfl rfl rfl) rfl ?_
   refine ag rfl ?_
   refine RN ?_
   refine Ap rfl ?_
   refine TK.ret ?_
   refine PK.ret ?_
   refine leaf (val0 := vI 12) (by kernel_rfl) ?_
   exact li (by unfold chkNightF; first
          | (rw [h1]; rfl)
          | (rw [h1, decide_eq_true (by omega)]; rfl)
          | (rw [h1, decide_eq_false (by omega), decide_eq_true (by omega)]; rfl)
          | (rw [h1, decide_eq_false (by omega), decide_eq_false (by omega), any_getD (z := 0) (by omega) h5]; rfl)
          | (rw [h1, decide_eq_false (by omega), decide_eq_false (by omega), any_getD_none 0 (fun j hj => hI0.2 j (by omega))]; rfl))
  ·
   refine At rfl ?_
   refine NR ⟨[(1, .bref 2 0)], [(2, .box 26 [vI start, vL eI W])]⟩ (sb rfl rfl rfl) rfl ?_
   refine RO (Body.fadB rfl fa26_1 rfl) ?_
   refine RO (Body.loadB rfl rfl rfl ag22 sz22 rfl) ?_
   refine RO (Body.lenL rfl un22) ?_
   refine RO (Body.gtr rfl rfl) ?_
   refine RN ?_
   refine Ap rfl ?_
   refine TK.norm ⟨[(1, .bref 2 0), (14, vB (decide (24 < ((List.length W : Nat) : Int))))], [(2, .box 26 [vI start, vL eI W])]⟩ (sb rfl rfl rfl) ?_
   refine TK.condP rfl (fun h3 => ?_) (fun h3 => ?_)
   ·
    refine At rfl ?_
    refine NR ⟨[], []⟩ (sb rfl rfl rfl) rfl ?_
    refine ag rfl ?_
    refine RN ?_
    refine Ap rfl ?_
    refine TK.ret ?_
    refine PK.ret ?_
    refine leaf (val0 := vI 5) (by kernel_rfl) ?_
    exact li (by unfold chkNightF; first
          | (rw [h1]; rfl)
          | (rw [h1, decide_eq_true (by omega)]; rfl)
          | (rw [h1, decide_eq_false (by omega), decide_eq_true (by omega)]; rfl)
          | (rw [h1, decide_eq_false (by omega), decide_eq_false (by omega), any_getD (z := 0) (by omega) h5]; rfl)
          | (rw [h1, decide_eq_false (by omega), decide_eq_false (by omega), any_getD_none 0 (fun j hj => hI0.2 j (by omega))]; rfl))
   ·
    refine At rfl ?_
    refine NR ⟨[(1, .bref 2 0)], [(2, .box 26 [vI start, vL eI W])]⟩ (sb rfl rfl rfl) rfl ?_
    refine ag rfl ?_
    refine RN ?_
    refine Ap rfl ?_
    refine TK.loop (α := Nat) (fun x => ⟨[(1, .bref 2 0), (3, vI ((x : Nat) : Int))], [(2, .box 26 [vI start, vL eI W])]⟩) (fun x => x ≤ List.length W ∧ ∀ j, j < x → outF (List.getD W j 0) 0 100 = false) (fun x => List.length W - x) 0 ?_ (sb rfl rfl rfl) ?_
    · show 0 ≤ List.length W ∧ ∀ j, j < 0 → outF (List.getD W j 0) 0 100 = false
      exact ⟨Nat.zero_le _, fun j hj => by omega⟩
    rintro k hI0
    replace hI0 : k ≤ List.length W ∧ ∀ j, j < k → outF (List.getD W j 0) 0 100 = false := hI0
    show TK _ _ _ _ _ _ ⟨[(1, .bref 2 0), (3, vI ((k : Nat) : Int))], [(2, .box 26 [vI start, vL eI W])]⟩
    refine At rfl ?_
    refine NR ⟨[(1, .bref 2 0), (3, vI ((k : Nat) : Int))], [(2, .box 26 [vI start, vL eI W])]⟩ (sb rfl rfl rfl) rfl ?_
    refine mv rfl ?_
    refine RO (Body.fadB rfl fa26_1 rfl) ?_
    refine RO (Body.loadB rfl rfl rfl ag22 sz22 rfl) ?_
    refine RO (Body.lenL rfl un22) ?_
    refine RO (Body.lss rfl rfl) ?_
    refine RN ?_
    refine Ap rfl ?_
    refine TK.norm ⟨[(1, .bref 2 0), (3, vI ((k : Nat) : Int)), (19, vB (decide (((k : Nat) : Int) < ((List.length W : Nat) : Int))))], [(2, .box 26 [vI start, vL eI W])]⟩ (sb rfl rfl rfl) ?_
    refine TK.condP rfl (fun h4 => ?_) (fun h4 => ?_)
    ·
     refine At rfl ?_
     refine NR ⟨[(1, .bref 2 0), (3, vI ((k : Nat) : Int))], [(2, .box 26 [vI start, vL eI W])]⟩ (sb rfl rfl rfl) rfl ?_
     refine RO (Body.fadB rfl fa26_1 rfl) ?_
     refine RO (Body.loadB rfl rfl rfl ag22 sz22 rfl) ?_
     refine mv rfl ?_
     refine RO (Body.idx (z := 0) (i := k) rfl rfl un22 sz3 (fun _ => rfl) rfl (by omega)) ?_
     refine RO (Body.loadP rfl ag3 sz3) ?_
     refine RO (Body.call (w93 (List.getD W k 0) 0 100) rfl rfl rfl) ?_
     refine RN ?_
     refine Ap rfl ?_
     refine TK.norm ⟨[(1, .bref 2 0), (3, vI ((k : Nat) : Int)), (27, vB (outF (List.getD W k 0) 0 100))], [(2, .box 26 [vI start, vL eI W])]⟩ (sb rfl rfl rfl) ?_
     refine TK.cond rfl (fun h5 => ?_) (fun h5 => ?_)
     ·
      refine At rfl ?_
      refine NR ⟨[], []⟩ (sb rfl rfl rfl) rfl ?_
      refine ag rfl ?_
      refine RN ?_
      refine Ap rfl ?_
      refine TK.ret ?_
      refine PK.ret ?_
      refine leaf (val0 := vI 3) (by kernel_rfl) ?_
      exact li (by unfold chkNightF; first
          | (rw [h1]; rfl)
          | (rw [h1, decide_eq_true (by omega)]; rfl)
          | (rw [h1, decide_eq_false (by omega), decide_eq_true (by omega)]; rfl)
          | (rw [h1, decide_eq_false (by omega), decide_eq_false (by omega), any_getD (z := 0) (by omega) h5]; rfl)
          | (rw [h1, decide_eq_false (by omega), decide_eq_false (by omega), any_getD_none 0 (fun j hj => hI0.2 j (by omega))]; rfl))
     ·
      refine At rfl ?_
      refine NR ⟨[(1, .bref 2 0), (3, vI ((k : Nat) : Int))], [(2, .box 26 [vI start, vL eI W])]⟩ (sb rfl rfl rfl) rfl ?_
      refine mv rfl ?_
      refine RO (Body.add rfl rfl (by unfold R64; omega)) ?_
      refine ag rfl ?_
      refine RN ?_
      refine Aq rfl ?_
      refine PK.lp ?_
      refine LP.mk (k + 1) ?_ ?_ (sb rfl rfl rfl)
      · show (k + 1) ≤ List.length W ∧ ∀ j, j < (k + 1) → outF (List.getD W j 0) 0 100 = false
        refine ⟨by omega, fun j hj => ?_⟩; rcases Nat.lt_succ_iff_lt_or_eq.1 hj with h | h; exact hI0.2 j h; subst h; exact h5
      · show List.length W - (k + 1) < List.length W - k
        omega
    ·
     refine At rfl ?_
     refine TK.exit ?_
     refine PK.exit rfl ?_
     refine Ap rfl ?_
     refine NR ⟨[], []⟩ (sb rfl rfl rfl) rfl ?_
     refine ag rfl ?_
     refine RN ?_
     refine Ap rfl ?_
     refine TK.ret ?_
     refine PK.ret ?_
     refine leaf (val0 := vI 0) (by kernel_rfl) ?_
     exact li (by unfold chkNightF; first
          | (rw [h1]; rfl)
          | (rw [h1, decide_eq_true (by omega)]; rfl)
          | (rw [h1, decide_eq_false (by omega), decide_eq_true (by omega)]; rfl)
          | (rw [h1, decide_eq_false (by omega), decide_eq_false (by omega), any_getD (z := 0) (by omega) h5]; rfl)
          | (rw [h1, decide_eq_false (by omega), decide_eq_false (by omega), any_getD_none 0 (fun j hj => hI0.2 j (by omega))]; rfl))
end Go.Lens.Tb
end
section
namespace Go.Lens.Tb
open Go.Proofs
variable [Lz]
set_option linter.unusedSectionVars false
set_option maxRecDepth 100000
attribute [local irreducible] TK PK T RG EfR Body
theorem ag49 : aggT tab 49 = some true := by kernel_rfl
theorem w109 (a b : Int) (h : -1000000 ≤ a ∧ a ≤ 1000000 ∧ -1000000 ≤ b ∧ b ≤ 1000000) : CallOk Tryz.prog 109 [vI a, vI b] (lookM []) (vI (apartF a b)) [] := by
 haveI := tab_ok
 obtain ⟨fn, f1, f2, f3, f4, _, f6⟩ := qf109
 refine callOk_of (Y := tab) (F := fn109) f1 (f2.trans rfl) f3 f4 f6 (Nat.le_of_ble_eq_true rfl) rfl ?_
 clear f1 f2 f3 f4 f6
 show TK _ _ _ _ _ _ ⟨[(0, vI a), (1, vI b)], []⟩
 refine At rfl ?_
 refine NR ⟨[(0, vI a), (1, vI b)], []⟩ (sb rfl rfl rfl) rfl ?_
 refine ag rfl ?_
 refine RN ?_
 refine Ap rfl ?_
 refine NR ⟨[(0, vI a), (1, vI b)], []⟩ (sb rfl rfl rfl) rfl ?_
 refine mv rfl ?_
 refine mv rfl ?_
 refine RO (Body.sub rfl rfl (by unfold R64; omega)) ?_
 refine mv rfl ?_
 refine mv rfl ?_
 refine RO (Body.sub rfl rfl (by unfold R64; omega)) ?_
 refine RO (Body.max rfl rfl) ?_
 refine ag rfl ?_
 refine RN ?_
 refine Ap rfl ?_
 refine TK.ret ?_
 refine PK.ret ?_
 refine leaf (val0 := vI (max (a - b) (b - a))) (by kernel_rfl) ?_
 exact li (by rfl)
theorem w29 (a b : List Int) (hl : a.length ≤ 1000000000000000) : CallOk Tryz.prog 29 [vL eI a, vL eI b] (lookM []) (vB (decide (a = b))) [] := by
 haveI := tab_ok
 obtain ⟨fn, f1, f2, f3, f4, _, f6⟩ := qf29
 refine callOk_of (Y := tab) (F := fn29) f1 (f2.trans rfl) f3 f4 f6 (Nat.le_of_ble_eq_true rfl) rfl ?_
 clear f1 f2 f3 f4 f6
 show TK _ _ _ _ _ _ ⟨[(0, vL eI a), (1, vL eI b)], []⟩
 refine At rfl ?_
 refine NR ⟨[(0, vL eI a), (1, vL eI b)], []⟩ (sb rfl rfl rfl) rfl ?_
 refine ag rfl ?_
 refine RN ?_
 refine Ap rfl ?_
 refine NR ⟨[(0, vL eI a), (1, vL eI b)], []⟩ (sb rfl rfl rfl) rfl ?_
 refine mv rfl ?_
 refine RO (Body.lenL rfl un22) ?_
 refine mv rfl ?_
 refine RO (Body.lenL rfl un22) ?_
 refine RO (Body.neq rfl rfl) ?_
 refine RN ?_
 refine Ap rfl ?_
 refine TK.norm ⟨[(0, vL eI a), (1, vL eI b), (10, vB (decide (((List.length a : Nat) : Int) ≠ ((List.length b : Nat) : Int))))], []⟩ (sb rfl rfl rfl) ?_
 refine TK.condP rfl (fun h1 => ?_) (fun h1 => ?_)
 ·
  refine At rfl ?_
  refine NR ⟨[], []⟩ (sb rfl rfl rfl) rfl ?_
  refine ag rfl ?_
  refine RN ?_
  refine Ap rfl ?_
  refine TK.ret ?_
  refine PK.ret ?_
  refine leaf (val0 := vB false) (by kernel_rfl) ?_
  exact lb (by first | (refine (decide_eq_false fun e => ?_).symm; subst e; omega) | (refine (decide_eq_true ?_).symm; exact list_ext_getD 0 hI0.2.1 fun j hj => hI0.2.2 j (by omega)))
 ·
  refine At rfl ?_
  refine NR ⟨[(0, vL eI a), (1, vL eI b)], []⟩ (sb rfl rfl rfl) rfl ?_
  refine ag rfl ?_
  refine RN ?_
  refine Ap rfl ?_
  refine TK.loop (α := Nat) (fun x => ⟨[(0, vL eI a), (1, vL eI b), (5, vI ((x : Nat) : Int))], []⟩) (fun x => x ≤ List.length a ∧ List.length a = List.length b ∧ ∀ j, j < x → List.getD a j 0 = List.getD b j 0) (fun x => List.length a - x) 0 ?_ (sb rfl rfl rfl) ?_
  · show 0 ≤ List.length a ∧ List.length a = List.length b ∧ ∀ j, j < 0 → List.getD a j 0 = List.getD b j 0
    exact ⟨Nat.zero_le _, by omega, fun j hj => by omega⟩
  rintro k hI0
  replace hI0 : k ≤ List.length a ∧ List.length a = List.length b ∧ ∀ j, j < k → List.getD a j 0 = List.getD b j 0 := hI0
  show TK _ _ _ _ _ _ ⟨[(0, vL eI a), (1, vL eI b), (5, vI ((k : Nat) : Int))], []⟩
  refine At rfl ?_
  refine NR ⟨[(0, vL eI a), (1, vL eI b), (5, vI ((k : Nat) : Int))], []⟩ (sb rfl rfl rfl) rfl ?_
  refine mv rfl ?_
  refine mv rfl ?_
  refine RO (Body.lenL rfl un22) ?_
  refine RO (Body.lss rfl rfl) ?_
  refine RN ?_
  refine Ap rfl ?_
  refine TK.norm ⟨[(0, vL eI a), (1, vL eI b), (5, vI ((k : Nat) : Int)), (14, vB (decide (((k : Nat) : Int) < ((List.length a : Nat) : Int))))], []⟩ (sb rfl rfl rfl) ?_
  refine TK.condP rfl (fun h2 => ?_) (fun h2 => ?_)
  ·
   refine At rfl ?_
   refine NR ⟨[(0, vL eI a), (1, vL eI b), (5, vI ((k : Nat) : Int))], []⟩ (sb rfl rfl rfl) rfl ?_
   refine mv rfl ?_
   refine mv rfl ?_
   refine RO (Body.idx (z := 0) (i := k) rfl rfl un22 sz3 (fun _ => rfl) rfl (by omega)) ?_
   refine RO (Body.loadP rfl ag3 sz3) ?_
   refine mv rfl ?_
   refine mv rfl ?_
   refine RO (Body.idx (z := 0) (i := k) rfl rfl un22 sz3 (fun _ => rfl) rfl (by omega)) ?_
   refine RO (Body.loadP rfl ag3 sz3) ?_
   refine RO (Body.neq rfl rfl) ?_
   refine RG.nil (fun _ => by kernel_rfl) ?_
   refine Ap rfl ?_
   refine TK.norm ⟨[(0, vL eI a), (1, vL eI b), (5, vI ((k : Nat) : Int)), (25, vB (decide ((List.getD a k 0) ≠ (List.getD b k 0))))], []⟩ (sb rfl rfl rfl) ?_
   refine TK.condP rfl (fun h3 => ?_) (fun h3 => ?_)
   ·
    refine At rfl ?_
    refine NR ⟨[], []⟩ (sb rfl rfl rfl) rfl ?_
    refine ag rfl ?_
    refine RN ?_
    refine Ap rfl ?_
    refine TK.ret ?_
    refine PK.ret ?_
    refine leaf (val0 := vB false) (by kernel_rfl) ?_
    exact lb (by first | (refine (decide_eq_false fun e => ?_).symm; subst e; omega) | (refine (decide_eq_true ?_).symm; exact list_ext_getD 0 hI0.2.1 fun j hj => hI0.2.2 j (by omega)))
   ·
    refine At rfl ?_
    refine NR ⟨[(0, vL eI a), (1, vL eI b), (5, vI ((k : Nat) : Int))], []⟩ (sb rfl rfl rfl) rfl ?_
    refine mv rfl ?_
    refine RO (Body.add rfl rfl (by unfold R64; omega)) ?_
    refine ag rfl ?_
    refine RN ?_
    refine Aq rfl ?_
    refine PK.lp ?_
    refine LP.mk (k + 1) ?_ ?_ (sb rfl rfl rfl)
    · show (k + 1) ≤ List.length a ∧ List.length a = List.length b ∧ ∀ j, j < (k + 1) → List.getD a j 0 = List.getD b j 0
      refine ⟨by omega, by omega, fun j hj => ?_⟩; rcases Nat.lt_succ_iff_lt_or_eq.1 hj with h | h; exact hI0.2.2 j h; subst h; omega
    · show List.length a - (k + 1) < List.length a - k
      omega
  ·
   refine At rfl ?_
   refine TK.exit ?_
   refine PK.exit rfl ?_
   refine Ap rfl ?_
   refine NR ⟨[], []⟩ (sb rfl rfl rfl) rfl ?_
   refine ag rfl ?_
   refine RN ?_
   refine Ap rfl ?_
   refine TK.ret ?_
   refine PK.ret ?_
   refine leaf (val0 := vB true) (by kernel_rfl) ?_
   exact lb (by first | (refine (decide_eq_false fun e => ?_).symm; subst e; omega) | (refine (decide_eq_true ?_).symm; exact list_ext_getD 0 hI0.2.1 fun j hj => hI0.2.2 j (by omega)))
theorem w21 (l : List Tgt) (hl : l.length ≤ 1000000000000000) : CallOk Tryz.prog 21 [vL eT l] (lookM []) (vI (chkTgtsF l)) [] := by
 haveI := tab_ok
 obtain ⟨fn, f1, f2, f3, f4, _, f6⟩ := qf21
 refine callOk_of (Y := tab) (F := fn21) f1 (f2.trans rfl) f3 f4 f6 (Nat.le_of_ble_eq_true rfl) rfl ?_
 clear f1 f2 f3 f4 f6
 show TK _ _ _ _ _ _ ⟨[(0, vL eT l)], []⟩
 refine At rfl ?_
 refine NR ⟨[(0, vL eT l)], []⟩ (sb rfl rfl rfl) rfl ?_
 refine ag rfl ?_
 refine RN ?_
 refine Ap rfl ?_
 refine NR ⟨[(0, vL eT l)], []⟩ (sb rfl rfl rfl) rfl ?_
 refine mv rfl ?_
 refine RO (Body.lenL rfl un27) ?_
 refine RO (Body.gtr rfl rfl) ?_
 refine RN ?_
 refine Ap rfl ?_
 refine TK.norm ⟨[(0, vL eT l), (6, vB (decide (32 < ((List.length l : Nat) : Int))))], []⟩ (sb rfl rfl rfl) ?_
 refine TK.condP rfl (fun h1 => ?_) (fun h1 => ?_)
 ·
  refine At rfl ?_
  refine NR ⟨[], []⟩ (sb rfl rfl rfl) rfl ?_
  refine ag rfl ?_
  refine RN ?_
  refine Ap rfl ?_
  refine TK.ret ?_
  refine PK.ret ?_
  refine leaf (val0 := vI 5) (by kernel_rfl) ?_
  exact li (by first
          | (unfold chkTgtsF; rw [decide_eq_true (by omega)]; rfl)
          | (rw [hI0.2, drop_at l k default (by omega), chkGo, if_neg] <;> (unfold chkOne; rw [h3]) <;> first | rfl | (intro h; cases h))
          | (rw [findI_nonneg_t] at h4; rw [hI0.2, drop_at l k default (by omega), chkGo, if_neg] <;> (unfold chkOne; rw [h3, h4]) <;> first | rfl | (intro h; cases h))
          | (rw [findI_nonneg_f] at h4; rw [hI0.2, drop_at l k default (by omega), chkGo, if_neg] <;> (unfold chkOne; rw [h3, h4, h5]) <;> first | rfl | (intro h; cases h))
          | (rw [hI0.2, List.drop_eq_nil_of_le (by omega)]; rfl))
 ·
  refine At rfl ?_
  refine NR ⟨[(0, vL eT l)], []⟩ (sb rfl rfl rfl) rfl ?_
  refine ag rfl ?_
  refine RN ?_
  refine Ap rfl ?_
  refine TK.loop (α := Nat) (fun x => ⟨[(0, vL eT l), (3, vI ((x : Nat) : Int))], []⟩) (fun x => x ≤ List.length l ∧ chkTgtsF l = chkGo (List.take x l) (List.drop x l)) (fun x => List.length l - x) 0 ?_ (sb rfl rfl rfl) ?_
  · show 0 ≤ List.length l ∧ chkTgtsF l = chkGo (List.take 0 l) (List.drop 0 l)
    refine ⟨Nat.zero_le _, ?_⟩; unfold chkTgtsF; rw [decide_eq_false (by omega)]; rfl
  rintro k hI0
  replace hI0 : k ≤ List.length l ∧ chkTgtsF l = chkGo (List.take k l) (List.drop k l) := hI0
  show TK _ _ _ _ _ _ ⟨[(0, vL eT l), (3, vI ((k : Nat) : Int))], []⟩
  refine At rfl ?_
  refine NR ⟨[(0, vL eT l), (3, vI ((k : Nat) : Int))], []⟩ (sb rfl rfl rfl) rfl ?_
  refine mv rfl ?_
  refine mv rfl ?_
  refine RO (Body.lenL rfl un27) ?_
  refine RO (Body.lss rfl rfl) ?_
  refine RN ?_
  refine Ap rfl ?_
  refine TK.norm ⟨[(0, vL eT l), (3, vI ((k : Nat) : Int)), (10, vB (decide (((k : Nat) : Int) < ((List.length l : Nat) : Int))))], []⟩ (sb rfl rfl rfl) ?_
  refine TK.condP rfl (fun h2 => ?_) (fun h2 => ?_)
  ·
   refine At rfl ?_
   refine NR ⟨[(0, vL eT l), (3, vI ((k : Nat) : Int))], []⟩ (sb rfl rfl rfl) rfl ?_
   refine mv rfl ?_
   refine mv rfl ?_
   refine RO (Body.idx (z := default) (i := k) rfl rfl un27 sz49 (fun _ => rfl) rfl (by omega)) ?_
   refine RO (Body.fadP rfl fa49_0 rfl) ?_
   refine RO (Body.loadP rfl ag9 sz9) ?_
   refine RO (Body.call (w94 (Tgt.name (List.getD l k default))) rfl rfl rfl) ?_
   refine RO (Body.not rfl) ?_
   refine RN ?_
   refine Ap rfl ?_
   refine TK.norm ⟨[(0, vL eT l), (3, vI ((k : Nat) : Int)), (19, vB (!(isNameF (Tgt.name (List.getD l k default)))))], []⟩ (sb rfl rfl rfl) ?_
   refine TK.cond rfl (fun h3 => ?_) (fun h3 => ?_)
   ·
    refine At rfl ?_
    refine NR ⟨[], []⟩ (sb rfl rfl rfl) rfl ?_
    refine ag rfl ?_
    refine RN ?_
    refine Ap rfl ?_
    refine TK.ret ?_
    refine PK.ret ?_
    refine leaf (val0 := vI 8) (by kernel_rfl) ?_
    exact li (by first
          | (unfold chkTgtsF; rw [decide_eq_true (by omega)]; rfl)
          | (rw [hI0.2, drop_at l k default (by omega), chkGo, if_neg] <;> (unfold chkOne; rw [h3]) <;> first | rfl | (intro h; cases h))
          | (rw [findI_nonneg_t] at h4; rw [hI0.2, drop_at l k default (by omega), chkGo, if_neg] <;> (unfold chkOne; rw [h3, h4]) <;> first | rfl | (intro h; cases h))
          | (rw [findI_nonneg_f] at h4; rw [hI0.2, drop_at l k default (by omega), chkGo, if_neg] <;> (unfold chkOne; rw [h3, h4, h5]) <;> first | rfl | (intro h; cases h))
          | (rw [hI0.2, List.drop_eq_nil_of_le (by omega)]; rfl))
   ·
    refine At rfl ?_
    refine NR ⟨[(0, vL eT l), (3, vI ((k : Nat) : Int))], []⟩ (sb rfl rfl rfl) rfl ?_
    refine mv rfl ?_
    refine mv rfl ?_
    refine RO (Body.slT (j := k) rfl rfl un27 sz49 rfl (by omega)) ?_
    refine mv rfl ?_
    refine mv rfl ?_
    refine RO (Body.idx (z := default) (i := k) rfl rfl un27 sz49 (fun _ => rfl) rfl (by omega)) ?_
    refine RO (Body.fadP rfl fa49_0 rfl) ?_
    refine RO (Body.loadP rfl ag9 sz9) ?_
    refine RO (Body.call (w95 (List.take k l) (Tgt.name (List.getD l k default)) (by first | omega | exact Nat.le_of_ble_eq_true rfl | (simp only [List.length_take, List.length_drop]; omega))) rfl rfl rfl) ?_
    refine RO (Body.geq rfl rfl) ?_
    refine RG.nil (fun _ => by kernel_rfl) ?_
    refine Ap rfl ?_
    refine TK.norm ⟨[(0, vL eT l), (3, vI ((k : Nat) : Int)), (29, vB (decide (0 ≤ (findI (fun o => decide (Tgt.name o = (Tgt.name (List.getD l k default)))) (List.take k l)))))], []⟩ (sb rfl rfl rfl) ?_
    refine TK.condP rfl (fun h4 => ?_) (fun h4 => ?_)
    ·
     refine At rfl ?_
     refine NR ⟨[], []⟩ (sb rfl rfl rfl) rfl ?_
     refine ag rfl ?_
     refine RN ?_
     refine Ap rfl ?_
     refine TK.ret ?_
     refine PK.ret ?_
     refine leaf (val0 := vI 9) (by kernel_rfl) ?_
     exact li (by first
          | (unfold chkTgtsF; rw [decide_eq_true (by omega)]; rfl)
          | (rw [hI0.2, drop_at l k default (by omega), chkGo, if_neg] <;> (unfold chkOne; rw [h3]) <;> first | rfl | (intro h; cases h))
          | (rw [findI_nonneg_t] at h4; rw [hI0.2, drop_at l k default (by omega), chkGo, if_neg] <;> (unfold chkOne; rw [h3, h4]) <;> first | rfl | (intro h; cases h))
          | (rw [findI_nonneg_f] at h4; rw [hI0.2, drop_at l k default (by omega), chkGo, if_neg] <;> (unfold chkOne; rw [h3, h4, h5]) <;> first | rfl | (intro h; cases h))
          | (rw [hI0.2, List.drop_eq_nil_of_le (by omega)]; rfl))
    ·
     refine At rfl ?_
     refine NR ⟨[(0, vL eT l), (3, vI ((k : Nat) : Int))], []⟩ (sb rfl rfl rfl) rfl ?_
     refine mv rfl ?_
     refine mv rfl ?_
     refine RO (Body.idx (z := default) (i := k) rfl rfl un27 sz49 (fun _ => rfl) rfl (by omega)) ?_
     refine RO (Body.loadA (ds := [pS (Tgt.name (List.getD l k default)), pI (Tgt.bright (List.getD l k default)), pI (Tgt.place (List.getD l k default)), pI (Tgt.length (List.getD l k default)), pI (Tgt.from_ (List.getD l k default)), pI (Tgt.to (List.getD l k default)), pI (Tgt.limit (List.getD l k default))]) rfl ag49 sz49 (Nat.le_of_ble_eq_true rfl) rfl) ?_
     refine RO (Body.call (w96 (List.getD l k default)) rfl rfl rfl) ?_
     refine RO (Body.not rfl) ?_
     refine RN ?_
     refine Ap rfl ?_
     refine TK.norm ⟨[(0, vL eT l), (3, vI ((k : Nat) : Int)), (35, vB (!(inRangeF (List.getD l k default))))], []⟩ (sb rfl rfl rfl) ?_
     refine TK.cond rfl (fun h5 => ?_) (fun h5 => ?_)
     ·
      refine At rfl ?_
      refine NR ⟨[], []⟩ (sb rfl rfl rfl) rfl ?_
      refine ag rfl ?_
      refine RN ?_
      refine Ap rfl ?_
      refine TK.ret ?_
      refine PK.ret ?_
      refine leaf (val0 := vI 3) (by kernel_rfl) ?_
      exact li (by first
          | (unfold chkTgtsF; rw [decide_eq_true (by omega)]; rfl)
          | (rw [hI0.2, drop_at l k default (by omega), chkGo, if_neg] <;> (unfold chkOne; rw [h3]) <;> first | rfl | (intro h; cases h))
          | (rw [findI_nonneg_t] at h4; rw [hI0.2, drop_at l k default (by omega), chkGo, if_neg] <;> (unfold chkOne; rw [h3, h4]) <;> first | rfl | (intro h; cases h))
          | (rw [findI_nonneg_f] at h4; rw [hI0.2, drop_at l k default (by omega), chkGo, if_neg] <;> (unfold chkOne; rw [h3, h4, h5]) <;> first | rfl | (intro h; cases h))
          | (rw [hI0.2, List.drop_eq_nil_of_le (by omega)]; rfl))
     ·
      refine At rfl ?_
      refine NR ⟨[(0, vL eT l), (3, vI ((k : Nat) : Int))], []⟩ (sb rfl rfl rfl) rfl ?_
      refine mv rfl ?_
      refine RO (Body.add rfl rfl (by unfold R64; omega)) ?_
      refine ag rfl ?_
      refine RN ?_
      refine Aq rfl ?_
      refine PK.lp ?_
      refine LP.mk (k + 1) ?_ ?_ (sb rfl rfl rfl)
      · show (k + 1) ≤ List.length l ∧ chkTgtsF l = chkGo (List.take (k + 1) l) (List.drop (k + 1) l)
        refine ⟨by omega, ?_⟩; rw [hI0.2, drop_at l k default (by omega), take_succ_at l k default (by omega), chkGo, if_pos]; rw [findI_nonneg_f] at h4; unfold chkOne; rw [h3, h4, h5]; rfl
      · show List.length l - (k + 1) < List.length l - k
        omega
  ·
   refine At rfl ?_
   refine TK.exit ?_
   refine PK.exit rfl ?_
   refine Ap rfl ?_
   refine NR ⟨[], []⟩ (sb rfl rfl rfl) rfl ?_
   refine ag rfl ?_
   refine RN ?_
   refine Ap rfl ?_
   refine TK.ret ?_
   refine PK.ret ?_
   refine leaf (val0 := vI 0) (by kernel_rfl) ?_
   exact li (by first
          | (unfold chkTgtsF; rw [decide_eq_true (by omega)]; rfl)
          | (rw [hI0.2, drop_at l k default (by omega), chkGo, if_neg] <;> (unfold chkOne; rw [h3]) <;> first | rfl | (intro h; cases h))
          | (rw [findI_nonneg_t] at h4; rw [hI0.2, drop_at l k default (by omega), chkGo, if_neg] <;> (unfold chkOne; rw [h3, h4]) <;> first | rfl | (intro h; cases h))
          | (rw [findI_nonneg_f] at h4; rw [hI0.2, drop_at l k default (by omega), chkGo, if_neg] <;> (unfold chkOne; rw [h3, h4, h5]) <;> first | rfl | (intro h; cases h))
          | (rw [hI0.2, List.drop_eq_nil_of_le (by omega)]; rfl))
end Go.Lens.Tb
end
section
namespace Go.Lens.Tb
open Go.Proofs
variable [Lz]
set_option linter.unusedSectionVars false
set_option maxRecDepth 100000
attribute [local irreducible] TK PK T RG EfR Body
theorem ag26 : aggT tab 26 = some true := by kernel_rfl
theorem ag46 : aggT tab 46 = some true := by kernel_rfl
theorem by49 : ty49.info.bytes = 64 := by kernel_rfl
theorem in49 : tab.info? 49 = some ty49.info := by kernel_rfl
theorem sz26 : szT tab 26 = some 2 := by kernel_rfl
theorem sz46 : szT tab 46 = some 7 := by kernel_rfl
theorem un25 : tab.underlying 25 = some (.slice 46) := by kernel_rfl
theorem w26 (n : Int) (o : List Int) (hl : o.length ≤ 1000000000000000) (hn : 0 ≤ n ∧ n ≤ 1000000000000000) : CallOk Tryz.prog 26 [vI n, vL eI o] (lookM []) (vI (chkOrdF n o)) [] := by
 haveI := tab_ok
 obtain ⟨fn, f1, f2, f3, f4, _, f6⟩ := qf26
 refine callOk_of (Y := tab) (F := fn26) f1 (f2.trans rfl) f3 f4 f6 (Nat.le_of_ble_eq_true rfl) rfl ?_
 clear f1 f2 f3 f4 f6
 show TK _ _ _ _ _ _ ⟨[(0, vI n), (1, vL eI o)], []⟩
 refine At rfl ?_
 refine NR ⟨[(0, vI n), (1, vL eI o)], []⟩ (sb rfl rfl rfl) rfl ?_
 refine ag rfl ?_
 refine RN ?_
 refine Ap rfl ?_
 refine NR ⟨[(0, vI n), (1, vL eI o)], []⟩ (sb rfl rfl rfl) rfl ?_
 refine ag rfl ?_
 refine RN ?_
 refine Ap rfl ?_
 refine TK.loop (α := Nat) (fun x => ⟨[(0, vI n), (1, vL eI o), (5, vI ((x : Nat) : Int))], []⟩) (fun x => x ≤ List.length o ∧ chkOrdF n o = ordGo n (List.take x o) (List.drop x o)) (fun x => List.length o - x) 0 ?_ (sb rfl rfl rfl) ?_
 · show 0 ≤ List.length o ∧ chkOrdF n o = ordGo n (List.take 0 o) (List.drop 0 o)
   exact ⟨Nat.zero_le _, rfl⟩
 rintro i hI0
 replace hI0 : i ≤ List.length o ∧ chkOrdF n o = ordGo n (List.take i o) (List.drop i o) := hI0
 show TK _ _ _ _ _ _ ⟨[(0, vI n), (1, vL eI o), (5, vI ((i : Nat) : Int))], []⟩
 refine At rfl ?_
 refine NR ⟨[(0, vI n), (1, vL eI o), (5, vI ((i : Nat) : Int))], []⟩ (sb rfl rfl rfl) rfl ?_
 refine mv rfl ?_
 refine mv rfl ?_
 refine RO (Body.lenL rfl un22) ?_
 refine RO (Body.lss rfl rfl) ?_
 refine RN ?_
 refine Ap rfl ?_
 refine TK.norm ⟨[(0, vI n), (1, vL eI o), (5, vI ((i : Nat) : Int)), (10, vB (decide (((i : Nat) : Int) < ((List.length o : Nat) : Int))))], []⟩ (sb rfl rfl rfl) ?_
 refine TK.condP rfl (fun h1 => ?_) (fun h1 => ?_)
 ·
  refine At rfl ?_
  refine NR ⟨[(0, vI n), (1, vL eI o), (5, vI ((i : Nat) : Int))], []⟩ (sb rfl rfl rfl) rfl ?_
  refine mv rfl ?_
  refine mv rfl ?_
  refine RO (Body.idx (z := 0) (i := i) rfl rfl un22 sz3 (fun _ => rfl) rfl (by omega)) ?_
  refine RO (Body.loadP rfl ag3 sz3) ?_
  refine mv rfl ?_
  refine RO (Body.sub rfl rfl (by unfold R64; omega)) ?_
  refine RO (Body.call (w93 (List.getD o i 0) 0 (n - 1)) rfl rfl rfl) ?_
  refine RN ?_
  refine Ap rfl ?_
  refine TK.norm ⟨[(0, vI n), (1, vL eI o), (5, vI ((i : Nat) : Int)), (19, vB (outF (List.getD o i 0) 0 (n - 1)))], []⟩ (sb rfl rfl rfl) ?_
  refine TK.cond rfl (fun h2 => ?_) (fun h2 => ?_)
  ·
   refine At rfl ?_
   refine NR ⟨[], []⟩ (sb rfl rfl rfl) rfl ?_
   refine ag rfl ?_
   refine RN ?_
   refine Ap rfl ?_
   refine TK.ret ?_
   refine PK.ret ?_
   refine leaf (val0 := vI 10) (by kernel_rfl) ?_
   exact li (by first
          | (rw [hI0.2, drop_at o i 0 (by omega), ordGo, if_neg] <;> (unfold ordOne; rw [h2]) <;> first | rfl | (intro h; cases h))
          | (rw [hI0.2, drop_at o i 0 (by omega), ordGo, if_neg] <;> (unfold ordOne; rw [h2, take_any_yes (p := fun x => decide (x = List.getD o i 0)) (z := 0) (m := j) (by omega) (by omega) (decide_eq_true h4)]) <;> first | rfl | (intro h; cases h))
          | (rw [hI0.2, List.drop_eq_nil_of_le (by omega)]; rfl))
  ·
   refine At rfl ?_
   refine NR ⟨[(0, vI n), (1, vL eI o), (5, vI ((i : Nat) : Int))], []⟩ (sb rfl rfl rfl) rfl ?_
   refine ag rfl ?_
   refine RN ?_
   refine Ap rfl ?_
   refine TK.loop (α := Nat) (fun x => ⟨[(0, vI n), (1, vL eI o), (5, vI ((i : Nat) : Int)), (6, vI ((x : Nat) : Int))], []⟩) (fun x => x ≤ i ∧ ∀ m, m < x → ¬ (List.getD o m 0 = List.getD o i 0)) (fun x => i - x) 0 ?_ (sb rfl rfl rfl) ?_
   · show 0 ≤ i ∧ ∀ m, m < 0 → ¬ (List.getD o m 0 = List.getD o i 0)
     exact ⟨Nat.zero_le _, fun m hm => by omega⟩
   rintro j hI1
   replace hI1 : j ≤ i ∧ ∀ m, m < j → ¬ (List.getD o m 0 = List.getD o i 0) := hI1
   show TK _ _ _ _ _ _ ⟨[(0, vI n), (1, vL eI o), (5, vI ((i : Nat) : Int)), (6, vI ((j : Nat) : Int))], []⟩
   refine At rfl ?_
   refine NR ⟨[(0, vI n), (1, vL eI o), (5, vI ((i : Nat) : Int)), (6, vI ((j : Nat) : Int))], []⟩ (sb rfl rfl rfl) rfl ?_
   refine mv rfl ?_
   refine mv rfl ?_
   refine RO (Body.lss rfl rfl) ?_
   refine RN ?_
   refine Ap rfl ?_
   refine TK.norm ⟨[(0, vI n), (1, vL eI o), (5, vI ((i : Nat) : Int)), (6, vI ((j : Nat) : Int)), (22, vB (decide (((j : Nat) : Int) < ((i : Nat) : Int))))], []⟩ (sb rfl rfl rfl) ?_
   refine TK.condP rfl (fun h3 => ?_) (fun h3 => ?_)
   ·
    refine At rfl ?_
    refine NR ⟨[(0, vI n), (1, vL eI o), (5, vI ((i : Nat) : Int)), (6, vI ((j : Nat) : Int))], []⟩ (sb rfl rfl rfl) rfl ?_
    refine mv rfl ?_
    refine mv rfl ?_
    refine RO (Body.idx (z := 0) (i := j) rfl rfl un22 sz3 (fun _ => rfl) rfl (by omega)) ?_
    refine RO (Body.loadP rfl ag3 sz3) ?_
    refine mv rfl ?_
    refine mv rfl ?_
    refine RO (Body.idx (z := 0) (i := i) rfl rfl un22 sz3 (fun _ => rfl) rfl (by omega)) ?_
    refine RO (Body.loadP rfl ag3 sz3) ?_
    refine RO (Body.eql rfl rfl) ?_
    refine RG.nil (fun _ => by kernel_rfl) ?_
    refine Ap rfl ?_
    refine TK.norm ⟨[(0, vI n), (1, vL eI o), (5, vI ((i : Nat) : Int)), (6, vI ((j : Nat) : Int)), (33, vB (decide ((List.getD o j 0) = (List.getD o i 0))))], []⟩ (sb rfl rfl rfl) ?_
    refine TK.condP rfl (fun h4 => ?_) (fun h4 => ?_)
    ·
     refine At rfl ?_
     refine NR ⟨[], []⟩ (sb rfl rfl rfl) rfl ?_
     refine ag rfl ?_
     refine RN ?_
     refine Ap rfl ?_
     refine TK.ret ?_
     refine PK.ret ?_
     refine leaf (val0 := vI 9) (by kernel_rfl) ?_
     exact li (by first
          | (rw [hI0.2, drop_at o i 0 (by omega), ordGo, if_neg] <;> (unfold ordOne; rw [h2]) <;> first | rfl | (intro h; cases h))
          | (rw [hI0.2, drop_at o i 0 (by omega), ordGo, if_neg] <;> (unfold ordOne; rw [h2, take_any_yes (p := fun x => decide (x = List.getD o i 0)) (z := 0) (m := j) (by omega) (by omega) (decide_eq_true h4)]) <;> first | rfl | (intro h; cases h))
          | (rw [hI0.2, List.drop_eq_nil_of_le (by omega)]; rfl))
    ·
     refine At rfl ?_
     refine NR ⟨[(0, vI n), (1, vL eI o), (5, vI ((i : Nat) : Int)), (6, vI ((j : Nat) : Int))], []⟩ (sb rfl rfl rfl) rfl ?_
     refine mv rfl ?_
     refine RO (Body.add rfl rfl (by unfold R64; omega)) ?_
     refine ag rfl ?_
     refine RN ?_
     refine Aq rfl ?_
     refine PK.lp ?_
     refine LP.mk (j + 1) ?_ ?_ (sb rfl rfl rfl)
     · show (j + 1) ≤ i ∧ ∀ m, m < (j + 1) → ¬ (List.getD o m 0 = List.getD o i 0)
       refine ⟨by omega, fun m hj => ?_⟩; rcases Nat.lt_succ_iff_lt_or_eq.1 hj with h | h; exact hI1.2 m h; subst h; assumption
     · show i - (j + 1) < i - j
       omega
   ·
    refine At rfl ?_
    refine TK.exit ?_
    refine PK.exit rfl ?_
    refine Ap rfl ?_
    refine NR ⟨[(0, vI n), (1, vL eI o), (5, vI ((i : Nat) : Int))], []⟩ (sb rfl rfl rfl) rfl ?_
    refine mv rfl ?_
    refine RO (Body.add rfl rfl (by unfold R64; omega)) ?_
    refine ag rfl ?_
    refine RN ?_
    refine Aq rfl ?_
    refine PK.lp ?_
    refine LP.mk (i + 1) ?_ ?_ (sb rfl rfl rfl)
    · show (i + 1) ≤ List.length o ∧ chkOrdF n o = ordGo n (List.take (i + 1) o) (List.drop (i + 1) o)
      refine ⟨by omega, ?_⟩; rw [hI0.2, drop_at o i 0 (by omega), take_succ_at o i 0 (by omega), ordGo, if_pos]; unfold ordOne; rw [h2, take_any_no (p := fun x => decide (x = List.getD o i 0)) 0 fun m hm => decide_eq_false (hI1.2 m (by omega))]; rfl
    · show List.length o - (i + 1) < List.length o - i
      omega
 ·
  refine At rfl ?_
  refine TK.exit ?_
  refine PK.exit rfl ?_
  refine Ap rfl ?_
  refine NR ⟨[], []⟩ (sb rfl rfl rfl) rfl ?_
  refine ag rfl ?_
  refine RN ?_
  refine Ap rfl ?_
  refine TK.ret ?_
  refine PK.ret ?_
  refine leaf (val0 := vI 0) (by kernel_rfl) ?_
  exact li (by first
          | (rw [hI0.2, drop_at o i 0 (by omega), ordGo, if_neg] <;> (unfold ordOne; rw [h2]) <;> first | rfl | (intro h; cases h))
          | (rw [hI0.2, drop_at o i 0 (by omega), ordGo, if_neg] <;> (unfold ordOne; rw [h2, take_any_yes (p := fun x => decide (x = List.getD o i 0)) (z := 0) (m := j) (by omega) (by omega) (decide_eq_true h4)]) <;> first | rfl | (intro h; cases h))
          | (rw [hI0.2, List.drop_eq_nil_of_le (by omega)]; rfl))
theorem w110 (start : Int) (W : List Int) (t : Tgt) (b : Int) (h : 0 ≤ t.from_ ∧ 1 ≤ t.length ∧ t.length ≤ 1440 ∧ -1000000 ≤ b ∧ b ≤ 1000000 ∧ W.length ≤ 1000) : CallOk Tryz.prog 110 [.pv (.agg [pI start, pL eI W]), .pv (.agg [pS (Tgt.name t), pI (Tgt.bright t), pI (Tgt.place t), pI (Tgt.length t), pI (Tgt.from_ t), pI (Tgt.to t), pI (Tgt.limit t)]), vI b] (lookM []) (vB (canF W t b)) [] := by
 haveI := tab_ok
 obtain ⟨fn, f1, f2, f3, f4, _, f6⟩ := qf110
 refine callOk_of (Y := tab) (F := fn110) f1 (f2.trans rfl) f3 f4 f6 (Nat.le_of_ble_eq_true rfl) rfl ?_
 clear f1 f2 f3 f4 f6
 show TK _ _ _ _ _ _ ⟨[(0, .pv (.agg [pI start, pL eI W])), (1, .pv (.agg [pS (Tgt.name t), pI (Tgt.bright t), pI (Tgt.place t), pI (Tgt.length t), pI (Tgt.from_ t), pI (Tgt.to t), pI (Tgt.limit t)])), (2, vI b)], []⟩
 refine At rfl ?_
 refine NR ⟨[(0, .pv (.agg [pI start, pL eI W])), (1, .pv (.agg [pS (Tgt.name t), pI (Tgt.bright t), pI (Tgt.place t), pI (Tgt.length t), pI (Tgt.from_ t), pI (Tgt.to t), pI (Tgt.limit t)])), (2, vI b)], []⟩ (sb rfl rfl rfl) rfl ?_
 refine rn rfl ?_
 refine rn rfl ?_
 refine ag rfl ?_
 refine RN ?_
 refine Ap rfl ?_
 refine NR ⟨[(2, vI b), (3, .bref 4 0), (4, .bref 5 0)], [(4, .box 26 [vI start, vL eI W]), (5, .box 49 [vS (Tgt.name t), vI (Tgt.bright t), vI (Tgt.place t), vI (Tgt.length t), vI (Tgt.from_ t), vI (Tgt.to t), vI (Tgt.limit t)])]⟩ (sb rfl rfl rfl) rfl ?_
 refine mv rfl ?_
 refine RO (Body.fadB rfl fa49_4 rfl) ?_
 refine RO (Body.loadB rfl rfl rfl ag3 sz3 rfl) ?_
 refine RO (Body.lss rfl rfl) ?_
 refine mv rfl ?_
 refine RG.cons (EfR.sym rfl (fun hc => Body.move rfl) rfl) ?_
 refine RG.cons (EfR.sym rfl (fun hc => Body.fadB rfl fa49_3 rfl) rfl) ?_
 refine RG.cons (EfR.sym rfl (fun hc => Body.loadB (ev1_gd rfl hc) rfl rfl ag3 sz3 rfl) rfl) ?_
 refine RG.cons (EfR.sym rfl (fun hc => Body.add (ev1_gd rfl hc) (ev1_gd rfl hc) (by unfold R64; omega)) rfl) ?_
 refine RG.cons (EfR.sym rfl (fun hc => Body.fadB rfl fa49_5 rfl) rfl) ?_
 refine RG.cons (EfR.sym rfl (fun hc => Body.loadB (ev1_gd rfl hc) rfl rfl ag3 sz3 rfl) rfl) ?_
 refine RG.cons (EfR.sym rfl (fun hc => Body.gtr (ev1_gd rfl hc) (ev1_gd rfl hc)) rfl) ?_
 refine RO (Body.pick rfl rfl rfl rfl (gdB rfl) (pick_or _)) ?_
 refine mv rfl ?_
 refine RG.cons (EfR.sym rfl (fun hc => Body.move rfl) rfl) ?_
 refine RG.cons (EfR.sym rfl (fun hc => Body.fadB rfl fa49_3 rfl) rfl) ?_
 refine RG.cons (EfR.sym rfl (fun hc => Body.loadB (ev1_gd rfl hc) rfl rfl ag3 sz3 rfl) rfl) ?_
 refine RG.cons (EfR.sym rfl (fun hc => Body.add (ev1_gd rfl hc) (ev1_gd rfl hc) (by unfold R64; omega)) rfl) ?_
 refine RG.cons (EfR.sym rfl (fun hc => Body.fadB rfl fa26_1 rfl) rfl) ?_
 refine RG.cons (EfR.sym rfl (fun hc => Body.loadB (ev1_gd rfl hc) rfl rfl ag22 sz22 rfl) rfl) ?_
 refine RG.cons (EfR.sym rfl (fun hc => Body.lenL (ev1_gd rfl hc) un22) rfl) ?_
 refine RG.cons (EfR.sym rfl (fun hc => Body.mul rfl (ev1_gd rfl hc) (by unfold R64; omega)) rfl) ?_
 refine RG.cons (EfR.sym rfl (fun hc => Body.gtr (ev1_gd rfl hc) (ev1_gd rfl hc)) rfl) ?_
 refine RO (Body.pick rfl rfl rfl rfl (gdB rfl) (pick_or _)) ?_
 refine RN ?_
 refine Ap rfl ?_
 refine TK.norm ⟨[(2, vI b), (3, .bref 4 0), (4, .bref 5 0), (31, vB (bif (bif (decide (b < (Tgt.from_ t))) then true else (decide ((Tgt.to t) < (b + (Tgt.length t))))) then true else (decide ((60 * ((List.length W : Nat) : Int)) < (b + (Tgt.length t))))))], [(4, .box 26 [vI start, vL eI W]), (5, .box 49 [vS (Tgt.name t), vI (Tgt.bright t), vI (Tgt.place t), vI (Tgt.length t), vI (Tgt.from_ t), vI (Tgt.to t), vI (Tgt.limit t)])]⟩ (sb rfl rfl rfl) ?_
 refine TK.cond rfl (fun h1 => ?_) (fun h1 => ?_)
 ·
  refine At rfl ?_
  refine NR ⟨[], []⟩ (sb rfl rfl rfl) rfl ?_
  refine ag rfl ?_
  refine RN ?_
  refine Ap rfl ?_
  refine TK.ret ?_
  refine PK.ret ?_
  refine leaf (val0 := vB false) (by kernel_rfl) ?_
  exact lb (by unfold canF; first
          | (simp only [bif_or, Bool.or_eq_true, decide_eq_true_eq] at h1
             rcases h1 with (h1 | h1) | h1
             · rw [decide_eq_true h1]; rfl
             · rw [decide_eq_true h1]; simp
             · rw [decide_eq_true h1]; simp)
          | (rw [calmM_no m (by omega) (by omega) h3]; simp)
          | (rw [calmM_yes fun i hi hi2 => hI0.2.2.2.2.2 i hi (by omega), decide_eq_false (by omega), decide_eq_false (by omega), decide_eq_false (by omega)]; rfl))
 ·
  refine At rfl ?_
  refine NR ⟨[(2, vI b), (3, .bref 4 0), (4, .bref 5 0)], [(4, .box 26 [vI start, vL eI W]), (5, .box 49 [vS (Tgt.name t), vI (Tgt.bright t), vI (Tgt.place t), vI (Tgt.length t), vI (Tgt.from_ t), vI (Tgt.to t), vI (Tgt.limit t)])]⟩ (sb rfl rfl rfl) rfl ?_
  refine mv rfl ?_
  refine ag rfl ?_
  refine RN ?_
  refine Ap rfl ?_
  refine TK.loop (α := Int) (fun x => ⟨[(2, vI b), (3, .bref 4 0), (4, .bref 5 0), (7, vI x)], [(4, .box 26 [vI start, vL eI W]), (5, .box 49 [vS (Tgt.name t), vI (Tgt.bright t), vI (Tgt.place t), vI (Tgt.length t), vI (Tgt.from_ t), vI (Tgt.to t), vI (Tgt.limit t)])]⟩) (fun x => b ≤ x ∧ x ≤ b + t.length ∧ t.from_ ≤ b ∧ b + t.length ≤ t.to ∧ b + t.length ≤ 60 * (List.length W : Int) ∧ ∀ i, b ≤ i → i < x → List.getD W (i / 60).toNat 0 ≤ t.limit) (fun x => (b + t.length - x).toNat) b ?_ (sb rfl rfl rfl) ?_
  · show b ≤ b ∧ b ≤ b + t.length ∧ t.from_ ≤ b ∧ b + t.length ≤ t.to ∧ b + t.length ≤ 60 * (List.length W : Int) ∧ ∀ i, b ≤ i → i < b → List.getD W (i / 60).toNat 0 ≤ t.limit
    simp only [bif_or, Bool.or_eq_false_iff, decide_eq_false_iff_not] at h1; exact ⟨by omega, by omega, by omega, by omega, by omega, fun i hi hi2 => by omega⟩
  rintro m hI0
  replace hI0 : b ≤ m ∧ m ≤ b + t.length ∧ t.from_ ≤ b ∧ b + t.length ≤ t.to ∧ b + t.length ≤ 60 * (List.length W : Int) ∧ ∀ i, b ≤ i → i < m → List.getD W (i / 60).toNat 0 ≤ t.limit := hI0
  show TK _ _ _ _ _ _ ⟨[(2, vI b), (3, .bref 4 0), (4, .bref 5 0), (7, vI m)], [(4, .box 26 [vI start, vL eI W]), (5, .box 49 [vS (Tgt.name t), vI (Tgt.bright t), vI (Tgt.place t), vI (Tgt.length t), vI (Tgt.from_ t), vI (Tgt.to t), vI (Tgt.limit t)])]⟩
  refine At rfl ?_
  refine NR ⟨[(2, vI b), (3, .bref 4 0), (4, .bref 5 0), (7, vI m)], [(4, .box 26 [vI start, vL eI W]), (5, .box 49 [vS (Tgt.name t), vI (Tgt.bright t), vI (Tgt.place t), vI (Tgt.length t), vI (Tgt.from_ t), vI (Tgt.to t), vI (Tgt.limit t)])]⟩ (sb rfl rfl rfl) rfl ?_
  refine mv rfl ?_
  refine mv rfl ?_
  refine RO (Body.fadB rfl fa49_3 rfl) ?_
  refine RO (Body.loadB rfl rfl rfl ag3 sz3 rfl) ?_
  refine RO (Body.add rfl rfl (by unfold R64; omega)) ?_
  refine RO (Body.lss rfl rfl) ?_
  refine RN ?_
  refine Ap rfl ?_
  refine TK.norm ⟨[(2, vI b), (3, .bref 4 0), (4, .bref 5 0), (7, vI m), (38, vB (decide (m < (b + (Tgt.length t)))))], [(4, .box 26 [vI start, vL eI W]), (5, .box 49 [vS (Tgt.name t), vI (Tgt.bright t), vI (Tgt.place t), vI (Tgt.length t), vI (Tgt.from_ t), vI (Tgt.to t), vI (Tgt.limit t)])]⟩ (sb rfl rfl rfl) ?_
  refine TK.condP rfl (fun h2 => ?_) (fun h2 => ?_)
  ·
   refine At rfl ?_
   refine NR ⟨[(2, vI b), (3, .bref 4 0), (4, .bref 5 0), (7, vI m)], [(4, .box 26 [vI start, vL eI W]), (5, .box 49 [vS (Tgt.name t), vI (Tgt.bright t), vI (Tgt.place t), vI (Tgt.length t), vI (Tgt.from_ t), vI (Tgt.to t), vI (Tgt.limit t)])]⟩ (sb rfl rfl rfl) rfl ?_
   refine RO (Body.fadB rfl fa26_1 rfl) ?_
   refine RO (Body.loadB rfl rfl rfl ag22 sz22 rfl) ?_
   refine mv rfl ?_
   refine RO (Body.quoN rfl rfl (by omega) (by decide) (by unfold R64; omega)) ?_
   refine RO (Body.idx (z := 0) (i := (Int.toNat (m / 60))) rfl rfl un22 sz3 (fun _ => rfl) (Int.toNat_of_nonneg (by omega)).symm (by omega)) ?_
   refine RO (Body.loadP rfl ag3 sz3) ?_
   refine RO (Body.fadB rfl fa49_6 rfl) ?_
   refine RO (Body.loadB rfl rfl rfl ag3 sz3 rfl) ?_
   refine RO (Body.gtr rfl rfl) ?_
   refine RG.nil (fun _ => by kernel_rfl) ?_
   refine Ap rfl ?_
   refine TK.norm ⟨[(2, vI b), (3, .bref 4 0), (4, .bref 5 0), (7, vI m), (49, vB (decide ((Tgt.limit t) < (List.getD W (Int.toNat (m / 60)) 0))))], [(4, .box 26 [vI start, vL eI W]), (5, .box 49 [vS (Tgt.name t), vI (Tgt.bright t), vI (Tgt.place t), vI (Tgt.length t), vI (Tgt.from_ t), vI (Tgt.to t), vI (Tgt.limit t)])]⟩ (sb rfl rfl rfl) ?_
   refine TK.condP rfl (fun h3 => ?_) (fun h3 => ?_)
   ·
    refine At rfl ?_
    refine NR ⟨[], []⟩ (sb rfl rfl rfl) rfl ?_
    refine ag rfl ?_
    refine RN ?_
    refine Ap rfl ?_
    refine TK.ret ?_
    refine PK.ret ?_
    refine leaf (val0 := vB false) (by kernel_rfl) ?_
    exact lb (by unfold canF; first
          | (simp only [bif_or, Bool.or_eq_true, decide_eq_true_eq] at h1
             rcases h1 with (h1 | h1) | h1
             · rw [decide_eq_true h1]; rfl
             · rw [decide_eq_true h1]; simp
             · rw [decide_eq_true h1]; simp)
          | (rw [calmM_no m (by omega) (by omega) h3]; simp)
          | (rw [calmM_yes fun i hi hi2 => hI0.2.2.2.2.2 i hi (by omega), decide_eq_false (by omega), decide_eq_false (by omega), decide_eq_false (by omega)]; rfl))
   ·
    refine At rfl ?_
    refine NR ⟨[(2, vI b), (3, .bref 4 0), (4, .bref 5 0), (7, vI m)], [(4, .box 26 [vI start, vL eI W]), (5, .box 49 [vS (Tgt.name t), vI (Tgt.bright t), vI (Tgt.place t), vI (Tgt.length t), vI (Tgt.from_ t), vI (Tgt.to t), vI (Tgt.limit t)])]⟩ (sb rfl rfl rfl) rfl ?_
    refine mv rfl ?_
    refine RO (Body.add rfl rfl (by unfold R64; omega)) ?_
    refine ag rfl ?_
    refine RN ?_
    refine Aq rfl ?_
    refine PK.lp ?_
    refine LP.mk (m + 1) ?_ ?_ (sb rfl rfl rfl)
    · show b ≤ (m + 1) ∧ (m + 1) ≤ b + t.length ∧ t.from_ ≤ b ∧ b + t.length ≤ t.to ∧ b + t.length ≤ 60 * (List.length W : Int) ∧ ∀ i, b ≤ i → i < (m + 1) → List.getD W (i / 60).toNat 0 ≤ t.limit
      refine ⟨by omega, by omega, by omega, by omega, by omega, fun i hi hi2 => ?_⟩; rcases Int.lt_or_eq_of_le (Int.le_of_lt_add_one hi2) with h9 | h9; exact hI0.2.2.2.2.2 i hi h9; subst h9; omega
    · show (b + t.length - (m + 1)).toNat < (b + t.length - m).toNat
      omega
  ·
   refine At rfl ?_
   refine TK.exit ?_
   refine PK.exit rfl ?_
   refine Ap rfl ?_
   refine NR ⟨[], []⟩ (sb rfl rfl rfl) rfl ?_
   refine ag rfl ?_
   refine RN ?_
   refine Ap rfl ?_
   refine TK.ret ?_
   refine PK.ret ?_
   refine leaf (val0 := vB true) (by kernel_rfl) ?_
   exact lb (by unfold canF; first
          | (simp only [bif_or, Bool.or_eq_true, decide_eq_true_eq] at h1
             rcases h1 with (h1 | h1) | h1
             · rw [decide_eq_true h1]; rfl
             · rw [decide_eq_true h1]; simp
             · rw [decide_eq_true h1]; simp)
          | (rw [calmM_no m (by omega) (by omega) h3]; simp)
          | (rw [calmM_yes fun i hi hi2 => hI0.2.2.2.2.2 i hi (by omega), decide_eq_false (by omega), decide_eq_false (by omega), decide_eq_false (by omega)]; rfl))
theorem w31 (start : Int) (W : List Int) (t : Tgt) (e : Int) (h : 0 ≤ t.from_ ∧ 1 ≤ t.length ∧ t.length ≤ 1440 ∧ -1000000 ≤ e ∧ e ≤ 1000000 ∧ W.length ≤ 1000) : CallOk Tryz.prog 31 [.pv (.agg [pI start, pL eI W]), .pv (.agg [pS (Tgt.name t), pI (Tgt.bright t), pI (Tgt.place t), pI (Tgt.length t), pI (Tgt.from_ t), pI (Tgt.to t), pI (Tgt.limit t)]), vI e] (lookM []) (vI (begF W t e)) [] := by
 haveI := tab_ok
 obtain ⟨fn, f1, f2, f3, f4, _, f6⟩ := qf31
 refine callOk_of (Y := tab) (F := fn31) f1 (f2.trans rfl) f3 f4 f6 (Nat.le_of_ble_eq_true rfl) rfl ?_
 clear f1 f2 f3 f4 f6
 show TK _ _ _ _ _ _ ⟨[(0, .pv (.agg [pI start, pL eI W])), (1, .pv (.agg [pS (Tgt.name t), pI (Tgt.bright t), pI (Tgt.place t), pI (Tgt.length t), pI (Tgt.from_ t), pI (Tgt.to t), pI (Tgt.limit t)])), (2, vI e)], []⟩
 refine At rfl ?_
 refine NR ⟨[(0, .pv (.agg [pI start, pL eI W])), (1, .pv (.agg [pS (Tgt.name t), pI (Tgt.bright t), pI (Tgt.place t), pI (Tgt.length t), pI (Tgt.from_ t), pI (Tgt.to t), pI (Tgt.limit t)])), (2, vI e)], []⟩ (sb rfl rfl rfl) rfl ?_
 refine rn rfl ?_
 refine rn rfl ?_
 refine ag rfl ?_
 refine RN ?_
 refine Ap rfl ?_
 refine NR ⟨[(2, vI e), (3, .bref 4 0), (4, .bref 5 0)], [(4, .box 26 [vI start, vL eI W]), (5, .box 49 [vS (Tgt.name t), vI (Tgt.bright t), vI (Tgt.place t), vI (Tgt.length t), vI (Tgt.from_ t), vI (Tgt.to t), vI (Tgt.limit t)])]⟩ (sb rfl rfl rfl) rfl ?_
 refine mv rfl ?_
 refine ag rfl ?_
 refine RN ?_
 refine Ap rfl ?_
 refine TK.loop (α := Int) (fun x => ⟨[(3, .bref 4 0), (4, .bref 5 0), (7, vI x)], [(4, .box 26 [vI start, vL eI W]), (5, .box 49 [vS (Tgt.name t), vI (Tgt.bright t), vI (Tgt.place t), vI (Tgt.length t), vI (Tgt.from_ t), vI (Tgt.to t), vI (Tgt.limit t)])]⟩) (fun x => e ≤ x ∧ x ≤ 1000000 ∧ ∀ i, e ≤ i → i < x → canF W t i = false) (fun x => (1441 - x).toNat) e ?_ (sb rfl rfl rfl) ?_
 · show e ≤ e ∧ e ≤ 1000000 ∧ ∀ i, e ≤ i → i < e → canF W t i = false
   exact ⟨by omega, by omega, fun i hi hi2 => by omega⟩
 rintro b hI0
 replace hI0 : e ≤ b ∧ b ≤ 1000000 ∧ ∀ i, e ≤ i → i < b → canF W t i = false := hI0
 show TK _ _ _ _ _ _ ⟨[(3, .bref 4 0), (4, .bref 5 0), (7, vI b)], [(4, .box 26 [vI start, vL eI W]), (5, .box 49 [vS (Tgt.name t), vI (Tgt.bright t), vI (Tgt.place t), vI (Tgt.length t), vI (Tgt.from_ t), vI (Tgt.to t), vI (Tgt.limit t)])]⟩
 refine At rfl ?_
 refine NR ⟨[(3, .bref 4 0), (4, .bref 5 0), (7, vI b)], [(4, .box 26 [vI start, vL eI W]), (5, .box 49 [vS (Tgt.name t), vI (Tgt.bright t), vI (Tgt.place t), vI (Tgt.length t), vI (Tgt.from_ t), vI (Tgt.to t), vI (Tgt.limit t)])]⟩ (sb rfl rfl rfl) rfl ?_
 refine mv rfl ?_
 refine RO (Body.leq rfl rfl) ?_
 refine RN ?_
 refine Ap rfl ?_
 refine TK.norm ⟨[(3, .bref 4 0), (4, .bref 5 0), (7, vI b), (10, vB (decide (b ≤ 1440)))], [(4, .box 26 [vI start, vL eI W]), (5, .box 49 [vS (Tgt.name t), vI (Tgt.bright t), vI (Tgt.place t), vI (Tgt.length t), vI (Tgt.from_ t), vI (Tgt.to t), vI (Tgt.limit t)])]⟩ (sb rfl rfl rfl) ?_
 refine TK.condP rfl (fun h1 => ?_) (fun h1 => ?_)
 ·
  refine At rfl ?_
  refine NR ⟨[(3, .bref 4 0), (4, .bref 5 0), (7, vI b)], [(4, .box 26 [vI start, vL eI W]), (5, .box 49 [vS (Tgt.name t), vI (Tgt.bright t), vI (Tgt.place t), vI (Tgt.length t), vI (Tgt.from_ t), vI (Tgt.to t), vI (Tgt.limit t)])]⟩ (sb rfl rfl rfl) rfl ?_
  refine RO (Body.loadBA rfl rfl rfl ag26 sz26 rfl rfl) ?_
  refine RO (Body.loadBA rfl rfl rfl ag49 sz49 rfl rfl) ?_
  refine mv rfl ?_
  refine RO (Body.call (w110 start W t b (by omega)) rfl rfl rfl) ?_
  refine RN ?_
  refine Ap rfl ?_
  refine TK.norm ⟨[(3, .bref 4 0), (4, .bref 5 0), (7, vI b), (16, vB (canF W t b))], [(4, .box 26 [vI start, vL eI W]), (5, .box 49 [vS (Tgt.name t), vI (Tgt.bright t), vI (Tgt.place t), vI (Tgt.length t), vI (Tgt.from_ t), vI (Tgt.to t), vI (Tgt.limit t)])]⟩ (sb rfl rfl rfl) ?_
  refine TK.cond rfl (fun h2 => ?_) (fun h2 => ?_)
  ·
   refine At rfl ?_
   refine NR ⟨[(7, vI b)], []⟩ (sb rfl rfl rfl) rfl ?_
   refine mv rfl ?_
   refine ag rfl ?_
   refine RN ?_
   refine Ap rfl ?_
   refine TK.ret ?_
   refine PK.ret ?_
   refine leaf (val0 := vI b) (by kernel_rfl) ?_
   exact li (by unfold begF; first
          | exact (searchF_some hI0.1 (by omega) hI0.2.2 h2).symm
          | exact (searchF_none fun i hi hi2 => hI0.2.2 i hi (by omega)).symm)
  ·
   refine At rfl ?_
   refine NR ⟨[(3, .bref 4 0), (4, .bref 5 0), (7, vI b)], [(4, .box 26 [vI start, vL eI W]), (5, .box 49 [vS (Tgt.name t), vI (Tgt.bright t), vI (Tgt.place t), vI (Tgt.length t), vI (Tgt.from_ t), vI (Tgt.to t), vI (Tgt.limit t)])]⟩ (sb rfl rfl rfl) rfl ?_
   refine mv rfl ?_
   refine RO (Body.add rfl rfl (by unfold R64; omega)) ?_
   refine ag rfl ?_
   refine RN ?_
   refine Aq rfl ?_
   refine PK.lp ?_
   refine LP.mk (b + 1) ?_ ?_ (sb rfl rfl rfl)
   · show e ≤ (b + 1) ∧ (b + 1) ≤ 1000000 ∧ ∀ i, e ≤ i → i < (b + 1) → canF W t i = false
     refine ⟨by omega, by omega, fun i hi hi2 => ?_⟩; rcases Int.lt_or_eq_of_le (Int.le_of_lt_add_one hi2) with h9 | h9; exact hI0.2.2 i hi h9; subst h9; assumption
   · show (1441 - (b + 1)).toNat < (1441 - b).toNat
     omega
 ·
  refine At rfl ?_
  refine TK.exit ?_
  refine PK.exit rfl ?_
  refine Ap rfl ?_
  refine NR ⟨[], []⟩ (sb rfl rfl rfl) rfl ?_
  refine ag rfl ?_
  refine RN ?_
  refine Ap rfl ?_
  refine TK.ret ?_
  refine PK.ret ?_
  refine leaf (val0 := vI (-1)) (by kernel_rfl) ?_
  exact li (by unfold begF; first
          | exact (searchF_some hI0.1 (by omega) hI0.2.2 h2).symm
          | exact (searchF_none fun i hi hi2 => hI0.2.2 i hi (by omega)).symm)
theorem w17 (start : Int) (W : List Int) : CallOk Tryz.prog 17 [.pv (.agg [pI start, pL eI W])] (lookM []) (vB (shortN W)) [] := by
 haveI := tab_ok
 obtain ⟨fn, f1, f2, f3, f4, _, f6⟩ := qf17
 refine callOk_of (Y := tab) (F := fn17) f1 (f2.trans rfl) f3 f4 f6 (Nat.le_of_ble_eq_true rfl) rfl ?_
 clear f1 f2 f3 f4 f6
 show TK _ _ _ _ _ _ ⟨[(0, .pv (.agg [pI start, pL eI W]))], []⟩
 refine At rfl ?_
 refine NR ⟨[(0, .pv (.agg [pI start, pL eI W]))], []⟩ (sb rfl rfl rfl) rfl ?_
 refine rn rfl ?_
 refine ag rfl ?_
 refine RN ?_
 refine Ap rfl ?_
 refine NR ⟨[(1, .bref 2 0)], [(2, .box 26 [vI start, vL eI W])]⟩ (sb rfl rfl rfl) rfl ?_
 refine RO (Body.fadB rfl fa26_1 rfl) ?_
 refine RO (Body.loadB rfl rfl rfl ag22 sz22 rfl) ?_
 refine RO (Body.lenL rfl un22) ?_
 refine RO (Body.leq rfl rfl) ?_
 refine mv rfl ?_
 refine RG.cons (EfR.sym rfl (fun hc => Body.fadB rfl fa26_1 rfl) rfl) ?_
 refine RG.cons (EfR.sym rfl (fun hc => Body.loadB (ev1_gd rfl hc) rfl rfl ag22 sz22 rfl) rfl) ?_
 refine RG.cons (EfR.sym rfl (fun hc => Body.lenL (ev1_gd rfl hc) un22) rfl) ?_
 refine RG.cons (EfR.sym rfl (fun hc => Body.gtr (ev1_gd rfl hc) rfl) rfl) ?_
 refine RG.cons (EfR.sym rfl (fun hc => Body.move (ev1_gd rfl hc)) rfl) ?_
 refine RG.cons (EfR.sym rfl (fun hc => Body.fadB rfl fa26_1 rfl) rfl) ?_
 refine RG.cons (EfR.sym rfl (fun hc => Body.loadB (ev1_gd rfl hc) rfl rfl ag22 sz22 rfl) rfl) ?_
 refine RG.cons (EfR.sym rfl (fun hc => Body.lenL (ev1_gd rfl hc) un22) rfl) ?_
 refine RG.cons (EfR.sym rfl (fun hc => Body.leq (ev1_gd rfl hc) rfl) rfl) ?_
 refine RG.cons (EfR.sym rfl (fun hc => Body.pick (ev1_gd rfl hc) rfl rfl (gdB rfl) rfl (pick_and2 hc)) rfl) ?_
 refine RO (Body.pick rfl rfl rfl rfl (gdB rfl) (pick_or _)) ?_
 refine ag rfl ?_
 refine RN ?_
 refine Ap rfl ?_
 refine TK.ret ?_
 refine PK.ret ?_
 refine leaf (val0 := vB (bif (decide (((List.length W : Nat) : Int) ≤ 6)) then true else (bif (decide (24 < ((List.length W : Nat) : Int))) then (decide (((List.length W : Nat) : Int) ≤ 26)) else false))) (by kernel_rfl) ?_
 exact lb (by simp only [shortN, bif_or, bif_and])
theorem w18 (l : List Tgt) (k limit : Int) (hl : l.length ≤ 1000000000000000) : CallOk Tryz.prog 18 [vL eT l, vI k, vI limit] (lookM []) (vB (shortT l k limit)) [] := by
 haveI := tab_ok
 obtain ⟨fn, f1, f2, f3, f4, _, f6⟩ := qf18
 refine callOk_of (Y := tab) (F := fn18) f1 (f2.trans rfl) f3 f4 f6 (Nat.le_of_ble_eq_true rfl) rfl ?_
 clear f1 f2 f3 f4 f6
 show TK _ _ _ _ _ _ ⟨[(0, vL eT l), (1, vI k), (2, vI limit)], []⟩
 refine At rfl ?_
 refine NR ⟨[(0, vL eT l), (1, vI k), (2, vI limit)], []⟩ (sb rfl rfl rfl) rfl ?_
 refine ag rfl ?_
 refine RN ?_
 refine Ap rfl ?_
 refine NR ⟨[(0, vL eT l), (1, vI k), (2, vI limit)], []⟩ (sb rfl rfl rfl) rfl ?_
 refine mv rfl ?_
 refine RO (Body.lenL rfl un27) ?_
 refine mv rfl ?_
 refine RO (Body.gtr rfl rfl) ?_
 refine mv rfl ?_
 refine RG.cons (EfR.sym rfl (fun hc => Body.move rfl) rfl) ?_
 refine RG.cons (EfR.sym rfl (fun hc => Body.lenL (ev1_gd rfl hc) un27) rfl) ?_
 refine RG.cons (EfR.sym rfl (fun hc => Body.move rfl) rfl) ?_
 refine RG.cons (EfR.sym rfl (fun hc => Body.leq (ev1_gd rfl hc) (ev1_gd rfl hc)) rfl) ?_
 refine RO (Body.pick rfl rfl rfl (gdB rfl) rfl (pick_and _)) ?_
 refine mv rfl ?_
 refine RG.cons (EfR.sym rfl (fun hc => Body.move rfl) rfl) ?_
 refine RG.cons (EfR.sym rfl (fun hc => Body.lenL (ev1_gd rfl hc) un27) rfl) ?_
 refine RG.cons (EfR.sym rfl (fun hc => Body.gtr (ev1_gd rfl hc) rfl) rfl) ?_
 refine RO (Body.pick rfl rfl rfl rfl (gdB rfl) (pick_or _)) ?_
 refine RN ?_
 refine Ap rfl ?_
 refine TK.norm ⟨[(0, vL eT l), (22, vB (bif (bif (decide (k < ((List.length l : Nat) : Int))) then (decide (((List.length l : Nat) : Int) ≤ limit)) else false) then true else (decide (34 < ((List.length l : Nat) : Int)))))], []⟩ (sb rfl rfl rfl) ?_
 refine TK.cond rfl (fun h1 => ?_) (fun h1 => ?_)
 ·
  refine At rfl ?_
  refine NR ⟨[], []⟩ (sb rfl rfl rfl) rfl ?_
  refine ag rfl ?_
  refine RN ?_
  refine Ap rfl ?_
  refine TK.ret ?_
  refine PK.ret ?_
  refine leaf (val0 := vB false) (by kernel_rfl) ?_
  exact lb (by unfold shortT; simp only [bif_or, bif_and] at h1; rw [h1]; first | rfl | (rw [all_getD_no (p := fun t => decide (ByteArray.size (Tgt.name t) ≤ 40)) (z := default) (k := i) (by omega) (decide_eq_false (by omega))]; rfl) | (rw [all_getD_yes (p := fun t => decide (ByteArray.size (Tgt.name t) ≤ 40)) default fun j hj => decide_eq_true (by have := hI0.2 j (by omega); omega)]; rfl))
 ·
  refine At rfl ?_
  refine NR ⟨[(0, vL eT l)], []⟩ (sb rfl rfl rfl) rfl ?_
  refine ag rfl ?_
  refine RN ?_
  refine Ap rfl ?_
  refine TK.loop (α := Nat) (fun x => ⟨[(0, vL eT l), (7, vI ((x : Nat) : Int))], []⟩) (fun x => x ≤ List.length l ∧ ∀ j, j < x → ¬ (40 < ((ByteArray.size (Tgt.name (List.getD l j default)) : Nat) : Int))) (fun x => List.length l - x) 0 ?_ (sb rfl rfl rfl) ?_
  · show 0 ≤ List.length l ∧ ∀ j, j < 0 → ¬ (40 < ((ByteArray.size (Tgt.name (List.getD l j default)) : Nat) : Int))
    exact ⟨Nat.zero_le _, fun j hj => by omega⟩
  rintro i hI0
  replace hI0 : i ≤ List.length l ∧ ∀ j, j < i → ¬ (40 < ((ByteArray.size (Tgt.name (List.getD l j default)) : Nat) : Int)) := hI0
  show TK _ _ _ _ _ _ ⟨[(0, vL eT l), (7, vI ((i : Nat) : Int))], []⟩
  refine At rfl ?_
  refine NR ⟨[(0, vL eT l), (7, vI ((i : Nat) : Int))], []⟩ (sb rfl rfl rfl) rfl ?_
  refine mv rfl ?_
  refine mv rfl ?_
  refine RO (Body.lenL rfl un27) ?_
  refine RO (Body.lss rfl rfl) ?_
  refine RN ?_
  refine Ap rfl ?_
  refine TK.norm ⟨[(0, vL eT l), (7, vI ((i : Nat) : Int)), (26, vB (decide (((i : Nat) : Int) < ((List.length l : Nat) : Int))))], []⟩ (sb rfl rfl rfl) ?_
  refine TK.condP rfl (fun h2 => ?_) (fun h2 => ?_)
  ·
   refine At rfl ?_
   refine NR ⟨[(0, vL eT l), (7, vI ((i : Nat) : Int))], []⟩ (sb rfl rfl rfl) rfl ?_
   refine mv rfl ?_
   refine mv rfl ?_
   refine RO (Body.idx (z := default) (i := i) rfl rfl un27 sz49 (fun _ => rfl) rfl (by omega)) ?_
   refine RO (Body.fadP rfl fa49_0 rfl) ?_
   refine RO (Body.loadP rfl ag9 sz9) ?_
   refine RO (Body.lenS rfl un9) ?_
   refine RO (Body.gtr rfl rfl) ?_
   refine RN ?_
   refine Ap rfl ?_
   refine TK.norm ⟨[(0, vL eT l), (7, vI ((i : Nat) : Int)), (35, vB (decide (40 < ((ByteArray.size (Tgt.name (List.getD l i default)) : Nat) : Int))))], []⟩ (sb rfl rfl rfl) ?_
   refine TK.condP rfl (fun h3 => ?_) (fun h3 => ?_)
   ·
    refine At rfl ?_
    refine NR ⟨[], []⟩ (sb rfl rfl rfl) rfl ?_
    refine ag rfl ?_
    refine RN ?_
    refine Ap rfl ?_
    refine TK.ret ?_
    refine PK.ret ?_
    refine leaf (val0 := vB false) (by kernel_rfl) ?_
    exact lb (by unfold shortT; simp only [bif_or, bif_and] at h1; rw [h1]; first | rfl | (rw [all_getD_no (p := fun t => decide (ByteArray.size (Tgt.name t) ≤ 40)) (z := default) (k := i) (by omega) (decide_eq_false (by omega))]; rfl) | (rw [all_getD_yes (p := fun t => decide (ByteArray.size (Tgt.name t) ≤ 40)) default fun j hj => decide_eq_true (by have := hI0.2 j (by omega); omega)]; rfl))
   ·
    refine At rfl ?_
    refine NR ⟨[(0, vL eT l), (7, vI ((i : Nat) : Int))], []⟩ (sb rfl rfl rfl) rfl ?_
    refine mv rfl ?_
    refine RO (Body.add rfl rfl (by unfold R64; omega)) ?_
    refine ag rfl ?_
    refine RN ?_
    refine Aq rfl ?_
    refine PK.lp ?_
    refine LP.mk (i + 1) ?_ ?_ (sb rfl rfl rfl)
    · show (i + 1) ≤ List.length l ∧ ∀ j, j < (i + 1) → ¬ (40 < ((ByteArray.size (Tgt.name (List.getD l j default)) : Nat) : Int))
      refine ⟨by omega, fun j hj => ?_⟩; rcases Nat.lt_succ_iff_lt_or_eq.1 hj with h | h; exact hI0.2 j h; subst h; assumption
    · show List.length l - (i + 1) < List.length l - i
      omega
  ·
   refine At rfl ?_
   refine TK.exit ?_
   refine PK.exit rfl ?_
   refine Ap rfl ?_
   refine NR ⟨[], []⟩ (sb rfl rfl rfl) rfl ?_
   refine ag rfl ?_
   refine RN ?_
   refine Ap rfl ?_
   refine TK.ret ?_
   refine PK.ret ?_
   refine leaf (val0 := vB true) (by kernel_rfl) ?_
   exact lb (by unfold shortT; simp only [bif_or, bif_and] at h1; rw [h1]; first | rfl | (rw [all_getD_no (p := fun t => decide (ByteArray.size (Tgt.name t) ≤ 40)) (z := default) (k := i) (by omega) (decide_eq_false (by omega))]; rfl) | (rw [all_getD_yes (p := fun t => decide (ByteArray.size (Tgt.name t) ≤ 40)) default fun j hj => decide_eq_true (by have := hI0.2 j (by omega); omega)]; rfl))
theorem w16 (l : List Tgt) (hl : l.length * 64 ≤ 140737488355328) : CallOk Tryz.prog 16 [vL eT l] (lookM []) (vL eT l) [] := by
 haveI := tab_ok
 obtain ⟨fn, f1, f2, f3, f4, _, f6⟩ := qf16
 refine callOk_of (Y := tab) (F := fn16) f1 (f2.trans rfl) f3 f4 f6 (Nat.le_of_ble_eq_true rfl) rfl ?_
 clear f1 f2 f3 f4 f6
 show TK _ _ _ _ _ _ ⟨[(0, vL eT l)], []⟩
 refine At rfl ?_
 refine NR ⟨[(0, vL eT l)], []⟩ (sb rfl rfl rfl) rfl ?_
 refine RO (Body.nilS (enc := eT) rfl) ?_
 refine RN ?_
 refine Ap rfl ?_
 refine NR ⟨[(0, vL eT l)], []⟩ (sb rfl rfl rfl) rfl ?_
 refine RO (Body.adopt 4 7 49 rfl rfl) ?_
 refine RN ?_
 refine Ap rfl ?_
 refine NR ⟨[(0, vL eT l), (3, .aref 4 0)], [(4, .arr 0 7 49 (List.map eT []))]⟩ (sb rfl rfl rfl) rfl ?_
 refine mv rfl ?_
 refine RO (Body.lenL rfl un25) ?_
 refine mv rfl ?_
 refine RN ?_
 refine Ap rfl ?_
 refine TK.loop (α := Nat × Nat × List Tgt) (fun x => ⟨[(3, .aref 4 x.2.1), (6, vL eT l), (7, vI ((List.length l : Nat) : Int)), (8, vI ((x.1 : Nat) : Int))], [(4, .arr x.2.1 7 49 (List.map eT x.2.2))]⟩) (fun x => x.1 ≤ List.length l ∧ x.2.2 = List.take x.1 l) (fun x => List.length l - x.1) (0, 0, []) ?_ (sb rfl rfl rfl) ?_
 · show 0 ≤ List.length l ∧ [] = List.take 0 l
   exact ⟨Nat.zero_le _, rfl⟩
 rintro ⟨k, v, out⟩ hI0
 replace hI0 : k ≤ List.length l ∧ out = List.take k l := hI0
 show TK _ _ _ _ _ _ ⟨[(3, .aref 4 v), (6, vL eT l), (7, vI ((List.length l : Nat) : Int)), (8, vI ((k : Nat) : Int))], [(4, .arr v 7 49 (List.map eT out))]⟩
 refine At rfl ?_
 refine NR ⟨[(3, .aref 4 v), (6, vL eT l), (7, vI ((List.length l : Nat) : Int)), (8, vI ((k : Nat) : Int))], [(4, .arr v 7 49 (List.map eT out))]⟩ (sb rfl rfl rfl) rfl ?_
 refine RO (Body.lss rfl rfl) ?_
 refine RN ?_
 refine Ap rfl ?_
 refine TK.norm ⟨[(3, .aref 4 v), (6, vL eT l), (7, vI ((List.length l : Nat) : Int)), (8, vI ((k : Nat) : Int)), (9, vB (decide (((k : Nat) : Int) < ((List.length l : Nat) : Int))))], [(4, .arr v 7 49 (List.map eT out))]⟩ (sb rfl rfl rfl) ?_
 refine TK.condP rfl (fun h1 => ?_) (fun h1 => ?_)
 ·
  refine At rfl ?_
  refine NR ⟨[(3, .aref 4 v), (6, vL eT l), (7, vI ((List.length l : Nat) : Int)), (8, vI ((k : Nat) : Int))], [(4, .arr v 7 49 (List.map eT out))]⟩ (sb rfl rfl rfl) rfl ?_
  refine RO (Body.idx (z := default) (i := k) rfl rfl un25 sz46 (fun _ => rfl) rfl (by first | omega | (have h8 := congrArg List.length hI0.2; simp only [List.length_take] at h8; simp only [List.length_cons, List.length_nil]; omega))) ?_
  refine RO (Body.loadA (ds := [pS (Tgt.name (List.getD l k default)), pI (Tgt.bright (List.getD l k default)), pI (Tgt.place (List.getD l k default)), pI (Tgt.length (List.getD l k default)), pI (Tgt.from_ (List.getD l k default)), pI (Tgt.to (List.getD l k default)), pI (Tgt.limit (List.getD l k default))]) rfl ag46 sz46 (Nat.le_of_ble_eq_true rfl) rfl) ?_
  refine rn rfl ?_
  refine rn rfl ?_
  refine RN ?_
  refine Ap rfl ?_
  refine NR ⟨[(3, .aref 4 v), (5, .bref 6 0), (6, vL eT l), (7, vI ((List.length l : Nat) : Int)), (8, vI ((k : Nat) : Int))], [(4, .arr v 7 49 (List.map eT out)), (6, .box 46 [vS (Tgt.name (List.getD l k default)), vI (Tgt.bright (List.getD l k default)), vI (Tgt.place (List.getD l k default)), vI (Tgt.length (List.getD l k default)), vI (Tgt.from_ (List.getD l k default)), vI (Tgt.to (List.getD l k default)), vI (Tgt.limit (List.getD l k default))])]⟩ (sb rfl rfl rfl) rfl ?_
  refine rn rfl ?_
  refine RO (Body.loadBA rfl rfl rfl ag46 sz46 rfl rfl) ?_
  refine RO (Body.runZ (val := .pv (.slice (List.map eT [(List.getD l k default)]))) rfl (fun l => Frz.arr l _ _ _ _ _) rfl) ?_
  refine RO (Body.append rfl rfl rfl un27 in49 rfl (fun _ => rfl) by49 (by first | omega | (have h8 := congrArg List.length hI0.2; simp only [List.length_take] at h8; simp only [List.length_cons, List.length_nil]; omega))) ?_
  refine rn rfl ?_
  refine RN ?_
  refine Ap rfl ?_
  refine NR ⟨[(3, .aref 4 (v + 1)), (6, vL eT l), (7, vI ((List.length l : Nat) : Int)), (8, vI ((k : Nat) : Int))], [(4, .arr (v + 1) 7 49 (List.map eT (out ++ [(List.getD l k default)])))]⟩ (sb rfl rfl rfl) rfl ?_
  refine RO (Body.add rfl rfl (by unfold R64; omega)) ?_
  refine mv rfl ?_
  refine RN ?_
  refine Aq rfl ?_
  refine PK.lp ?_
  refine LP.mk ((k + 1), (v + 1), (out ++ [(List.getD l k default)])) ?_ ?_ (sb rfl rfl rfl)
  · show (k + 1) ≤ List.length l ∧ (out ++ [(List.getD l k default)]) = List.take (k + 1) l
    refine ⟨by omega, ?_⟩; rw [hI0.2, take_succ_at l k default (by omega)]
  · show List.length l - (k + 1) < List.length l - k
    omega
 ·
  refine At rfl ?_
  refine TK.exit ?_
  refine PK.exit rfl ?_
  refine Ap rfl ?_
  refine TK.norm ⟨[(3, .aref 4 v)], [(4, .arr v 7 49 (List.map eT out))]⟩ (sb rfl rfl rfl) ?_
  refine TK.frz (t := 3) rfl rfl ?_
  refine NR ⟨[(3, vL eT out)], []⟩ (sb rfl rfl rfl) rfl ?_
  refine mv rfl ?_
  refine ag rfl ?_
  refine RN ?_
  refine Ap rfl ?_
  refine TK.ret ?_
  refine PK.ret ?_
  refine leaf (val0 := vL eT out) (by kernel_rfl) ?_
  exact lsl (by rw [hI0.2, List.take_of_length_le (by omega)])
end Go.Lens.Tb
end
section
namespace Go.Lens.Tb
set_option linter.unusedSectionVars false
theorem searchF_le {p : Int → Bool} : ∀ {n : Nat} {e : Int}, searchF p e n = -1 ∨ (e ≤ searchF p e n ∧ searchF p e n < e + n)
  | 0, e => .inl rfl
  | n + 1, e => by
    simp only [searchF]
    cases p e with
    | true => right; simp only [cond_true]; omega
    | false =>
      simp only [cond_false]
      rcases searchF_le (p := p) (n := n) (e := e + 1) with h | h
      · exact .inl h
      · right; omega
theorem begF_rng (W : List Int) (t : Tgt) (e : Int) : begF W t e = -1 ∨ (e ≤ begF W t e ∧ begF W t e ≤ 1440) := by
  unfold begF
  rcases searchF_le (p := canF W t) (n := (1441 - e).toNat) (e := e) with h | h
  · exact .inl h
  · right; omega
theorem begF_le (W : List Int) (t : Tgt) (e : Int) : begF W t e ≤ 1440 := by
  rcases begF_rng W t e with h | h <;> omega
theorem apartF_comm (a b : Int) : apartF a b = apartF b a := by unfold apartF; omega
abbrev VT (t : Tgt) : Prop := 1 ≤ t.bright ∧ t.bright ≤ 1000 ∧ 0 ≤ t.place ∧ t.place ≤ 360 ∧ 1 ≤ t.length ∧ t.length ≤ 1440 ∧ 0 ≤ t.from_ ∧ t.from_ ≤ 1440 ∧ 0 ≤ t.to ∧ t.to ≤ 1440 ∧ 0 ≤ t.limit ∧ t.limit ≤ 100
abbrev VI (l : List Tgt) (n : Int) : Prop := 0 ≤ n ∧ n < (l.length : Int) ∧ VT (l.getD n.toNat default)
theorem outF_no {n a b : Int} : outF n a b = false ↔ a ≤ n ∧ n ≤ b := by
  simp only [outF, Bool.or_eq_false_iff, decide_eq_false_iff_not]; omega
theorem inRange_VT {t : Tgt} (h : inRangeF t = true) : VT t := by
  simp only [inRangeF, Bool.and_eq_true, Bool.not_eq_true', outF_no] at h
  unfold VT; omega
theorem chkOne_zero {pre : List Tgt} {t : Tgt} (h : chkOne pre t = 0) : isNameF t.name = true ∧ inRangeF t = true := by
  unfold chkOne at h
  cases h1 : isNameF t.name with
  | false => rw [h1] at h; cases h
  | true =>
    rw [h1] at h
    simp only [Bool.not_true, cond_false] at h
    cases h2 : (pre.any fun o => decide (o.name = t.name)) with
    | true => rw [h2] at h; cases h
    | false =>
      rw [h2] at h
      cases h3 : inRangeF t with
      | false => rw [h3] at h; cases h
      | true => exact ⟨rfl, rfl⟩
theorem chkGo_zero : ∀ {l pre : List Tgt}, chkGo pre l = 0 → ∀ t ∈ l, isNameF t.name = true ∧ inRangeF t = true
  | [], _, _, t, ht => by cases ht
  | a :: l, pre, h, t, ht => by
    simp only [chkGo] at h
    split at h
    · rename_i h0
      rcases List.mem_cons.1 ht with rfl | ht
      · exact chkOne_zero h0
      · exact chkGo_zero h t ht
    · rename_i h0; exact absurd h h0
theorem chkTgts_zero {l : List Tgt} (h : chkTgtsF l = 0) : l.length ≤ 32 ∧ ∀ t ∈ l, VT t := by
  unfold chkTgtsF at h
  by_cases hl : 32 < l.length
  · rw [decide_eq_true hl] at h; cases h
  · rw [decide_eq_false hl] at h
    exact ⟨by omega, fun t ht => inRange_VT (chkGo_zero h t ht).2⟩
theorem chkNight_zero {start : Int} {W : List Int} (h : chkNightF start W = 0) : 0 ≤ start ∧ start ≤ 1440 ∧ 1 ≤ W.length ∧ W.length ≤ 24 := by
  unfold chkNightF at h
  cases h1 : outF start 0 1440 with
  | true => rw [h1] at h; cases h
  | false =>
    rw [h1] at h
    by_cases h2 : W.length = 0
    · rw [decide_eq_true h2] at h; cases h
    · rw [decide_eq_false h2] at h
      by_cases h3 : 24 < W.length
      · rw [decide_eq_true h3] at h; cases h
      · have := outF_no.1 h1; omega
theorem getD_mem {α : Type} {l : List α} {k : Nat} {z : α} (h : k < l.length) : l.getD k z ∈ l := by
  rw [List.getD_eq_getElem?_getD, List.getElem?_eq_getElem h]; exact List.getElem_mem h
def prevT (l : List Tgt) (o : List Int) (i : Nat) : Option Tgt := if i = 0 then none else some (l.getD (o.getD (i - 1) 0).toNat default)
def startA (prev : Option Tgt) (t : Tgt) (a : Int) : Int := match prev with | none => a | some p => a + apartF t.place p.place
theorem tlGo_cons (W : List Int) (l : List Tgt) (prev : Option Tgt) (a i : Int) (r : List Int) : tlGo W l prev a (i :: r) =
    if begF W (l.getD i.toNat default) (startA prev (l.getD i.toNat default) a) < 0 then none else
      (tlGo W l (some (l.getD i.toNat default)) (begF W (l.getD i.toNat default) (startA prev (l.getD i.toNat default) a) + (l.getD i.toNat default).length) r).map (begF W (l.getD i.toNat default) (startA prev (l.getD i.toNat default) a) :: ·) := by
  cases prev <;> rfl
theorem tl_step {W : List Int} {l : List Tgt} {o : List Int} {i : Nat} {a b : Int} {out : List Int} (hi : i < o.length) (hb : begF W (l.getD (o.getD i 0).toNat default) (startA (prevT l o i) (l.getD (o.getD i 0).toNat default) a) = b) (h0 : ¬ b < 0) :
    (tlGo W l (prevT l o i) a (o.drop i)).map (fun r => out ++ r) = (tlGo W l (prevT l o (i + 1)) (b + (l.getD (o.getD i 0).toNat default).length) (o.drop (i + 1))).map (fun r => (out ++ [b]) ++ r) := by
  rw [drop_at o i 0 hi, tlGo_cons, hb, if_neg h0, Option.map_map]
  have : prevT l o (i + 1) = some (l.getD (o.getD i 0).toNat default) := by unfold prevT; rw [if_neg (by omega)]; rfl
  rw [this]
  congr 1
  funext r; simp
theorem tl_fail {W : List Int} {l : List Tgt} {o : List Int} {i : Nat} {a b : Int} {out : List Int} (hi : i < o.length) (hb : begF W (l.getD (o.getD i 0).toNat default) (startA (prevT l o i) (l.getD (o.getD i 0).toNat default) a) = b) (h0 : b < 0) :
    (tlGo W l (prevT l o i) a (o.drop i)).map (fun r => out ++ r) = none := by
  rw [drop_at o i 0 hi, tlGo_cons, hb, if_pos h0]; rfl
theorem startA_some {l : List Tgt} {o : List Int} {i : Nat} {t : Tgt} {a : Int} (h : 0 < i) : startA (prevT l o i) t a = a + apartF t.place (l.getD (o.getD (i - 1) 0).toNat default).place := by
  unfold prevT; rw [if_neg (by omega)]; rfl
theorem startA_none {l : List Tgt} {o : List Int} {i : Nat} {t : Tgt} {a : Int} (h : i = 0) : startA (prevT l o i) t a = a := by
  unfold prevT; rw [if_pos h]; rfl
theorem canF_no_from {W : List Int} {t : Tgt} {b : Int} (h : b < t.from_) : canF W t b = false := by unfold canF; rw [decide_eq_true h]; rfl
theorem canF_no_last {W : List Int} {t : Tgt} {b : Int} (h : t.to < b + t.length ∨ 60 * (W.length : Int) < b + t.length) : canF W t b = false := by
  unfold canF
  rcases h with h | h
  · rw [decide_eq_true h]; simp
  · rw [decide_eq_true h]; simp
theorem canF_calm {W : List Int} {t : Tgt} {b : Int} (h1 : t.from_ ≤ b) (h2 : b + t.length ≤ t.to) (h3 : b + t.length ≤ 60 * (W.length : Int)) : canF W t b = calmM W t.limit b t.length.toNat := by
  unfold canF
  rw [decide_eq_false (by omega), decide_eq_false (by omega), decide_eq_false (by omega)]; rfl
theorem calm_hours {W : List Int} {lim b len : Int} (hb : 0 ≤ b) (hl : 1 ≤ len) : calmM W lim b len.toNat = true ↔ ∀ i : Int, b / 60 ≤ i → i < (b + len - 1) / 60 + 1 → W.getD i.toNat 0 ≤ lim := by
  constructor
  · intro h i h1 h2
    unfold calmM at h
    rw [List.all_eq_true] at h
    have hm := h (max b (60 * i) - b).toNat (List.mem_range.2 (by omega))
    have : (b + ((max b (60 * i) - b).toNat : Int)) / 60 = i := by omega
    rw [this] at hm
    exact of_decide_eq_true hm
  · intro h
    exact calmM_yes fun m h1 h2 => h (m / 60) (by omega) (by omega)
end Go.Lens.Tb
end
section
namespace Go.Lens.Tb
open Go.Proofs
variable [Lz]
set_option linter.unusedSectionVars false
set_option maxRecDepth 100000
attribute [local irreducible] TK PK T RG EfR Body
theorem by3 : ty3.info.bytes = 8 := by kernel_rfl
theorem in3 : tab.info? 3 = some ty3.info := by kernel_rfl
theorem w27 (start : Int) (W : List Int) (l : List Tgt) (o : List Int) (h : 0 ≤ start ∧ start ≤ 1440 ∧ W.length ≤ 24 ∧ o.length ≤ 1000000000) (hv : ∀ j, j < o.length → VI l (o.getD j 0)) : CallOk Tryz.prog 27 [.pv (.agg [pI start, pL eI W]), vL eT l, vL eI o] (lookM []) (.tup [vL eI (Option.getD (tlF start W l o) []), vB (Option.isSome (tlF start W l o))]) [] := by
 haveI := tab_ok
 obtain ⟨fn, f1, f2, f3, f4, _, f6⟩ := qf27
 refine callOk_of (Y := tab) (F := fn27) f1 (f2.trans rfl) f3 f4 f6 (Nat.le_of_ble_eq_true rfl) rfl ?_
 clear f1 f2 f3 f4 f6
 show TK _ _ _ _ _ _ ⟨[(0, .pv (.agg [pI start, pL eI W])), (1, vL eT l), (2, vL eI o)], []⟩
 refine At rfl ?_
 refine NR ⟨[(0, .pv (.agg [pI start, pL eI W])), (1, vL eT l), (2, vL eI o)], []⟩ (sb rfl rfl rfl) rfl ?_
 refine rn rfl ?_
 refine RO (Body.nilS (enc := eI) rfl) ?_
 refine ag rfl ?_
 refine RN ?_
 refine Ap rfl ?_
 refine NR ⟨[(1, vL eT l), (2, vL eI o), (3, .bref 4 0)], [(4, .box 26 [vI start, vL eI W])]⟩ (sb rfl rfl rfl) rfl ?_
 refine RO (Body.adopt 9 1 3 rfl rfl) ?_
 refine RN ?_
 refine Ap rfl ?_
 refine NR ⟨[(1, vL eT l), (2, vL eI o), (3, .bref 4 0), (8, .aref 9 0)], [(4, .box 26 [vI start, vL eI W]), (9, .arr 0 1 3 (List.map eI []))]⟩ (sb rfl rfl rfl) rfl ?_
 refine RO (Body.fadB rfl fa26_0 rfl) ?_
 refine RO (Body.loadB rfl rfl rfl ag3 sz3 rfl) ?_
 refine ag rfl ?_
 refine RN ?_
 refine Ap rfl ?_
 refine NR ⟨[(1, vL eT l), (2, vL eI o), (3, .bref 4 0), (8, .aref 9 0), (9, vI start)], [(4, .box 26 [vI start, vL eI W]), (9, .arr 0 1 3 (List.map eI []))]⟩ (sb rfl rfl rfl) rfl ?_
 refine ag rfl ?_
 refine RN ?_
 refine Ap rfl ?_
 refine TK.loop (α := Nat × Int × Nat × List Int) (fun x => ⟨[(1, vL eT l), (2, vL eI o), (3, .bref 4 0), (8, .aref 9 x.2.2.1), (9, vI x.2.1), (10, vI ((x.1 : Nat) : Int))], [(4, .box 26 [vI start, vL eI W]), (9, .arr x.2.2.1 1 3 (List.map eI x.2.2.2))]⟩) (fun x => x.1 ≤ List.length o ∧ 0 ≤ x.2.1 ∧ x.2.1 ≤ 2880 ∧ List.length x.2.2.2 = x.1 ∧ tlF start W l o = Option.map (fun r => x.2.2.2 ++ r) (tlGo W l (prevT l o x.1) x.2.1 (List.drop x.1 o))) (fun x => List.length o - x.1) (0, start, 0, []) ?_ (sb rfl rfl rfl) ?_
 · show 0 ≤ List.length o ∧ 0 ≤ start ∧ start ≤ 2880 ∧ List.length [] = 0 ∧ tlF start W l o = Option.map (fun r => [] ++ r) (tlGo W l (prevT l o 0) start (List.drop 0 o))
   refine ⟨Nat.zero_le _, by omega, by omega, rfl, ?_⟩; simp [prevT, tlF]
 rintro ⟨i, at_, v, out⟩ hI0
 replace hI0 : i ≤ List.length o ∧ 0 ≤ at_ ∧ at_ ≤ 2880 ∧ List.length out = i ∧ tlF start W l o = Option.map (fun r => out ++ r) (tlGo W l (prevT l o i) at_ (List.drop i o)) := hI0
 show TK _ _ _ _ _ _ ⟨[(1, vL eT l), (2, vL eI o), (3, .bref 4 0), (8, .aref 9 v), (9, vI at_), (10, vI ((i : Nat) : Int))], [(4, .box 26 [vI start, vL eI W]), (9, .arr v 1 3 (List.map eI out))]⟩
 refine At rfl ?_
 refine NR ⟨[(1, vL eT l), (2, vL eI o), (3, .bref 4 0), (8, .aref 9 v), (9, vI at_), (10, vI ((i : Nat) : Int))], [(4, .box 26 [vI start, vL eI W]), (9, .arr v 1 3 (List.map eI out))]⟩ (sb rfl rfl rfl) rfl ?_
 refine mv rfl ?_
 refine mv rfl ?_
 refine RO (Body.lenL rfl un22) ?_
 refine RO (Body.lss rfl rfl) ?_
 refine RN ?_
 refine Ap rfl ?_
 refine TK.norm ⟨[(1, vL eT l), (2, vL eI o), (3, .bref 4 0), (8, .aref 9 v), (9, vI at_), (10, vI ((i : Nat) : Int)), (17, vB (decide (((i : Nat) : Int) < ((List.length o : Nat) : Int))))], [(4, .box 26 [vI start, vL eI W]), (9, .arr v 1 3 (List.map eI out))]⟩ (sb rfl rfl rfl) ?_
 refine TK.condP rfl (fun h1 => ?_) (fun h1 => ?_)
 ·
  refine At rfl ?_
  refine TK.norm ⟨[(1, vL eT l), (2, vL eI o), (3, .bref 4 0), (8, .aref 9 v), (9, vI at_), (10, vI ((i : Nat) : Int))], [(4, .box 26 [vI start, vL eI W]), (9, .arr v 1 3 (List.map eI out))]⟩ (sb rfl rfl rfl) ?_
  have hi := hv i (by omega)
  refine TK.rg (Y := tab) mixed rfl ?_
  refine mv rfl ?_
  refine mv rfl ?_
  refine mv rfl ?_
  refine RO (Body.idx (z := 0) (i := i) rfl rfl un22 sz3 (fun _ => rfl) rfl (by first | omega | (have := hI0.2.2.2.1; simp only [List.length_append, List.length_cons, List.length_nil]; omega) | (unfold apartF; omega))) ?_
  refine RO (Body.loadP rfl ag3 sz3) ?_
  refine RO (Body.idx (z := default) (i := (Int.toNat (List.getD o i 0))) rfl rfl un27 sz49 (fun _ => rfl) (Int.toNat_of_nonneg (by first | omega | (have := hI0.2.2.2.1; simp only [List.length_append, List.length_cons, List.length_nil]; omega) | (unfold apartF; omega))).symm (by first | omega | (have := hI0.2.2.2.1; simp only [List.length_append, List.length_cons, List.length_nil]; omega) | (unfold apartF; omega))) ?_
  refine RO (Body.loadA (ds := [pS (Tgt.name (List.getD l (Int.toNat (List.getD o i 0)) default)), pI (Tgt.bright (List.getD l (Int.toNat (List.getD o i 0)) default)), pI (Tgt.place (List.getD l (Int.toNat (List.getD o i 0)) default)), pI (Tgt.length (List.getD l (Int.toNat (List.getD o i 0)) default)), pI (Tgt.from_ (List.getD l (Int.toNat (List.getD o i 0)) default)), pI (Tgt.to (List.getD l (Int.toNat (List.getD o i 0)) default)), pI (Tgt.limit (List.getD l (Int.toNat (List.getD o i 0)) default))]) rfl ag49 sz49 (Nat.le_of_ble_eq_true rfl) rfl) ?_
  refine rn rfl ?_
  refine rn rfl ?_
  refine RN ?_
  refine Ap rfl ?_
  refine NR ⟨[(1, vL eT l), (2, vL eI o), (3, .bref 4 0), (8, .aref 9 v), (9, vI at_), (10, vI ((i : Nat) : Int)), (11, .bref 12 0)], [(4, .box 26 [vI start, vL eI W]), (9, .arr v 1 3 (List.map eI out)), (12, .box 49 [vS (Tgt.name (List.getD l (Int.toNat (List.getD o i 0)) default)), vI (Tgt.bright (List.getD l (Int.toNat (List.getD o i 0)) default)), vI (Tgt.place (List.getD l (Int.toNat (List.getD o i 0)) default)), vI (Tgt.length (List.getD l (Int.toNat (List.getD o i 0)) default)), vI (Tgt.from_ (List.getD l (Int.toNat (List.getD o i 0)) default)), vI (Tgt.to (List.getD l (Int.toNat (List.getD o i 0)) default)), vI (Tgt.limit (List.getD l (Int.toNat (List.getD o i 0)) default))])]⟩ (sb rfl rfl rfl) rfl ?_
  refine mv rfl ?_
  refine RO (Body.gtr rfl rfl) ?_
  refine RN ?_
  refine Ap rfl ?_
  refine TK.norm ⟨[(1, vL eT l), (2, vL eI o), (3, .bref 4 0), (8, .aref 9 v), (9, vI at_), (10, vI ((i : Nat) : Int)), (11, .bref 12 0), (28, vB (decide (0 < ((i : Nat) : Int))))], [(4, .box 26 [vI start, vL eI W]), (9, .arr v 1 3 (List.map eI out)), (12, .box 49 [vS (Tgt.name (List.getD l (Int.toNat (List.getD o i 0)) default)), vI (Tgt.bright (List.getD l (Int.toNat (List.getD o i 0)) default)), vI (Tgt.place (List.getD l (Int.toNat (List.getD o i 0)) default)), vI (Tgt.length (List.getD l (Int.toNat (List.getD o i 0)) default)), vI (Tgt.from_ (List.getD l (Int.toNat (List.getD o i 0)) default)), vI (Tgt.to (List.getD l (Int.toNat (List.getD o i 0)) default)), vI (Tgt.limit (List.getD l (Int.toNat (List.getD o i 0)) default))])]⟩ (sb rfl rfl rfl) ?_
  refine TK.condP rfl (fun h2 => ?_) (fun h2 => ?_)
  ·
   refine At rfl ?_
   refine TK.norm ⟨[(1, vL eT l), (2, vL eI o), (3, .bref 4 0), (8, .aref 9 v), (9, vI at_), (10, vI ((i : Nat) : Int)), (11, .bref 12 0)], [(4, .box 26 [vI start, vL eI W]), (9, .arr v 1 3 (List.map eI out)), (12, .box 49 [vS (Tgt.name (List.getD l (Int.toNat (List.getD o i 0)) default)), vI (Tgt.bright (List.getD l (Int.toNat (List.getD o i 0)) default)), vI (Tgt.place (List.getD l (Int.toNat (List.getD o i 0)) default)), vI (Tgt.length (List.getD l (Int.toNat (List.getD o i 0)) default)), vI (Tgt.from_ (List.getD l (Int.toNat (List.getD o i 0)) default)), vI (Tgt.to (List.getD l (Int.toNat (List.getD o i 0)) default)), vI (Tgt.limit (List.getD l (Int.toNat (List.getD o i 0)) default))])]⟩ (sb rfl rfl rfl) ?_
   have hp := hv (i - 1) (by omega)
   refine TK.rg (Y := tab) mixed rfl ?_
   refine mv rfl ?_
   refine RO (Body.fadB rfl fa49_2 rfl) ?_
   refine RO (Body.loadB rfl rfl rfl ag3 sz3 rfl) ?_
   refine mv rfl ?_
   refine mv rfl ?_
   refine mv rfl ?_
   refine RO (Body.sub rfl rfl (by first | (unfold R64; omega) | (unfold R64 apartF; omega))) ?_
   refine RO (Body.idx (z := 0) (i := (i - 1)) rfl rfl un22 sz3 (fun _ => rfl) (by omega) (by first | omega | (have := hI0.2.2.2.1; simp only [List.length_append, List.length_cons, List.length_nil]; omega) | (unfold apartF; omega))) ?_
   refine RO (Body.loadP rfl ag3 sz3) ?_
   refine RO (Body.idx (z := default) (i := (Int.toNat (List.getD o (i - 1) 0))) rfl rfl un27 sz49 (fun _ => rfl) (Int.toNat_of_nonneg (by first | omega | (have := hI0.2.2.2.1; simp only [List.length_append, List.length_cons, List.length_nil]; omega) | (unfold apartF; omega))).symm (by first | omega | (have := hI0.2.2.2.1; simp only [List.length_append, List.length_cons, List.length_nil]; omega) | (unfold apartF; omega))) ?_
   refine RO (Body.fadP rfl fa49_2 rfl) ?_
   refine RO (Body.loadP rfl ag3 sz3) ?_
   refine RO (Body.call (w109 (Tgt.place (List.getD l (Int.toNat (List.getD o i 0)) default)) (Tgt.place (List.getD l (Int.toNat (List.getD o (i - 1) 0)) default)) (by omega)) rfl rfl rfl) ?_
   refine RO (Body.add rfl rfl (by first | (unfold R64; omega) | (unfold R64 apartF; omega))) ?_
   refine ag rfl ?_
   refine RG.nil (fun _ => by kernel_rfl) ?_
   refine Ap rfl ?_
   refine NR ⟨[(1, vL eT l), (2, vL eI o), (3, .bref 4 0), (8, .aref 9 v), (9, vI (at_ + (apartF (Tgt.place (List.getD l (Int.toNat (List.getD o i 0)) default)) (Tgt.place (List.getD l (Int.toNat (List.getD o (i - 1) 0)) default))))), (10, vI ((i : Nat) : Int)), (11, .bref 12 0)], [(4, .box 26 [vI start, vL eI W]), (9, .arr v 1 3 (List.map eI out)), (12, .box 49 [vS (Tgt.name (List.getD l (Int.toNat (List.getD o i 0)) default)), vI (Tgt.bright (List.getD l (Int.toNat (List.getD o i 0)) default)), vI (Tgt.place (List.getD l (Int.toNat (List.getD o i 0)) default)), vI (Tgt.length (List.getD l (Int.toNat (List.getD o i 0)) default)), vI (Tgt.from_ (List.getD l (Int.toNat (List.getD o i 0)) default)), vI (Tgt.to (List.getD l (Int.toNat (List.getD o i 0)) default)), vI (Tgt.limit (List.getD l (Int.toNat (List.getD o i 0)) default))])]⟩ (sb rfl rfl rfl) rfl ?_
   refine RO (Body.loadBA rfl rfl rfl ag26 sz26 rfl rfl) ?_
   refine RO (Body.loadBA rfl rfl rfl ag49 sz49 rfl rfl) ?_
   refine mv rfl ?_
   refine RO (Body.call (w31 start W (List.getD l (Int.toNat (List.getD o i 0)) default) (at_ + (apartF (Tgt.place (List.getD l (Int.toNat (List.getD o i 0)) default)) (Tgt.place (List.getD l (Int.toNat (List.getD o (i - 1) 0)) default)))) (by first | omega | (unfold apartF; omega))) rfl rfl rfl) ?_
   refine ag rfl ?_
   refine RN ?_
   refine Ap rfl ?_
   refine TK.norm ⟨[(1, vL eT l), (2, vL eI o), (3, .bref 4 0), (8, .aref 9 v), (9, vI (begF W (List.getD l (Int.toNat (List.getD o i 0)) default) (at_ + (apartF (Tgt.place (List.getD l (Int.toNat (List.getD o i 0)) default)) (Tgt.place (List.getD l (Int.toNat (List.getD o (i - 1) 0)) default)))))), (10, vI ((i : Nat) : Int)), (11, .bref 12 0)], [(4, .box 26 [vI start, vL eI W]), (9, .arr v 1 3 (List.map eI out)), (12, .box 49 [vS (Tgt.name (List.getD l (Int.toNat (List.getD o i 0)) default)), vI (Tgt.bright (List.getD l (Int.toNat (List.getD o i 0)) default)), vI (Tgt.place (List.getD l (Int.toNat (List.getD o i 0)) default)), vI (Tgt.length (List.getD l (Int.toNat (List.getD o i 0)) default)), vI (Tgt.from_ (List.getD l (Int.toNat (List.getD o i 0)) default)), vI (Tgt.to (List.getD l (Int.toNat (List.getD o i 0)) default)), vI (Tgt.limit (List.getD l (Int.toNat (List.getD o i 0)) default))])]⟩ (sb rfl rfl rfl) ?_
   have hle : (begF W (List.getD l (Int.toNat (List.getD o i 0)) default) (at_ + (apartF (Tgt.place (List.getD l (Int.toNat (List.getD o i 0)) default)) (Tgt.place (List.getD l (Int.toNat (List.getD o (i - 1) 0)) default))))) ≤ 1440 := begF_le _ _ _
   generalize hb : (begF W (List.getD l (Int.toNat (List.getD o i 0)) default) (at_ + (apartF (Tgt.place (List.getD l (Int.toNat (List.getD o i 0)) default)) (Tgt.place (List.getD l (Int.toNat (List.getD o (i - 1) 0)) default))))) = b at *
   refine TK.rg (Y := tab) mixed rfl ?_
   refine mv rfl ?_
   refine RO (Body.lss rfl rfl) ?_
   refine RN ?_
   refine Ap rfl ?_
   refine TK.norm ⟨[(1, vL eT l), (2, vL eI o), (3, .bref 4 0), (8, .aref 9 v), (9, vI b), (10, vI ((i : Nat) : Int)), (11, .bref 12 0), (48, vB (decide (b < 0)))], [(4, .box 26 [vI start, vL eI W]), (9, .arr v 1 3 (List.map eI out)), (12, .box 49 [vS (Tgt.name (List.getD l (Int.toNat (List.getD o i 0)) default)), vI (Tgt.bright (List.getD l (Int.toNat (List.getD o i 0)) default)), vI (Tgt.place (List.getD l (Int.toNat (List.getD o i 0)) default)), vI (Tgt.length (List.getD l (Int.toNat (List.getD o i 0)) default)), vI (Tgt.from_ (List.getD l (Int.toNat (List.getD o i 0)) default)), vI (Tgt.to (List.getD l (Int.toNat (List.getD o i 0)) default)), vI (Tgt.limit (List.getD l (Int.toNat (List.getD o i 0)) default))])]⟩ (sb rfl rfl rfl) ?_
   refine TK.condP rfl (fun h3 => ?_) (fun h3 => ?_)
   ·
    refine At rfl ?_
    refine NR ⟨[], []⟩ (sb rfl rfl rfl) rfl ?_
    refine RO (Body.nilS (enc := eI) rfl) ?_
    refine ag rfl ?_
    refine RN ?_
    refine Ap rfl ?_
    refine TK.ret ?_
    refine PK.ret ?_
    refine leaf (val0 := .tup [vL eI [], vB false]) (by kernel_rfl) ?_
    exact tup2 (lsl (by first
          | (rw [hI0.2.2.2.2, tl_fail (W := W) (l := l) (o := o) (i := i) (a := at_) (b := b) (out := out) (by omega) (by rw [startA_some (by omega)]; exact hb) (by omega)]; rfl)
          | (rw [hI0.2.2.2.2, tl_fail (W := W) (l := l) (o := o) (i := i) (a := at_) (b := b) (out := out) (by omega) (by rw [startA_none (by omega)]; exact hb) (by omega)]; rfl)
          | (rw [hI0.2.2.2.2, List.drop_eq_nil_of_le (by omega)]; simp [tlGo]))) (lb (by first
          | (rw [hI0.2.2.2.2, tl_fail (W := W) (l := l) (o := o) (i := i) (a := at_) (b := b) (out := out) (by omega) (by rw [startA_some (by omega)]; exact hb) (by omega)]; rfl)
          | (rw [hI0.2.2.2.2, tl_fail (W := W) (l := l) (o := o) (i := i) (a := at_) (b := b) (out := out) (by omega) (by rw [startA_none (by omega)]; exact hb) (by omega)]; rfl)
          | (rw [hI0.2.2.2.2, List.drop_eq_nil_of_le (by omega)]; simp [tlGo])))
   ·
    refine At rfl ?_
    refine NR ⟨[(1, vL eT l), (2, vL eI o), (3, .bref 4 0), (8, .aref 9 v), (9, vI b), (10, vI ((i : Nat) : Int)), (11, .bref 12 0)], [(4, .box 26 [vI start, vL eI W]), (9, .arr v 1 3 (List.map eI out)), (12, .box 49 [vS (Tgt.name (List.getD l (Int.toNat (List.getD o i 0)) default)), vI (Tgt.bright (List.getD l (Int.toNat (List.getD o i 0)) default)), vI (Tgt.place (List.getD l (Int.toNat (List.getD o i 0)) default)), vI (Tgt.length (List.getD l (Int.toNat (List.getD o i 0)) default)), vI (Tgt.from_ (List.getD l (Int.toNat (List.getD o i 0)) default)), vI (Tgt.to (List.getD l (Int.toNat (List.getD o i 0)) default)), vI (Tgt.limit (List.getD l (Int.toNat (List.getD o i 0)) default))])]⟩ (sb rfl rfl rfl) rfl ?_
    refine rn rfl ?_
    refine mv rfl ?_
    refine RO (Body.runZ (val := .pv (.slice (List.map eI [b]))) rfl (fun l => Frz.arr l _ _ _ _ _) rfl) ?_
    refine RO (Body.append rfl rfl rfl un22 in3 rfl (fun _ => rfl) by3 (by first | omega | (have := hI0.2.2.2.1; simp only [List.length_append, List.length_cons, List.length_nil]; omega) | (unfold apartF; omega))) ?_
    refine rn rfl ?_
    refine RN ?_
    refine Ap rfl ?_
    refine NR ⟨[(1, vL eT l), (2, vL eI o), (3, .bref 4 0), (8, .aref 9 (v + 1)), (9, vI b), (10, vI ((i : Nat) : Int)), (11, .bref 12 0)], [(4, .box 26 [vI start, vL eI W]), (9, .arr (v + 1) 1 3 (List.map eI (out ++ [b]))), (12, .box 49 [vS (Tgt.name (List.getD l (Int.toNat (List.getD o i 0)) default)), vI (Tgt.bright (List.getD l (Int.toNat (List.getD o i 0)) default)), vI (Tgt.place (List.getD l (Int.toNat (List.getD o i 0)) default)), vI (Tgt.length (List.getD l (Int.toNat (List.getD o i 0)) default)), vI (Tgt.from_ (List.getD l (Int.toNat (List.getD o i 0)) default)), vI (Tgt.to (List.getD l (Int.toNat (List.getD o i 0)) default)), vI (Tgt.limit (List.getD l (Int.toNat (List.getD o i 0)) default))])]⟩ (sb rfl rfl rfl) rfl ?_
    refine mv rfl ?_
    refine RO (Body.fadB rfl fa49_3 rfl) ?_
    refine RO (Body.loadB rfl rfl rfl ag3 sz3 rfl) ?_
    refine RO (Body.add rfl rfl (by first | (unfold R64; omega) | (unfold R64 apartF; omega))) ?_
    refine ag rfl ?_
    refine RN ?_
    refine Ap rfl ?_
    refine NR ⟨[(1, vL eT l), (2, vL eI o), (3, .bref 4 0), (8, .aref 9 (v + 1)), (9, vI (b + (Tgt.length (List.getD l (Int.toNat (List.getD o i 0)) default)))), (10, vI ((i : Nat) : Int))], [(4, .box 26 [vI start, vL eI W]), (9, .arr (v + 1) 1 3 (List.map eI (out ++ [b])))]⟩ (sb rfl rfl rfl) rfl ?_
    refine mv rfl ?_
    refine RO (Body.add rfl rfl (by first | (unfold R64; omega) | (unfold R64 apartF; omega))) ?_
    refine ag rfl ?_
    refine RN ?_
    refine Aq rfl ?_
    refine PK.lp ?_
    refine LP.mk ((i + 1), (b + (Tgt.length (List.getD l (Int.toNat (List.getD o i 0)) default))), (v + 1), (out ++ [b])) ?_ ?_ (sb rfl rfl rfl)
    · show (i + 1) ≤ List.length o ∧ 0 ≤ (b + (Tgt.length (List.getD l (Int.toNat (List.getD o i 0)) default))) ∧ (b + (Tgt.length (List.getD l (Int.toNat (List.getD o i 0)) default))) ≤ 2880 ∧ List.length (out ++ [b]) = (i + 1) ∧ tlF start W l o = Option.map (fun r => (out ++ [b]) ++ r) (tlGo W l (prevT l o (i + 1)) (b + (Tgt.length (List.getD l (Int.toNat (List.getD o i 0)) default))) (List.drop (i + 1) o))
      refine ⟨by omega, by omega, by omega, by simp only [List.length_append, List.length_cons, List.length_nil]; omega, ?_⟩; rw [hI0.2.2.2.2]; first | exact tl_step (by omega) (by rw [startA_some (by omega)]; exact hb) (by omega) | exact tl_step (by omega) (by rw [startA_none (by omega)]; exact hb) (by omega)
    · show List.length o - (i + 1) < List.length o - i
      omega
  ·
   refine At rfl ?_
   refine NR ⟨[(1, vL eT l), (2, vL eI o), (3, .bref 4 0), (8, .aref 9 v), (9, vI at_), (10, vI ((i : Nat) : Int)), (11, .bref 12 0)], [(4, .box 26 [vI start, vL eI W]), (9, .arr v 1 3 (List.map eI out)), (12, .box 49 [vS (Tgt.name (List.getD l (Int.toNat (List.getD o i 0)) default)), vI (Tgt.bright (List.getD l (Int.toNat (List.getD o i 0)) default)), vI (Tgt.place (List.getD l (Int.toNat (List.getD o i 0)) default)), vI (Tgt.length (List.getD l (Int.toNat (List.getD o i 0)) default)), vI (Tgt.from_ (List.getD l (Int.toNat (List.getD o i 0)) default)), vI (Tgt.to (List.getD l (Int.toNat (List.getD o i 0)) default)), vI (Tgt.limit (List.getD l (Int.toNat (List.getD o i 0)) default))])]⟩ (sb rfl rfl rfl) rfl ?_
   refine RO (Body.loadBA rfl rfl rfl ag26 sz26 rfl rfl) ?_
   refine RO (Body.loadBA rfl rfl rfl ag49 sz49 rfl rfl) ?_
   refine mv rfl ?_
   refine RO (Body.call (w31 start W (List.getD l (Int.toNat (List.getD o i 0)) default) at_ (by first | omega | (unfold apartF; omega))) rfl rfl rfl) ?_
   refine ag rfl ?_
   refine RN ?_
   refine Ap rfl ?_
   refine TK.norm ⟨[(1, vL eT l), (2, vL eI o), (3, .bref 4 0), (8, .aref 9 v), (9, vI (begF W (List.getD l (Int.toNat (List.getD o i 0)) default) at_)), (10, vI ((i : Nat) : Int)), (11, .bref 12 0)], [(4, .box 26 [vI start, vL eI W]), (9, .arr v 1 3 (List.map eI out)), (12, .box 49 [vS (Tgt.name (List.getD l (Int.toNat (List.getD o i 0)) default)), vI (Tgt.bright (List.getD l (Int.toNat (List.getD o i 0)) default)), vI (Tgt.place (List.getD l (Int.toNat (List.getD o i 0)) default)), vI (Tgt.length (List.getD l (Int.toNat (List.getD o i 0)) default)), vI (Tgt.from_ (List.getD l (Int.toNat (List.getD o i 0)) default)), vI (Tgt.to (List.getD l (Int.toNat (List.getD o i 0)) default)), vI (Tgt.limit (List.getD l (Int.toNat (List.getD o i 0)) default))])]⟩ (sb rfl rfl rfl) ?_
   have hle : (begF W (List.getD l (Int.toNat (List.getD o i 0)) default) at_) ≤ 1440 := begF_le _ _ _
   generalize hb : (begF W (List.getD l (Int.toNat (List.getD o i 0)) default) at_) = b at *
   refine TK.rg (Y := tab) mixed rfl ?_
   refine mv rfl ?_
   refine RO (Body.lss rfl rfl) ?_
   refine RN ?_
   refine Ap rfl ?_
   refine TK.norm ⟨[(1, vL eT l), (2, vL eI o), (3, .bref 4 0), (8, .aref 9 v), (9, vI b), (10, vI ((i : Nat) : Int)), (11, .bref 12 0), (48, vB (decide (b < 0)))], [(4, .box 26 [vI start, vL eI W]), (9, .arr v 1 3 (List.map eI out)), (12, .box 49 [vS (Tgt.name (List.getD l (Int.toNat (List.getD o i 0)) default)), vI (Tgt.bright (List.getD l (Int.toNat (List.getD o i 0)) default)), vI (Tgt.place (List.getD l (Int.toNat (List.getD o i 0)) default)), vI (Tgt.length (List.getD l (Int.toNat (List.getD o i 0)) default)), vI (Tgt.from_ (List.getD l (Int.toNat (List.getD o i 0)) default)), vI (Tgt.to (List.getD l (Int.toNat (List.getD o i 0)) default)), vI (Tgt.limit (List.getD l (Int.toNat (List.getD o i 0)) default))])]⟩ (sb rfl rfl rfl) ?_
   refine TK.condP rfl (fun h4 => ?_) (fun h4 => ?_)
   ·
    refine At rfl ?_
    refine NR ⟨[], []⟩ (sb rfl rfl rfl) rfl ?_
    refine RO (Body.nilS (enc := eI) rfl) ?_
    refine ag rfl ?_
    refine RN ?_
    refine Ap rfl ?_
    refine TK.ret ?_
    refine PK.ret ?_
    refine leaf (val0 := .tup [vL eI [], vB false]) (by kernel_rfl) ?_
    exact tup2 (lsl (by first
          | (rw [hI0.2.2.2.2, tl_fail (W := W) (l := l) (o := o) (i := i) (a := at_) (b := b) (out := out) (by omega) (by rw [startA_some (by omega)]; exact hb) (by omega)]; rfl)
          | (rw [hI0.2.2.2.2, tl_fail (W := W) (l := l) (o := o) (i := i) (a := at_) (b := b) (out := out) (by omega) (by rw [startA_none (by omega)]; exact hb) (by omega)]; rfl)
          | (rw [hI0.2.2.2.2, List.drop_eq_nil_of_le (by omega)]; simp [tlGo]))) (lb (by first
          | (rw [hI0.2.2.2.2, tl_fail (W := W) (l := l) (o := o) (i := i) (a := at_) (b := b) (out := out) (by omega) (by rw [startA_some (by omega)]; exact hb) (by omega)]; rfl)
          | (rw [hI0.2.2.2.2, tl_fail (W := W) (l := l) (o := o) (i := i) (a := at_) (b := b) (out := out) (by omega) (by rw [startA_none (by omega)]; exact hb) (by omega)]; rfl)
          | (rw [hI0.2.2.2.2, List.drop_eq_nil_of_le (by omega)]; simp [tlGo])))
   ·
    refine At rfl ?_
    refine NR ⟨[(1, vL eT l), (2, vL eI o), (3, .bref 4 0), (8, .aref 9 v), (9, vI b), (10, vI ((i : Nat) : Int)), (11, .bref 12 0)], [(4, .box 26 [vI start, vL eI W]), (9, .arr v 1 3 (List.map eI out)), (12, .box 49 [vS (Tgt.name (List.getD l (Int.toNat (List.getD o i 0)) default)), vI (Tgt.bright (List.getD l (Int.toNat (List.getD o i 0)) default)), vI (Tgt.place (List.getD l (Int.toNat (List.getD o i 0)) default)), vI (Tgt.length (List.getD l (Int.toNat (List.getD o i 0)) default)), vI (Tgt.from_ (List.getD l (Int.toNat (List.getD o i 0)) default)), vI (Tgt.to (List.getD l (Int.toNat (List.getD o i 0)) default)), vI (Tgt.limit (List.getD l (Int.toNat (List.getD o i 0)) default))])]⟩ (sb rfl rfl rfl) rfl ?_
    refine rn rfl ?_
    refine mv rfl ?_
    refine RO (Body.runZ (val := .pv (.slice (List.map eI [b]))) rfl (fun l => Frz.arr l _ _ _ _ _) rfl) ?_
    refine RO (Body.append rfl rfl rfl un22 in3 rfl (fun _ => rfl) by3 (by first | omega | (have := hI0.2.2.2.1; simp only [List.length_append, List.length_cons, List.length_nil]; omega) | (unfold apartF; omega))) ?_
    refine rn rfl ?_
    refine RN ?_
    refine Ap rfl ?_
    refine NR ⟨[(1, vL eT l), (2, vL eI o), (3, .bref 4 0), (8, .aref 9 (v + 1)), (9, vI b), (10, vI ((i : Nat) : Int)), (11, .bref 12 0)], [(4, .box 26 [vI start, vL eI W]), (9, .arr (v + 1) 1 3 (List.map eI (out ++ [b]))), (12, .box 49 [vS (Tgt.name (List.getD l (Int.toNat (List.getD o i 0)) default)), vI (Tgt.bright (List.getD l (Int.toNat (List.getD o i 0)) default)), vI (Tgt.place (List.getD l (Int.toNat (List.getD o i 0)) default)), vI (Tgt.length (List.getD l (Int.toNat (List.getD o i 0)) default)), vI (Tgt.from_ (List.getD l (Int.toNat (List.getD o i 0)) default)), vI (Tgt.to (List.getD l (Int.toNat (List.getD o i 0)) default)), vI (Tgt.limit (List.getD l (Int.toNat (List.getD o i 0)) default))])]⟩ (sb rfl rfl rfl) rfl ?_
    refine mv rfl ?_
    refine RO (Body.fadB rfl fa49_3 rfl) ?_
    refine RO (Body.loadB rfl rfl rfl ag3 sz3 rfl) ?_
    refine RO (Body.add rfl rfl (by first | (unfold R64; omega) | (unfold R64 apartF; omega))) ?_
    refine ag rfl ?_
    refine RN ?_
    refine Ap rfl ?_
    refine NR ⟨[(1, vL eT l), (2, vL eI o), (3, .bref 4 0), (8, .aref 9 (v + 1)), (9, vI (b + (Tgt.length (List.getD l (Int.toNat (List.getD o i 0)) default)))), (10, vI ((i : Nat) : Int))], [(4, .box 26 [vI start, vL eI W]), (9, .arr (v + 1) 1 3 (List.map eI (out ++ [b])))]⟩ (sb rfl rfl rfl) rfl ?_
    refine mv rfl ?_
    refine RO (Body.add rfl rfl (by first | (unfold R64; omega) | (unfold R64 apartF; omega))) ?_
    refine ag rfl ?_
    refine RN ?_
    refine Aq rfl ?_
    refine PK.lp ?_
    refine LP.mk ((i + 1), (b + (Tgt.length (List.getD l (Int.toNat (List.getD o i 0)) default))), (v + 1), (out ++ [b])) ?_ ?_ (sb rfl rfl rfl)
    · show (i + 1) ≤ List.length o ∧ 0 ≤ (b + (Tgt.length (List.getD l (Int.toNat (List.getD o i 0)) default))) ∧ (b + (Tgt.length (List.getD l (Int.toNat (List.getD o i 0)) default))) ≤ 2880 ∧ List.length (out ++ [b]) = (i + 1) ∧ tlF start W l o = Option.map (fun r => (out ++ [b]) ++ r) (tlGo W l (prevT l o (i + 1)) (b + (Tgt.length (List.getD l (Int.toNat (List.getD o i 0)) default))) (List.drop (i + 1) o))
      refine ⟨by omega, by omega, by omega, by simp only [List.length_append, List.length_cons, List.length_nil]; omega, ?_⟩; rw [hI0.2.2.2.2]; first | exact tl_step (by omega) (by rw [startA_some (by omega)]; exact hb) (by omega) | exact tl_step (by omega) (by rw [startA_none (by omega)]; exact hb) (by omega)
    · show List.length o - (i + 1) < List.length o - i
      omega
 ·
  refine At rfl ?_
  refine TK.exit ?_
  refine PK.exit rfl ?_
  refine Ap rfl ?_
  refine TK.norm ⟨[(8, .aref 9 v)], [(9, .arr v 1 3 (List.map eI out))]⟩ (sb rfl rfl rfl) ?_
  refine TK.frz (t := 8) rfl rfl ?_
  refine NR ⟨[(8, vL eI out)], []⟩ (sb rfl rfl rfl) rfl ?_
  refine mv rfl ?_
  refine ag rfl ?_
  refine ag rfl ?_
  refine RN ?_
  refine Ap rfl ?_
  refine TK.ret ?_
  refine PK.ret ?_
  refine leaf (val0 := .tup [vL eI out, vB true]) (by kernel_rfl) ?_
  exact tup2 (lsl (by first
          | (rw [hI0.2.2.2.2, tl_fail (W := W) (l := l) (o := o) (i := i) (a := at_) (b := b) (out := out) (by omega) (by rw [startA_some (by omega)]; exact hb) (by omega)]; rfl)
          | (rw [hI0.2.2.2.2, tl_fail (W := W) (l := l) (o := o) (i := i) (a := at_) (b := b) (out := out) (by omega) (by rw [startA_none (by omega)]; exact hb) (by omega)]; rfl)
          | (rw [hI0.2.2.2.2, List.drop_eq_nil_of_le (by omega)]; simp [tlGo]))) (lb (by first
          | (rw [hI0.2.2.2.2, tl_fail (W := W) (l := l) (o := o) (i := i) (a := at_) (b := b) (out := out) (by omega) (by rw [startA_some (by omega)]; exact hb) (by omega)]; rfl)
          | (rw [hI0.2.2.2.2, tl_fail (W := W) (l := l) (o := o) (i := i) (a := at_) (b := b) (out := out) (by omega) (by rw [startA_none (by omega)]; exact hb) (by omega)]; rfl)
          | (rw [hI0.2.2.2.2, List.drop_eq_nil_of_le (by omega)]; simp [tlGo])))
end Go.Lens.Tb
end
section
namespace Go.Lens.Tb
set_option linter.unusedSectionVars false
theorem byteAt_get {s : ByteArray} {p : Nat} (h : p < s.size) : byteAt s p = ((s[p]'h).toNat : Int) := by
  unfold byteAt
  have h' : p < s.data.toList.length := by simpa using h
  rw [List.getD_eq_getElem?_getD, List.getElem?_eq_getElem h']
  simp [ByteArray.getElem_eq_getElem_data]
theorem nameAt_high {p : Nat} {c : Int} (h : 128 ≤ c) : nameAt p c = false := by
  unfold nameAt letterF
  rw [decide_eq_false (p := c ≤ 122) (by omega), decide_eq_false (p := c ≤ 90) (by omega), decide_eq_false (p := c ≤ 57) (by omega), decide_eq_false (p := c = 95) (by omega)]
  simp
theorem rune_name {s : ByteArray} {p : Nat} (h : p < s.size) : nameAt p (((Utf8.decode s p).1 : Nat) : Int) = nameAt p (byteAt s p) ∧ (nameAt p (byteAt s p) = true → (Utf8.decode s p).2 = 1) := by
  rw [byteAt_get h]
  rcases Nat.lt_or_ge (s[p]'h).toNat 128 with ha | ha
  · rw [decode_ascii s p h ha]
    exact ⟨rfl, fun _ => rfl⟩
  · have := decode_high s p h ha
    rw [nameAt_high (by omega), nameAt_high (by omega)]
    exact ⟨rfl, fun h => by cases h⟩
theorem nm8r : ∀ L z n95 l48 g57 : Bool, (bif !L then (bif z then true else (bif n95 then (bif l48 then true else g57) else false)) else false) = !(L || (!z && ((!l48 && !g57) || !n95))) := by decide
theorem nameAt_r (p : Nat) (c : Int) : (letterF c || (!decide ((p : Int) = 0) && ((!decide (c < 48) && !decide (57 < c)) || !decide (c ≠ 95)))) = nameAt p c := by
  unfold nameAt
  congr 2
  have h1 : (!decide (c < 48)) = decide (48 ≤ c) := by rw [Bool.eq_iff_iff]; simp
  have h2 : (!decide (57 < c)) = decide (c ≤ 57) := by rw [Bool.eq_iff_iff]; simp
  have h3 : (!decide (c ≠ 95)) = decide (c = 95) := by rw [Bool.eq_iff_iff]; simp
  rw [h1, h2, h3]
theorem rune_cond {s : ByteArray} {p : Nat} (h : p < s.size) {c : Int} (hc : c = (((Utf8.decode s p).1 : Nat) : Int)) {b : Bool}
    (hb : (bif !(letterF c) then (bif decide ((p : Int) = 0) then true else (bif decide (c ≠ 95) then (bif decide (c < 48) then true else decide (57 < c)) else false)) else false) = b) : nameAt p (byteAt s p) = !b := by
  rw [nm8r, nameAt_r, hc, (rune_name h).1] at hb
  rw [← hb, Bool.not_not]
theorem empty_iff {s : ByteArray} : s = ⟨#[]⟩ ↔ s.size = 0 := by
  constructor
  · rintro rfl; rfl
  · intro h; exact ByteArray.ext (Array.eq_empty_of_size_eq_zero h)
theorem within_ne (w : Int) : decide (withinF w 0 100 ≠ 0) = outF w 0 100 := by
  unfold withinF whenF
  cases outF w 0 100 <;> rfl
theorem first_night (start : Int) (W : List Int) : firstF [withinF start 0 1440, whenF (decide (((W.length : Nat) : Int) = 0)) 12, whenF (decide (24 < ((W.length : Nat) : Int))) 5, whenF (W.any fun x => outF x 0 100) 3] = chkNightF start W := by
  unfold chkNightF withinF whenF
  have h1 : decide (((W.length : Nat) : Int) = 0) = decide (W.length = 0) := by rw [Bool.eq_iff_iff]; simp
  have h2 : decide (24 < ((W.length : Nat) : Int)) = decide (24 < W.length) := by rw [Bool.eq_iff_iff]; simp; omega
  rw [h1, h2]
  cases outF start 0 1440 <;> cases decide (W.length = 0) <;> cases decide (24 < W.length) <;> cases (W.any fun x => outF x 0 100) <;> rfl
theorem first_ranged (t : Tgt) : firstF [withinF t.bright 1 1000, withinF t.place 0 360, withinF t.length 1 1440, withinF t.from_ 0 1440, withinF t.to 0 1440, withinF t.limit 0 100] = whenF (!inRangeF t) 3 := by
  unfold inRangeF withinF whenF
  cases outF t.bright 1 1000 <;> cases outF t.place 0 360 <;> cases outF t.length 1 1440 <;> cases outF t.from_ 0 1440 <;> cases outF t.to 0 1440 <;> cases outF t.limit 0 100 <;> rfl
theorem first_one (pre : List Tgt) (t : Tgt) : firstF [whenF (!isNameF t.name) 8, whenF (pre.any fun o => decide (o.name = t.name)) 9, whenF (!inRangeF t) 3] = chkOne pre t := by
  unfold chkOne whenF
  cases isNameF t.name <;> cases (pre.any fun o => decide (o.name = t.name)) <;> cases inRangeF t <;> rfl
end Go.Lens.Tb
end
section
namespace Go.Lens.Tb
open Go.Proofs
variable [Lz]
set_option linter.unusedSectionVars false
set_option maxRecDepth 100000
attribute [local irreducible] TK PK T RG EfR Body
theorem fa24_0 : fadQ tab 24 0 = some 0 := by kernel_rfl
theorem fa24_1 : fadQ tab 24 1 = some 1 := by kernel_rfl
theorem fa46_0 : fadQ tab 46 0 = some 0 := by kernel_rfl
theorem fa46_1 : fadQ tab 46 1 = some 1 := by kernel_rfl
theorem fa46_2 : fadQ tab 46 2 = some 2 := by kernel_rfl
theorem fa46_3 : fadQ tab 46 3 = some 3 := by kernel_rfl
theorem fa46_4 : fadQ tab 46 4 = some 4 := by kernel_rfl
theorem fa46_5 : fadQ tab 46 5 = some 5 := by kernel_rfl
theorem fa46_6 : fadQ tab 46 6 = some 6 := by kernel_rfl
theorem w241 (c : Int) : CallOk Tryz.prog 241 [.pv (.lit (.int .i32 c))] (lookM []) (vB (letterF c)) [] := by
 haveI := tab_ok
 obtain ⟨fn, f1, f2, f3, f4, _, f6⟩ := qf241
 refine callOk_of (Y := tab) (F := fn241) f1 (f2.trans rfl) f3 f4 f6 (Nat.le_of_ble_eq_true rfl) rfl ?_
 clear f1 f2 f3 f4 f6
 show TK _ _ _ _ _ _ ⟨[(0, .pv (.lit (.int .i32 c)))], []⟩
 refine At rfl ?_
 refine NR ⟨[(0, .pv (.lit (.int .i32 c)))], []⟩ (sb rfl rfl rfl) rfl ?_
 refine ag rfl ?_
 refine RN ?_
 refine Ap rfl ?_
 refine NR ⟨[(0, .pv (.lit (.int .i32 c)))], []⟩ (sb rfl rfl rfl) rfl ?_
 refine mv rfl ?_
 refine RO (Body.geq rfl rfl) ?_
 refine mv rfl ?_
 refine RG.cons (EfR.sym rfl (fun hc => Body.move rfl) rfl) ?_
 refine RG.cons (EfR.sym rfl (fun hc => Body.leq (ev1_gd rfl hc) rfl) rfl) ?_
 refine RO (Body.pick rfl rfl rfl (gdB rfl) rfl (pick_and _)) ?_
 refine mv rfl ?_
 refine RG.cons (EfR.sym rfl (fun hc => Body.move rfl) rfl) ?_
 refine RG.cons (EfR.sym rfl (fun hc => Body.geq (ev1_gd rfl hc) rfl) rfl) ?_
 refine RG.cons (EfR.sym rfl (fun hc => Body.move (ev1_gd rfl hc)) rfl) ?_
 refine RG.cons (EfR.sym rfl (fun hc => Body.move rfl) rfl) ?_
 refine RG.cons (EfR.sym rfl (fun hc => Body.leq (ev1_gd rfl hc) rfl) rfl) ?_
 refine RG.cons (EfR.sym rfl (fun hc => Body.pick (ev1_gd rfl hc) rfl rfl (gdB rfl) rfl (pick_and2 hc)) rfl) ?_
 refine RO (Body.pick rfl rfl rfl rfl (gdB rfl) (pick_or _)) ?_
 refine ag rfl ?_
 refine RN ?_
 refine Ap rfl ?_
 refine TK.ret ?_
 refine PK.ret ?_
 refine leaf (val0 := vB (bif (bif (decide (97 ≤ c)) then (decide (c ≤ 122)) else false) then true else (bif (decide (65 ≤ c)) then (decide (c ≤ 90)) else false))) (by kernel_rfl) ?_
 exact lb (by simp only [letterF, bif_or, bif_and])
theorem w164 (s : ByteArray) : CallOk Tryz.prog 164 [vS s] (lookM []) (vB (isNameF s)) [] := by
 haveI := tab_ok
 obtain ⟨fn, f1, f2, f3, f4, _, f6⟩ := qf164
 refine callOk_of (Y := tab) (F := fn164) f1 (f2.trans rfl) f3 f4 f6 (Nat.le_of_ble_eq_true rfl) rfl ?_
 clear f1 f2 f3 f4 f6
 show TK _ _ _ _ _ _ ⟨[(0, vS s)], []⟩
 refine At rfl ?_
 refine NR ⟨[(0, vS s)], []⟩ (sb rfl rfl rfl) rfl ?_
 refine ag rfl ?_
 refine RN ?_
 refine Ap rfl ?_
 refine NR ⟨[(0, vS s)], []⟩ (sb rfl rfl rfl) rfl ?_
 refine mv rfl ?_
 refine RO (Body.rangeS rfl un9 rfl rfl) ?_
 refine RN ?_
 refine Ap rfl ?_
 refine TK.loop (α := Nat) (fun x => ⟨[(0, vS s), (6, .bref 7 0)], [(7, .siter s x)]⟩) (fun x => x ≤ ByteArray.size s ∧ ∀ j, j < x → nameAt j (byteAt s j) = true) (fun x => ByteArray.size s - x) 0 ?_ (sb rfl rfl rfl) ?_
 · show 0 ≤ ByteArray.size s ∧ ∀ j, j < 0 → nameAt j (byteAt s j) = true
   exact ⟨Nat.zero_le _, fun j hj => by omega⟩
 rintro p hI0
 replace hI0 : p ≤ ByteArray.size s ∧ ∀ j, j < p → nameAt j (byteAt s j) = true := hI0
 show TK _ _ _ _ _ _ ⟨[(0, vS s), (6, .bref 7 0)], [(7, .siter s p)]⟩
 refine At rfl ?_
 refine NR ⟨[(0, vS s), (6, .bref 7 0)], [(7, .siter s p)]⟩ (sb rfl rfl rfl) rfl ?_
 refine RG.next rfl rfl rfl (fun h1 => ?_) (fun h1 => ?_)
 ·
  refine rn rfl ?_
  refine RN ?_
  refine Ap rfl ?_
  refine TK.norm ⟨[(0, vS s), (6, .bref 7 0), (7, .tup [vB true, vI ((p : Nat) : Int), .pv (.lit (.int .i32 (((Utf8.decode s p).1 : Nat) : Int)))]), (8, vB true)], [(7, .siter s (p + (Utf8.decode s p).2))]⟩ (sb rfl rfl rfl) ?_
  refine TK.condT rfl ?_
  refine At rfl ?_
  refine NR ⟨[(0, vS s), (6, .bref 7 0), (7, .tup [vB true, vI ((p : Nat) : Int), .pv (.lit (.int .i32 (((Utf8.decode s p).1 : Nat) : Int)))])], [(7, .siter s (p + (Utf8.decode s p).2))]⟩ (sb rfl rfl rfl) rfl ?_
  refine rn rfl ?_
  refine rn rfl ?_
  refine ag rfl ?_
  refine ag rfl ?_
  refine RN ?_
  refine Ap rfl ?_
  refine NR ⟨[(0, vS s), (3, vI ((p : Nat) : Int)), (4, .pv (.lit (.int .i32 (((Utf8.decode s p).1 : Nat) : Int)))), (6, .bref 7 0)], [(7, .siter s (p + (Utf8.decode s p).2))]⟩ (sb rfl rfl rfl) rfl ?_
  refine mv rfl ?_
  refine RO (Body.call (w241 (((Utf8.decode s p).1 : Nat) : Int)) rfl rfl rfl) ?_
  refine RO (Body.not rfl) ?_
  refine mv rfl ?_
  refine RG.cons (EfR.sym rfl (fun hc => Body.move rfl) rfl) ?_
  refine RG.cons (EfR.sym rfl (fun hc => Body.eql (ev1_gd rfl hc) rfl) rfl) ?_
  refine RG.cons (EfR.sym rfl (fun hc => Body.move (ev1_gd rfl hc)) rfl) ?_
  refine RG.cons (EfR.sym rfl (fun hc => Body.move rfl) rfl) ?_
  refine RG.cons (EfR.sym rfl (fun hc => Body.neq (ev1_gd rfl hc) rfl) rfl) ?_
  refine RG.cons (EfR.sym rfl (fun hc => Body.move (ev1_gd rfl hc)) rfl) ?_
  refine RG.cons (EfR.sym rfl (fun hc => Body.move rfl) rfl) ?_
  refine RG.cons (EfR.sym rfl (fun hc => Body.lss (ev1_gd rfl hc) rfl) rfl) ?_
  refine RG.cons (EfR.sym rfl (fun hc => Body.move (ev1_gd rfl hc)) rfl) ?_
  refine RG.cons (EfR.sym rfl (fun hc => Body.move rfl) rfl) ?_
  refine RG.cons (EfR.sym rfl (fun hc => Body.gtr (ev1_gd rfl hc) rfl) rfl) ?_
  refine RG.cons (EfR.sym rfl (fun hc => Body.pick (ev1_gd rfl hc) rfl rfl rfl (gdB rfl) (pick_or2 hc)) rfl) ?_
  refine RG.cons (EfR.sym rfl (fun hc => Body.pick (ev1_gd rfl hc) rfl rfl (gdB rfl) rfl (pick_and2 hc)) rfl) ?_
  refine RG.cons (EfR.sym rfl (fun hc => Body.pick (ev1_gd rfl hc) rfl rfl rfl (gdB rfl) (pick_or2 hc)) rfl) ?_
  refine RO (Body.pick rfl rfl rfl (gdB rfl) rfl (pick_and _)) ?_
  refine RN ?_
  refine Ap rfl ?_
  refine TK.norm ⟨[(0, vS s), (6, .bref 7 0), (29, vB (bif (!(letterF (((Utf8.decode s p).1 : Nat) : Int))) then (bif (decide (((p : Nat) : Int) = 0)) then true else (bif (decide ((((Utf8.decode s p).1 : Nat) : Int) ≠ 95)) then (bif (decide ((((Utf8.decode s p).1 : Nat) : Int) < 48)) then true else (decide (57 < (((Utf8.decode s p).1 : Nat) : Int)))) else false)) else false))], [(7, .siter s (p + (Utf8.decode s p).2))]⟩ (sb rfl rfl rfl) ?_
  refine TK.cond rfl (fun h2 => ?_) (fun h2 => ?_)
  ·
   refine At rfl ?_
   refine NR ⟨[], []⟩ (sb rfl rfl rfl) rfl ?_
   refine ag rfl ?_
   refine RN ?_
   refine Ap rfl ?_
   refine TK.ret ?_
   refine PK.ret ?_
   refine leaf (val0 := vB false) (by kernel_rfl) ?_
   exact lb (by first
          | exact (isName_no p h1 (rune_cond h1 rfl h2)).symm
          | (have he : p = ByteArray.size s := by omega
             rw [bif_and]
             by_cases h0 : ByteArray.size s = 0
             · rw [decide_eq_false (p := s ≠ ⟨#[]⟩) (fun h => h (empty_iff.2 h0)), isName_len (.inl (by omega))]; rfl
             · rw [decide_eq_true (p := s ≠ ⟨#[]⟩) (fun h => h0 (empty_iff.1 h))]
               by_cases h9 : ByteArray.size s ≤ 24
               · rw [decide_eq_true (by omega), isName_yes (by omega) h9 fun j hj => hI0.2 j (by omega)]; rfl
               · rw [decide_eq_false (by omega), isName_len (.inr (by omega))]; rfl))
  ·
   refine Au rfl ?_
   refine PK.lp ?_
   refine LP.mk (p + (Utf8.decode s p).2) ?_ ?_ (sb rfl rfl rfl)
   · show (p + (Utf8.decode s p).2) ≤ ByteArray.size s ∧ ∀ j, j < (p + (Utf8.decode s p).2) → nameAt j (byteAt s j) = true
     have hn := rune_cond h1 rfl h2; rw [(rune_name h1).2 hn]; refine ⟨by omega, fun j hj => ?_⟩; rcases Nat.lt_succ_iff_lt_or_eq.1 hj with h | h; exact hI0.2 j h; subst h; exact hn
   · show ByteArray.size s - (p + (Utf8.decode s p).2) < ByteArray.size s - p
     have hn := rune_cond h1 rfl h2; rw [(rune_name h1).2 hn]; omega
 ·
  refine rn rfl ?_
  refine RN ?_
  refine Ap rfl ?_
  refine TK.norm ⟨[(0, vS s), (6, .bref 7 0), (7, .tup [vB false]), (8, vB false)], [(7, .siter s p)]⟩ (sb rfl rfl rfl) ?_
  refine TK.condF rfl ?_
  refine At rfl ?_
  refine TK.exit ?_
  refine PK.exit rfl ?_
  refine Ap rfl ?_
  refine NR ⟨[(0, vS s)], []⟩ (sb rfl rfl rfl) rfl ?_
  refine mv rfl ?_
  refine RO (Body.sneq rfl rfl) ?_
  refine mv rfl ?_
  refine RG.cons (EfR.sym rfl (fun hc => Body.move rfl) rfl) ?_
  refine RG.cons (EfR.sym rfl (fun hc => Body.lenS (ev1_gd rfl hc) un9) rfl) ?_
  refine RG.cons (EfR.sym rfl (fun hc => Body.leq (ev1_gd rfl hc) rfl) rfl) ?_
  refine RO (Body.pick rfl rfl rfl (gdB rfl) rfl (pick_and _)) ?_
  refine ag rfl ?_
  refine RN ?_
  refine Ap rfl ?_
  refine TK.ret ?_
  refine PK.ret ?_
  refine leaf (val0 := vB (bif (decide (s ≠ ⟨#[]⟩)) then (decide (((ByteArray.size s : Nat) : Int) ≤ 24)) else false)) (by kernel_rfl) ?_
  exact lb (by first
          | exact (isName_no p h1 (rune_cond h1 rfl h2)).symm
          | (have he : p = ByteArray.size s := by omega
             rw [bif_and]
             by_cases h0 : ByteArray.size s = 0
             · rw [decide_eq_false (p := s ≠ ⟨#[]⟩) (fun h => h (empty_iff.2 h0)), isName_len (.inl (by omega))]; rfl
             · rw [decide_eq_true (p := s ≠ ⟨#[]⟩) (fun h => h0 (empty_iff.1 h))]
               by_cases h9 : ByteArray.size s ≤ 24
               · rw [decide_eq_true (by omega), isName_yes (by omega) h9 fun j hj => hI0.2 j (by omega)]; rfl
               · rw [decide_eq_false (by omega), isName_len (.inr (by omega))]; rfl))
theorem w104 (s : ByteArray) : CallOk Tryz.prog 104 [vS s] (lookM []) (vI (whenF (!(isNameF s)) 8)) [] := by
 haveI := tab_ok
 obtain ⟨fn, f1, f2, f3, f4, _, f6⟩ := qf104
 refine callOk_of (Y := tab) (F := fn104) f1 (f2.trans rfl) f3 f4 f6 (Nat.le_of_ble_eq_true rfl) rfl ?_
 clear f1 f2 f3 f4 f6
 show TK _ _ _ _ _ _ ⟨[(0, vS s)], []⟩
 refine At rfl ?_
 refine NR ⟨[(0, vS s)], []⟩ (sb rfl rfl rfl) rfl ?_
 refine ag rfl ?_
 refine RN ?_
 refine Ap rfl ?_
 refine NR ⟨[(0, vS s)], []⟩ (sb rfl rfl rfl) rfl ?_
 refine mv rfl ?_
 refine RO (Body.call (w164 s) rfl rfl rfl) ?_
 refine RO (Body.not rfl) ?_
 refine RO (Body.call (w101 (!(isNameF s)) 8) rfl rfl rfl) ?_
 refine ag rfl ?_
 refine RN ?_
 refine Ap rfl ?_
 refine TK.ret ?_
 refine PK.ret ?_
 refine leaf (val0 := vI (whenF (!(isNameF s)) 8)) (by kernel_rfl) ?_
 exact rfl
theorem w98 (w : Int) : CallOk Tryz.prog 98 [vI w] (lookM []) (vB (outF w 0 100)) [] := by
 haveI := tab_ok
 obtain ⟨fn, f1, f2, f3, f4, _, f6⟩ := qf98
 refine callOk_of (Y := tab) (F := fn98) f1 (f2.trans rfl) f3 f4 f6 (Nat.le_of_ble_eq_true rfl) rfl ?_
 clear f1 f2 f3 f4 f6
 show TK _ _ _ _ _ _ ⟨[(0, vI w)], []⟩
 refine At rfl ?_
 refine NR ⟨[(0, vI w)], []⟩ (sb rfl rfl rfl) rfl ?_
 refine ag rfl ?_
 refine RN ?_
 refine Ap rfl ?_
 refine NR ⟨[(0, vI w)], []⟩ (sb rfl rfl rfl) rfl ?_
 refine mv rfl ?_
 refine RO (Body.call (w99 w 0 100) rfl rfl rfl) ?_
 refine RO (Body.neq rfl rfl) ?_
 refine ag rfl ?_
 refine RN ?_
 refine Ap rfl ?_
 refine TK.ret ?_
 refine PK.ret ?_
 refine leaf (val0 := vB (decide ((withinF w 0 100) ≠ 0))) (by kernel_rfl) ?_
 exact lb (by exact within_ne w)
theorem w162 (l : List Int) (hl : l.length ≤ 1000000000000000) : CallOk Tryz.prog 162 [vL eI l, .pv (.fn (.func 98) [] [])] (lookM []) (vI (findI (fun x => outF x 0 100) l)) [] := by
 haveI := tab_ok
 obtain ⟨fn, f1, f2, f3, f4, _, f6⟩ := qf162
 refine callOk_of (Y := tab) (F := fn162) f1 (f2.trans rfl) f3 f4 f6 (Nat.le_of_ble_eq_true rfl) rfl ?_
 clear f1 f2 f3 f4 f6
 show TK _ _ _ _ _ _ ⟨[(0, vL eI l), (1, .pv (.fn (.func 98) [] []))], []⟩
 refine At rfl ?_
 refine NR ⟨[(0, vL eI l), (1, .pv (.fn (.func 98) [] []))], []⟩ (sb rfl rfl rfl) rfl ?_
 refine ag rfl ?_
 refine RN ?_
 refine Ap rfl ?_
 refine NR ⟨[(0, vL eI l), (1, .pv (.fn (.func 98) [] []))], []⟩ (sb rfl rfl rfl) rfl ?_
 refine mv rfl ?_
 refine RO (Body.lenL rfl un22) ?_
 refine mv rfl ?_
 refine RN ?_
 refine Ap rfl ?_
 refine TK.loop (α := Nat) (fun x => ⟨[(0, vL eI l), (1, .pv (.fn (.func 98) [] [])), (7, vI ((List.length l : Nat) : Int)), (8, vI ((x : Nat) : Int))], []⟩) (fun x => x ≤ List.length l ∧ ∀ j, j < x → outF (List.getD l j 0) 0 100 = false) (fun x => List.length l - x) 0 ?_ (sb rfl rfl rfl) ?_
 · show 0 ≤ List.length l ∧ ∀ j, j < 0 → outF (List.getD l j 0) 0 100 = false
   exact ⟨Nat.zero_le _, fun j hj => by omega⟩
 rintro k hI0
 replace hI0 : k ≤ List.length l ∧ ∀ j, j < k → outF (List.getD l j 0) 0 100 = false := hI0
 show TK _ _ _ _ _ _ ⟨[(0, vL eI l), (1, .pv (.fn (.func 98) [] [])), (7, vI ((List.length l : Nat) : Int)), (8, vI ((k : Nat) : Int))], []⟩
 refine At rfl ?_
 refine NR ⟨[(0, vL eI l), (1, .pv (.fn (.func 98) [] [])), (7, vI ((List.length l : Nat) : Int)), (8, vI ((k : Nat) : Int))], []⟩ (sb rfl rfl rfl) rfl ?_
 refine RO (Body.lss rfl rfl) ?_
 refine RN ?_
 refine Ap rfl ?_
 refine TK.norm ⟨[(0, vL eI l), (1, .pv (.fn (.func 98) [] [])), (7, vI ((List.length l : Nat) : Int)), (8, vI ((k : Nat) : Int)), (9, vB (decide (((k : Nat) : Int) < ((List.length l : Nat) : Int))))], []⟩ (sb rfl rfl rfl) ?_
 refine TK.condP rfl (fun h1 => ?_) (fun h1 => ?_)
 ·
  refine At rfl ?_
  refine NR ⟨[(0, vL eI l), (1, .pv (.fn (.func 98) [] [])), (7, vI ((List.length l : Nat) : Int)), (8, vI ((k : Nat) : Int))], []⟩ (sb rfl rfl rfl) rfl ?_
  refine mv rfl ?_
  refine ag rfl ?_
  refine RN ?_
  refine Ap rfl ?_
  refine NR ⟨[(0, vL eI l), (1, .pv (.fn (.func 98) [] [])), (5, vI ((k : Nat) : Int)), (7, vI ((List.length l : Nat) : Int)), (8, vI ((k : Nat) : Int))], []⟩ (sb rfl rfl rfl) rfl ?_
  refine mv rfl ?_
  refine mv rfl ?_
  refine mv rfl ?_
  refine RO (Body.idx (z := 0) (i := k) rfl rfl un22 sz3 (fun _ => rfl) rfl (by omega)) ?_
  refine RO (Body.loadP rfl ag3 sz3) ?_
  refine RO (Body.call (w98 (List.getD l k 0)) rfl rfl rfl) ?_
  refine RN ?_
  refine Ap rfl ?_
  refine TK.norm ⟨[(0, vL eI l), (1, .pv (.fn (.func 98) [] [])), (5, vI ((k : Nat) : Int)), (7, vI ((List.length l : Nat) : Int)), (8, vI ((k : Nat) : Int)), (16, vB (outF (List.getD l k 0) 0 100))], []⟩ (sb rfl rfl rfl) ?_
  refine TK.cond rfl (fun h2 => ?_) (fun h2 => ?_)
  ·
   refine At rfl ?_
   refine NR ⟨[(5, vI ((k : Nat) : Int))], []⟩ (sb rfl rfl rfl) rfl ?_
   refine mv rfl ?_
   refine ag rfl ?_
   refine RN ?_
   refine Ap rfl ?_
   refine TK.ret ?_
   refine PK.ret ?_
   refine leaf (val0 := vI ((k : Nat) : Int)) (by kernel_rfl) ?_
   exact li (by first | exact (findI_some (p := fun x => outF x 0 100) (l := l) (z := 0) k (by omega) hI0.2 h2).symm | exact (findI_none (p := fun x => outF x 0 100) (l := l) (z := 0) fun j hj => hI0.2 j (by omega)).symm)
  ·
   refine At rfl ?_
   refine NR ⟨[(0, vL eI l), (1, .pv (.fn (.func 98) [] [])), (7, vI ((List.length l : Nat) : Int)), (8, vI ((k : Nat) : Int))], []⟩ (sb rfl rfl rfl) rfl ?_
   refine RO (Body.add rfl rfl (by unfold R64; omega)) ?_
   refine mv rfl ?_
   refine RN ?_
   refine Aq rfl ?_
   refine PK.lp ?_
   refine LP.mk (k + 1) ?_ ?_ (sb rfl rfl rfl)
   · show (k + 1) ≤ List.length l ∧ ∀ j, j < (k + 1) → outF (List.getD l j 0) 0 100 = false
     refine ⟨by omega, fun j hj => ?_⟩; rcases Nat.lt_succ_iff_lt_or_eq.1 hj with h | h; exact hI0.2 j h; subst h; first | exact h2 | exact decide_eq_false h2
   · show List.length l - (k + 1) < List.length l - k
     omega
 ·
  refine At rfl ?_
  refine TK.exit ?_
  refine PK.exit rfl ?_
  refine Ap rfl ?_
  refine NR ⟨[], []⟩ (sb rfl rfl rfl) rfl ?_
  refine ag rfl ?_
  refine RN ?_
  refine Ap rfl ?_
  refine TK.ret ?_
  refine PK.ret ?_
  refine leaf (val0 := vI (-1)) (by kernel_rfl) ?_
  exact li (by first | exact (findI_some (p := fun x => outF x 0 100) (l := l) (z := 0) k (by omega) hI0.2 h2).symm | exact (findI_none (p := fun x => outF x 0 100) (l := l) (z := 0) fun j hj => hI0.2 j (by omega)).symm)
theorem w97 (l : List Int) (hl : l.length ≤ 1000000000000000) : CallOk Tryz.prog 97 [vL eI l, .pv (.fn (.func 98) [] [])] (lookM []) (vB (List.any l (fun x => outF x 0 100))) [] := by
 haveI := tab_ok
 obtain ⟨fn, f1, f2, f3, f4, _, f6⟩ := qf97
 refine callOk_of (Y := tab) (F := fn97) f1 (f2.trans rfl) f3 f4 f6 (Nat.le_of_ble_eq_true rfl) rfl ?_
 clear f1 f2 f3 f4 f6
 show TK _ _ _ _ _ _ ⟨[(0, vL eI l), (1, .pv (.fn (.func 98) [] []))], []⟩
 refine At rfl ?_
 refine NR ⟨[(0, vL eI l), (1, .pv (.fn (.func 98) [] []))], []⟩ (sb rfl rfl rfl) rfl ?_
 refine ag rfl ?_
 refine RN ?_
 refine Ap rfl ?_
 refine NR ⟨[(0, vL eI l), (1, .pv (.fn (.func 98) [] []))], []⟩ (sb rfl rfl rfl) rfl ?_
 refine mv rfl ?_
 refine mv rfl ?_
 refine RO (Body.call (w162 l (by first | omega | exact Nat.le_of_ble_eq_true rfl | (simp only [List.length_take, List.length_drop]; omega))) rfl rfl rfl) ?_
 refine RO (Body.geq rfl rfl) ?_
 refine ag rfl ?_
 refine RN ?_
 refine Ap rfl ?_
 refine TK.ret ?_
 refine PK.ret ?_
 refine leaf (val0 := vB (decide (0 ≤ (findI (fun x => outF x 0 100) l)))) (by kernel_rfl) ?_
 exact lb (by exact findI_nonneg l)
theorem w103 (o c : Tgt) : CallOk Tryz.prog 103 [.pv (.agg [pS (Tgt.name o), pI (Tgt.bright o), pI (Tgt.place o), pI (Tgt.length o), pI (Tgt.from_ o), pI (Tgt.to o), pI (Tgt.limit o)]), .pv (.box [pS (Tgt.name c), pI (Tgt.bright c), pI (Tgt.place c), pI (Tgt.length c), pI (Tgt.from_ c), pI (Tgt.to c), pI (Tgt.limit c)])] (lookM []) (vB (decide (Tgt.name o = Tgt.name c))) [] := by
 haveI := tab_ok
 obtain ⟨fn, f1, f2, f3, f4, _, f6⟩ := qf103
 refine callOk_of (Y := tab) (F := fn103) f1 (f2.trans rfl) f3 f4 f6 (Nat.le_of_ble_eq_true rfl) rfl ?_
 clear f1 f2 f3 f4 f6
 show TK _ _ _ _ _ _ ⟨[(0, .pv (.agg [pS (Tgt.name o), pI (Tgt.bright o), pI (Tgt.place o), pI (Tgt.length o), pI (Tgt.from_ o), pI (Tgt.to o), pI (Tgt.limit o)])), (1, .pv (.box [pS (Tgt.name c), pI (Tgt.bright c), pI (Tgt.place c), pI (Tgt.length c), pI (Tgt.from_ c), pI (Tgt.to c), pI (Tgt.limit c)]))], []⟩
 refine At rfl ?_
 refine NR ⟨[(0, .pv (.agg [pS (Tgt.name o), pI (Tgt.bright o), pI (Tgt.place o), pI (Tgt.length o), pI (Tgt.from_ o), pI (Tgt.to o), pI (Tgt.limit o)])), (1, .pv (.box [pS (Tgt.name c), pI (Tgt.bright c), pI (Tgt.place c), pI (Tgt.length c), pI (Tgt.from_ c), pI (Tgt.to c), pI (Tgt.limit c)]))], []⟩ (sb rfl rfl rfl) rfl ?_
 refine rn rfl ?_
 refine ag rfl ?_
 refine RN ?_
 refine Ap rfl ?_
 refine NR ⟨[(1, .pv (.box [pS (Tgt.name c), pI (Tgt.bright c), pI (Tgt.place c), pI (Tgt.length c), pI (Tgt.from_ c), pI (Tgt.to c), pI (Tgt.limit c)])), (2, .bref 3 0)], [(3, .box 46 [vS (Tgt.name o), vI (Tgt.bright o), vI (Tgt.place o), vI (Tgt.length o), vI (Tgt.from_ o), vI (Tgt.to o), vI (Tgt.limit o)])]⟩ (sb rfl rfl rfl) rfl ?_
 refine RO (Body.fadB rfl fa46_0 rfl) ?_
 refine RO (Body.loadB rfl rfl rfl ag9 sz9 rfl) ?_
 refine RO (Body.fadP rfl fa46_0 rfl) ?_
 refine RO (Body.loadP rfl ag9 sz9) ?_
 refine RO (Body.seql rfl rfl) ?_
 refine ag rfl ?_
 refine RN ?_
 refine Ap rfl ?_
 refine TK.ret ?_
 refine PK.ret ?_
 refine leaf (val0 := vB (decide ((Tgt.name o) = (Tgt.name c)))) (by kernel_rfl) ?_
 exact lb (by rfl)
theorem w163 (l : List Tgt) (c : Tgt) (hl : l.length ≤ 1000000000000000) : CallOk Tryz.prog 163 [vL eT l, .pv (.fn (.func 103) [] [.box [pS (Tgt.name c), pI (Tgt.bright c), pI (Tgt.place c), pI (Tgt.length c), pI (Tgt.from_ c), pI (Tgt.to c), pI (Tgt.limit c)]])] (lookM []) (vI (findI (fun o => decide (Tgt.name o = Tgt.name c)) l)) [] := by
 haveI := tab_ok
 obtain ⟨fn, f1, f2, f3, f4, _, f6⟩ := qf163
 refine callOk_of (Y := tab) (F := fn163) f1 (f2.trans rfl) f3 f4 f6 (Nat.le_of_ble_eq_true rfl) rfl ?_
 clear f1 f2 f3 f4 f6
 show TK _ _ _ _ _ _ ⟨[(0, vL eT l), (1, .pv (.fn (.func 103) [] [.box [pS (Tgt.name c), pI (Tgt.bright c), pI (Tgt.place c), pI (Tgt.length c), pI (Tgt.from_ c), pI (Tgt.to c), pI (Tgt.limit c)]]))], []⟩
 refine At rfl ?_
 refine NR ⟨[(0, vL eT l), (1, .pv (.fn (.func 103) [] [.box [pS (Tgt.name c), pI (Tgt.bright c), pI (Tgt.place c), pI (Tgt.length c), pI (Tgt.from_ c), pI (Tgt.to c), pI (Tgt.limit c)]]))], []⟩ (sb rfl rfl rfl) rfl ?_
 refine ag rfl ?_
 refine RN ?_
 refine Ap rfl ?_
 refine NR ⟨[(0, vL eT l), (1, .pv (.fn (.func 103) [] [.box [pS (Tgt.name c), pI (Tgt.bright c), pI (Tgt.place c), pI (Tgt.length c), pI (Tgt.from_ c), pI (Tgt.to c), pI (Tgt.limit c)]]))], []⟩ (sb rfl rfl rfl) rfl ?_
 refine mv rfl ?_
 refine RO (Body.lenL rfl un25) ?_
 refine mv rfl ?_
 refine RN ?_
 refine Ap rfl ?_
 refine TK.loop (α := Nat) (fun x => ⟨[(0, vL eT l), (1, .pv (.fn (.func 103) [] [.box [pS (Tgt.name c), pI (Tgt.bright c), pI (Tgt.place c), pI (Tgt.length c), pI (Tgt.from_ c), pI (Tgt.to c), pI (Tgt.limit c)]])), (7, vI ((List.length l : Nat) : Int)), (8, vI ((x : Nat) : Int))], []⟩) (fun x => x ≤ List.length l ∧ ∀ j, j < x → decide (Tgt.name (List.getD l j default) = Tgt.name c) = false) (fun x => List.length l - x) 0 ?_ (sb rfl rfl rfl) ?_
 · show 0 ≤ List.length l ∧ ∀ j, j < 0 → decide (Tgt.name (List.getD l j default) = Tgt.name c) = false
   exact ⟨Nat.zero_le _, fun j hj => by omega⟩
 rintro k hI0
 replace hI0 : k ≤ List.length l ∧ ∀ j, j < k → decide (Tgt.name (List.getD l j default) = Tgt.name c) = false := hI0
 show TK _ _ _ _ _ _ ⟨[(0, vL eT l), (1, .pv (.fn (.func 103) [] [.box [pS (Tgt.name c), pI (Tgt.bright c), pI (Tgt.place c), pI (Tgt.length c), pI (Tgt.from_ c), pI (Tgt.to c), pI (Tgt.limit c)]])), (7, vI ((List.length l : Nat) : Int)), (8, vI ((k : Nat) : Int))], []⟩
 refine At rfl ?_
 refine NR ⟨[(0, vL eT l), (1, .pv (.fn (.func 103) [] [.box [pS (Tgt.name c), pI (Tgt.bright c), pI (Tgt.place c), pI (Tgt.length c), pI (Tgt.from_ c), pI (Tgt.to c), pI (Tgt.limit c)]])), (7, vI ((List.length l : Nat) : Int)), (8, vI ((k : Nat) : Int))], []⟩ (sb rfl rfl rfl) rfl ?_
 refine RO (Body.lss rfl rfl) ?_
 refine RN ?_
 refine Ap rfl ?_
 refine TK.norm ⟨[(0, vL eT l), (1, .pv (.fn (.func 103) [] [.box [pS (Tgt.name c), pI (Tgt.bright c), pI (Tgt.place c), pI (Tgt.length c), pI (Tgt.from_ c), pI (Tgt.to c), pI (Tgt.limit c)]])), (7, vI ((List.length l : Nat) : Int)), (8, vI ((k : Nat) : Int)), (9, vB (decide (((k : Nat) : Int) < ((List.length l : Nat) : Int))))], []⟩ (sb rfl rfl rfl) ?_
 refine TK.condP rfl (fun h1 => ?_) (fun h1 => ?_)
 ·
  refine At rfl ?_
  refine NR ⟨[(0, vL eT l), (1, .pv (.fn (.func 103) [] [.box [pS (Tgt.name c), pI (Tgt.bright c), pI (Tgt.place c), pI (Tgt.length c), pI (Tgt.from_ c), pI (Tgt.to c), pI (Tgt.limit c)]])), (7, vI ((List.length l : Nat) : Int)), (8, vI ((k : Nat) : Int))], []⟩ (sb rfl rfl rfl) rfl ?_
  refine mv rfl ?_
  refine ag rfl ?_
  refine RN ?_
  refine Ap rfl ?_
  refine NR ⟨[(0, vL eT l), (1, .pv (.fn (.func 103) [] [.box [pS (Tgt.name c), pI (Tgt.bright c), pI (Tgt.place c), pI (Tgt.length c), pI (Tgt.from_ c), pI (Tgt.to c), pI (Tgt.limit c)]])), (5, vI ((k : Nat) : Int)), (7, vI ((List.length l : Nat) : Int)), (8, vI ((k : Nat) : Int))], []⟩ (sb rfl rfl rfl) rfl ?_
  refine mv rfl ?_
  refine mv rfl ?_
  refine mv rfl ?_
  refine RO (Body.idx (z := default) (i := k) rfl rfl un25 sz46 (fun _ => rfl) rfl (by omega)) ?_
  refine RO (Body.loadA (ds := [pS (Tgt.name (List.getD l k default)), pI (Tgt.bright (List.getD l k default)), pI (Tgt.place (List.getD l k default)), pI (Tgt.length (List.getD l k default)), pI (Tgt.from_ (List.getD l k default)), pI (Tgt.to (List.getD l k default)), pI (Tgt.limit (List.getD l k default))]) rfl ag46 sz46 (Nat.le_of_ble_eq_true rfl) rfl) ?_
  refine RO (Body.call (w103 (List.getD l k default) c) rfl rfl rfl) ?_
  refine RN ?_
  refine Ap rfl ?_
  refine TK.norm ⟨[(0, vL eT l), (1, .pv (.fn (.func 103) [] [.box [pS (Tgt.name c), pI (Tgt.bright c), pI (Tgt.place c), pI (Tgt.length c), pI (Tgt.from_ c), pI (Tgt.to c), pI (Tgt.limit c)]])), (5, vI ((k : Nat) : Int)), (7, vI ((List.length l : Nat) : Int)), (8, vI ((k : Nat) : Int)), (16, vB (decide (Tgt.name (List.getD l k default) = Tgt.name c)))], []⟩ (sb rfl rfl rfl) ?_
  refine TK.condP rfl (fun h2 => ?_) (fun h2 => ?_)
  ·
   refine At rfl ?_
   refine NR ⟨[(5, vI ((k : Nat) : Int))], []⟩ (sb rfl rfl rfl) rfl ?_
   refine mv rfl ?_
   refine ag rfl ?_
   refine RN ?_
   refine Ap rfl ?_
   refine TK.ret ?_
   refine PK.ret ?_
   refine leaf (val0 := vI ((k : Nat) : Int)) (by kernel_rfl) ?_
   exact li (by first | exact (findI_some (p := fun o => decide (Tgt.name o = Tgt.name c)) (l := l) (z := default) k (by omega) hI0.2 (decide_eq_true h2)).symm | exact (findI_none (p := fun o => decide (Tgt.name o = Tgt.name c)) (l := l) (z := default) fun j hj => hI0.2 j (by omega)).symm)
  ·
   refine At rfl ?_
   refine NR ⟨[(0, vL eT l), (1, .pv (.fn (.func 103) [] [.box [pS (Tgt.name c), pI (Tgt.bright c), pI (Tgt.place c), pI (Tgt.length c), pI (Tgt.from_ c), pI (Tgt.to c), pI (Tgt.limit c)]])), (7, vI ((List.length l : Nat) : Int)), (8, vI ((k : Nat) : Int))], []⟩ (sb rfl rfl rfl) rfl ?_
   refine RO (Body.add rfl rfl (by unfold R64; omega)) ?_
   refine mv rfl ?_
   refine RN ?_
   refine Aq rfl ?_
   refine PK.lp ?_
   refine LP.mk (k + 1) ?_ ?_ (sb rfl rfl rfl)
   · show (k + 1) ≤ List.length l ∧ ∀ j, j < (k + 1) → decide (Tgt.name (List.getD l j default) = Tgt.name c) = false
     refine ⟨by omega, fun j hj => ?_⟩; rcases Nat.lt_succ_iff_lt_or_eq.1 hj with h | h; exact hI0.2 j h; subst h; first | exact h2 | exact decide_eq_false h2
   · show List.length l - (k + 1) < List.length l - k
     omega
 ·
  refine At rfl ?_
  refine TK.exit ?_
  refine PK.exit rfl ?_
  refine Ap rfl ?_
  refine NR ⟨[], []⟩ (sb rfl rfl rfl) rfl ?_
  refine ag rfl ?_
  refine RN ?_
  refine Ap rfl ?_
  refine TK.ret ?_
  refine PK.ret ?_
  refine leaf (val0 := vI (-1)) (by kernel_rfl) ?_
  exact li (by first | exact (findI_some (p := fun o => decide (Tgt.name o = Tgt.name c)) (l := l) (z := default) k (by omega) hI0.2 (decide_eq_true h2)).symm | exact (findI_none (p := fun o => decide (Tgt.name o = Tgt.name c)) (l := l) (z := default) fun j hj => hI0.2 j (by omega)).symm)
theorem w102 (l : List Tgt) (c : Tgt) (hl : l.length ≤ 1000000000000000) : CallOk Tryz.prog 102 [vL eT l, .pv (.fn (.func 103) [] [.box [pS (Tgt.name c), pI (Tgt.bright c), pI (Tgt.place c), pI (Tgt.length c), pI (Tgt.from_ c), pI (Tgt.to c), pI (Tgt.limit c)]])] (lookM []) (vB (List.any l (fun o => decide (Tgt.name o = Tgt.name c)))) [] := by
 haveI := tab_ok
 obtain ⟨fn, f1, f2, f3, f4, _, f6⟩ := qf102
 refine callOk_of (Y := tab) (F := fn102) f1 (f2.trans rfl) f3 f4 f6 (Nat.le_of_ble_eq_true rfl) rfl ?_
 clear f1 f2 f3 f4 f6
 show TK _ _ _ _ _ _ ⟨[(0, vL eT l), (1, .pv (.fn (.func 103) [] [.box [pS (Tgt.name c), pI (Tgt.bright c), pI (Tgt.place c), pI (Tgt.length c), pI (Tgt.from_ c), pI (Tgt.to c), pI (Tgt.limit c)]]))], []⟩
 refine At rfl ?_
 refine NR ⟨[(0, vL eT l), (1, .pv (.fn (.func 103) [] [.box [pS (Tgt.name c), pI (Tgt.bright c), pI (Tgt.place c), pI (Tgt.length c), pI (Tgt.from_ c), pI (Tgt.to c), pI (Tgt.limit c)]]))], []⟩ (sb rfl rfl rfl) rfl ?_
 refine ag rfl ?_
 refine RN ?_
 refine Ap rfl ?_
 refine NR ⟨[(0, vL eT l), (1, .pv (.fn (.func 103) [] [.box [pS (Tgt.name c), pI (Tgt.bright c), pI (Tgt.place c), pI (Tgt.length c), pI (Tgt.from_ c), pI (Tgt.to c), pI (Tgt.limit c)]]))], []⟩ (sb rfl rfl rfl) rfl ?_
 refine mv rfl ?_
 refine mv rfl ?_
 refine RO (Body.call (w163 l c (by first | omega | exact Nat.le_of_ble_eq_true rfl | (simp only [List.length_take, List.length_drop]; omega))) rfl rfl rfl) ?_
 refine RO (Body.geq rfl rfl) ?_
 refine ag rfl ?_
 refine RN ?_
 refine Ap rfl ?_
 refine TK.ret ?_
 refine PK.ret ?_
 refine leaf (val0 := vB (decide (0 ≤ (findI (fun o => decide (Tgt.name o = Tgt.name c)) l)))) (by kernel_rfl) ?_
 exact lb (by exact findI_nonneg l)
theorem w105 (t : Tgt) : CallOk Tryz.prog 105 [.pv (.agg [pS (Tgt.name t), pI (Tgt.bright t), pI (Tgt.place t), pI (Tgt.length t), pI (Tgt.from_ t), pI (Tgt.to t), pI (Tgt.limit t)])] (lookM []) (vI (whenF (!(inRangeF t)) 3)) [] := by
 haveI := tab_ok
 obtain ⟨fn, f1, f2, f3, f4, _, f6⟩ := qf105
 refine callOk_of (Y := tab) (F := fn105) f1 (f2.trans rfl) f3 f4 f6 (Nat.le_of_ble_eq_true rfl) rfl ?_
 clear f1 f2 f3 f4 f6
 show TK _ _ _ _ _ _ ⟨[(0, .pv (.agg [pS (Tgt.name t), pI (Tgt.bright t), pI (Tgt.place t), pI (Tgt.length t), pI (Tgt.from_ t), pI (Tgt.to t), pI (Tgt.limit t)]))], []⟩
 refine At rfl ?_
 refine NR ⟨[(0, .pv (.agg [pS (Tgt.name t), pI (Tgt.bright t), pI (Tgt.place t), pI (Tgt.length t), pI (Tgt.from_ t), pI (Tgt.to t), pI (Tgt.limit t)]))], []⟩ (sb rfl rfl rfl) rfl ?_
 refine rn rfl ?_
 refine ag rfl ?_
 refine RN ?_
 refine Ap rfl ?_
 refine NR ⟨[(1, .bref 2 0)], [(2, .box 46 [vS (Tgt.name t), vI (Tgt.bright t), vI (Tgt.place t), vI (Tgt.length t), vI (Tgt.from_ t), vI (Tgt.to t), vI (Tgt.limit t)])]⟩ (sb rfl rfl rfl) rfl ?_
 refine RO (Body.fadB rfl fa46_1 rfl) ?_
 refine RO (Body.loadB rfl rfl rfl ag3 sz3 rfl) ?_
 refine RO (Body.call (w99 (Tgt.bright t) 1 1000) rfl rfl rfl) ?_
 refine RO (Body.fadB rfl fa46_2 rfl) ?_
 refine RO (Body.loadB rfl rfl rfl ag3 sz3 rfl) ?_
 refine RO (Body.call (w99 (Tgt.place t) 0 360) rfl rfl rfl) ?_
 refine RO (Body.fadB rfl fa46_3 rfl) ?_
 refine RO (Body.loadB rfl rfl rfl ag3 sz3 rfl) ?_
 refine RO (Body.call (w99 (Tgt.length t) 1 1440) rfl rfl rfl) ?_
 refine RO (Body.fadB rfl fa46_4 rfl) ?_
 refine RO (Body.loadB rfl rfl rfl ag3 sz3 rfl) ?_
 refine RO (Body.call (w99 (Tgt.from_ t) 0 1440) rfl rfl rfl) ?_
 refine RO (Body.fadB rfl fa46_5 rfl) ?_
 refine RO (Body.loadB rfl rfl rfl ag3 sz3 rfl) ?_
 refine RO (Body.call (w99 (Tgt.to t) 0 1440) rfl rfl rfl) ?_
 refine RO (Body.fadB rfl fa46_6 rfl) ?_
 refine RO (Body.loadB rfl rfl rfl ag3 sz3 rfl) ?_
 refine RO (Body.call (w99 (Tgt.limit t) 0 100) rfl rfl rfl) ?_
 refine RO (Body.runZ (val := .pv (.slice (List.map eI [(withinF (Tgt.bright t) 1 1000), (withinF (Tgt.place t) 0 360), (withinF (Tgt.length t) 1 1440), (withinF (Tgt.from_ t) 0 1440), (withinF (Tgt.to t) 0 1440), (withinF (Tgt.limit t) 0 100)]))) rfl (fun l => Frz.arr l _ _ _ _ _) rfl) ?_
 refine RO (Body.call (w100 [(withinF (Tgt.bright t) 1 1000), (withinF (Tgt.place t) 0 360), (withinF (Tgt.length t) 1 1440), (withinF (Tgt.from_ t) 0 1440), (withinF (Tgt.to t) 0 1440), (withinF (Tgt.limit t) 0 100)] (Nat.le_of_ble_eq_true rfl)) rfl rfl rfl) ?_
 refine ag rfl ?_
 refine RG.nil (fun _ => by kernel_rfl) ?_
 refine Ap rfl ?_
 refine TK.ret ?_
 refine PK.ret ?_
 refine leaf (val0 := vI (firstF [(withinF (Tgt.bright t) 1 1000), (withinF (Tgt.place t) 0 360), (withinF (Tgt.length t) 1 1440), (withinF (Tgt.from_ t) 0 1440), (withinF (Tgt.to t) 0 1440), (withinF (Tgt.limit t) 0 100)])) (by kernel_rfl) ?_
 exact li (by exact first_ranged t)
theorem w22 (start : Int) (W : List Int) (hl : W.length ≤ 1000000000000000) : CallOk Tryz.prog 22 [.pv (.agg [pI start, pL eI W])] (lookM []) (vI (chkNightF start W)) [] := by
 haveI := tab_ok
 obtain ⟨fn, f1, f2, f3, f4, _, f6⟩ := qf22
 refine callOk_of (Y := tab) (F := fn22) f1 (f2.trans rfl) f3 f4 f6 (Nat.le_of_ble_eq_true rfl) rfl ?_
 clear f1 f2 f3 f4 f6
 show TK _ _ _ _ _ _ ⟨[(0, .pv (.agg [pI start, pL eI W]))], []⟩
 refine At rfl ?_
 refine NR ⟨[(0, .pv (.agg [pI start, pL eI W]))], []⟩ (sb rfl rfl rfl) rfl ?_
 refine rn rfl ?_
 refine ag rfl ?_
 refine RN ?_
 refine Ap rfl ?_
 refine NR ⟨[(1, .bref 2 0)], [(2, .box 24 [vI start, vL eI W])]⟩ (sb rfl rfl rfl) rfl ?_
 refine RO (Body.fadB rfl fa24_1 rfl) ?_
 refine RO (Body.loadB rfl rfl rfl ag22 sz22 rfl) ?_
 refine RO (Body.call (w97 W (by first | omega | exact Nat.le_of_ble_eq_true rfl | (simp only [List.length_take, List.length_drop]; omega))) rfl rfl rfl) ?_
 refine ag rfl ?_
 refine RN ?_
 refine Ap rfl ?_
 refine NR ⟨[(1, .bref 2 0), (3, vB (List.any W (fun x => outF x 0 100)))], [(2, .box 24 [vI start, vL eI W])]⟩ (sb rfl rfl rfl) rfl ?_
 refine RO (Body.fadB rfl fa24_0 rfl) ?_
 refine RO (Body.loadB rfl rfl rfl ag3 sz3 rfl) ?_
 refine RO (Body.call (w99 start 0 1440) rfl rfl rfl) ?_
 refine RO (Body.fadB rfl fa24_1 rfl) ?_
 refine RO (Body.loadB rfl rfl rfl ag22 sz22 rfl) ?_
 refine RO (Body.lenL rfl un22) ?_
 refine RO (Body.eql rfl rfl) ?_
 refine RO (Body.call (w101 (decide (((List.length W : Nat) : Int) = 0)) 12) rfl rfl rfl) ?_
 refine RO (Body.fadB rfl fa24_1 rfl) ?_
 refine RO (Body.loadB rfl rfl rfl ag22 sz22 rfl) ?_
 refine RO (Body.lenL rfl un22) ?_
 refine RO (Body.gtr rfl rfl) ?_
 refine RO (Body.call (w101 (decide (24 < ((List.length W : Nat) : Int))) 5) rfl rfl rfl) ?_
 refine mv rfl ?_
 refine RO (Body.call (w101 (List.any W (fun x => outF x 0 100)) 3) rfl rfl rfl) ?_
 refine RO (Body.runZ (val := .pv (.slice (List.map eI [(withinF start 0 1440), (whenF (decide (((List.length W : Nat) : Int) = 0)) 12), (whenF (decide (24 < ((List.length W : Nat) : Int))) 5), (whenF (List.any W (fun x => outF x 0 100)) 3)]))) rfl (fun l => Frz.arr l _ _ _ _ _) rfl) ?_
 refine RO (Body.call (w100 [(withinF start 0 1440), (whenF (decide (((List.length W : Nat) : Int) = 0)) 12), (whenF (decide (24 < ((List.length W : Nat) : Int))) 5), (whenF (List.any W (fun x => outF x 0 100)) 3)] (Nat.le_of_ble_eq_true rfl)) rfl rfl rfl) ?_
 refine ag rfl ?_
 refine RG.nil (fun _ => by kernel_rfl) ?_
 refine Ap rfl ?_
 refine TK.ret ?_
 refine PK.ret ?_
 refine leaf (val0 := vI (firstF [(withinF start 0 1440), (whenF (decide (((List.length W : Nat) : Int) = 0)) 12), (whenF (decide (24 < ((List.length W : Nat) : Int))) 5), (whenF (List.any W (fun x => outF x 0 100)) 3)])) (by kernel_rfl) ?_
 exact li (by exact first_night start W)
theorem w23 (l : List Tgt) (hl : l.length ≤ 1000000000000000) : CallOk Tryz.prog 23 [vL eT l] (lookM []) (vI (chkTgtsF l)) [] := by
 haveI := tab_ok
 obtain ⟨fn, f1, f2, f3, f4, _, f6⟩ := qf23
 refine callOk_of (Y := tab) (F := fn23) f1 (f2.trans rfl) f3 f4 f6 (Nat.le_of_ble_eq_true rfl) rfl ?_
 clear f1 f2 f3 f4 f6
 show TK _ _ _ _ _ _ ⟨[(0, vL eT l)], []⟩
 refine At rfl ?_
 refine NR ⟨[(0, vL eT l)], []⟩ (sb rfl rfl rfl) rfl ?_
 refine ag rfl ?_
 refine RN ?_
 refine Ap rfl ?_
 refine NR ⟨[(0, vL eT l)], []⟩ (sb rfl rfl rfl) rfl ?_
 refine mv rfl ?_
 refine RO (Body.lenL rfl un25) ?_
 refine RO (Body.gtr rfl rfl) ?_
 refine RN ?_
 refine Ap rfl ?_
 refine TK.norm ⟨[(0, vL eT l), (9, vB (decide (32 < ((List.length l : Nat) : Int))))], []⟩ (sb rfl rfl rfl) ?_
 refine TK.condP rfl (fun h1 => ?_) (fun h1 => ?_)
 ·
  refine At rfl ?_
  refine NR ⟨[], []⟩ (sb rfl rfl rfl) rfl ?_
  refine ag rfl ?_
  refine RN ?_
  refine Ap rfl ?_
  refine TK.ret ?_
  refine PK.ret ?_
  refine leaf (val0 := vI 5) (by kernel_rfl) ?_
  exact li (by first
          | (unfold chkTgtsF; rw [decide_eq_true (by omega)]; rfl)
          | (rw [first_one] at h3 ⊢; rw [hI0.2, drop_at l k default (by omega), chkGo, if_neg (by omega)])
          | (rw [hI0.2, List.drop_eq_nil_of_le (by omega)]; rfl))
 ·
  refine At rfl ?_
  refine NR ⟨[(0, vL eT l)], []⟩ (sb rfl rfl rfl) rfl ?_
  refine mv rfl ?_
  refine RO (Body.lenL rfl un25) ?_
  refine mv rfl ?_
  refine RN ?_
  refine Ap rfl ?_
  refine TK.loop (α := Nat) (fun x => ⟨[(0, vL eT l), (10, vL eT l), (11, vI ((List.length l : Nat) : Int)), (12, vI ((x : Nat) : Int))], []⟩) (fun x => x ≤ List.length l ∧ chkTgtsF l = chkGo (List.take x l) (List.drop x l)) (fun x => List.length l - x) 0 ?_ (sb rfl rfl rfl) ?_
  · show 0 ≤ List.length l ∧ chkTgtsF l = chkGo (List.take 0 l) (List.drop 0 l)
    refine ⟨Nat.zero_le _, ?_⟩; unfold chkTgtsF; rw [decide_eq_false (by omega)]; rfl
  rintro k hI0
  replace hI0 : k ≤ List.length l ∧ chkTgtsF l = chkGo (List.take k l) (List.drop k l) := hI0
  show TK _ _ _ _ _ _ ⟨[(0, vL eT l), (10, vL eT l), (11, vI ((List.length l : Nat) : Int)), (12, vI ((k : Nat) : Int))], []⟩
  refine At rfl ?_
  refine NR ⟨[(0, vL eT l), (10, vL eT l), (11, vI ((List.length l : Nat) : Int)), (12, vI ((k : Nat) : Int))], []⟩ (sb rfl rfl rfl) rfl ?_
  refine RO (Body.lss rfl rfl) ?_
  refine RN ?_
  refine Ap rfl ?_
  refine TK.norm ⟨[(0, vL eT l), (10, vL eT l), (11, vI ((List.length l : Nat) : Int)), (12, vI ((k : Nat) : Int)), (13, vB (decide (((k : Nat) : Int) < ((List.length l : Nat) : Int))))], []⟩ (sb rfl rfl rfl) ?_
  refine TK.condP rfl (fun h2 => ?_) (fun h2 => ?_)
  ·
   refine At rfl ?_
   refine NR ⟨[(0, vL eT l), (10, vL eT l), (11, vI ((List.length l : Nat) : Int)), (12, vI ((k : Nat) : Int))], []⟩ (sb rfl rfl rfl) rfl ?_
   refine mv rfl ?_
   refine RO (Body.idx (z := default) (i := k) rfl rfl un25 sz46 (fun _ => rfl) rfl (by omega)) ?_
   refine RO (Body.loadA (ds := [pS (Tgt.name (List.getD l k default)), pI (Tgt.bright (List.getD l k default)), pI (Tgt.place (List.getD l k default)), pI (Tgt.length (List.getD l k default)), pI (Tgt.from_ (List.getD l k default)), pI (Tgt.to (List.getD l k default)), pI (Tgt.limit (List.getD l k default))]) rfl ag46 sz46 (Nat.le_of_ble_eq_true rfl) rfl) ?_
   refine rn rfl ?_
   refine ag rfl ?_
   refine rn rfl ?_
   refine RN ?_
   refine Ap rfl ?_
   refine TK.norm ⟨[(0, vL eT l), (3, vI ((k : Nat) : Int)), (4, .bref 5 0), (10, vL eT l), (11, vI ((List.length l : Nat) : Int)), (12, vI ((k : Nat) : Int))], [(5, .box 46 [vS (Tgt.name (List.getD l k default)), vI (Tgt.bright (List.getD l k default)), vI (Tgt.place (List.getD l k default)), vI (Tgt.length (List.getD l k default)), vI (Tgt.from_ (List.getD l k default)), vI (Tgt.to (List.getD l k default)), vI (Tgt.limit (List.getD l k default))])]⟩ (sb rfl rfl rfl) ?_
   refine TK.frzB (t := 4) rfl rfl rfl ?_
   refine NR ⟨[(0, vL eT l), (3, vI ((k : Nat) : Int)), (4, .pv (.box [pS (Tgt.name (List.getD l k default)), pI (Tgt.bright (List.getD l k default)), pI (Tgt.place (List.getD l k default)), pI (Tgt.length (List.getD l k default)), pI (Tgt.from_ (List.getD l k default)), pI (Tgt.to (List.getD l k default)), pI (Tgt.limit (List.getD l k default))])), (10, vL eT l), (11, vI ((List.length l : Nat) : Int)), (12, vI ((k : Nat) : Int))], []⟩ (sb rfl rfl rfl) rfl ?_
   refine mv rfl ?_
   refine mv rfl ?_
   refine RO (Body.slT (j := k) rfl rfl un25 sz46 rfl (by omega)) ?_
   refine rn rfl ?_
   refine RO (Body.call (w102 (List.take k l) (List.getD l k default) (by first | omega | exact Nat.le_of_ble_eq_true rfl | (simp only [List.length_take, List.length_drop]; omega))) rfl rfl rfl) ?_
   refine ag rfl ?_
   refine RN ?_
   refine Ap rfl ?_
   refine NR ⟨[(0, vL eT l), (4, .pv (.box [pS (Tgt.name (List.getD l k default)), pI (Tgt.bright (List.getD l k default)), pI (Tgt.place (List.getD l k default)), pI (Tgt.length (List.getD l k default)), pI (Tgt.from_ (List.getD l k default)), pI (Tgt.to (List.getD l k default)), pI (Tgt.limit (List.getD l k default))])), (5, vB (List.any (List.take k l) (fun o => decide (Tgt.name o = Tgt.name (List.getD l k default))))), (10, vL eT l), (11, vI ((List.length l : Nat) : Int)), (12, vI ((k : Nat) : Int))], []⟩ (sb rfl rfl rfl) rfl ?_
   refine RO (Body.fadP rfl fa46_0 rfl) ?_
   refine RO (Body.loadP rfl ag9 sz9) ?_
   refine RO (Body.call (w104 (Tgt.name (List.getD l k default))) rfl rfl rfl) ?_
   refine mv rfl ?_
   refine RO (Body.call (w101 (List.any (List.take k l) (fun o => decide (Tgt.name o = Tgt.name (List.getD l k default)))) 9) rfl rfl rfl) ?_
   refine RO (Body.loadA (ds := [pS (Tgt.name (List.getD l k default)), pI (Tgt.bright (List.getD l k default)), pI (Tgt.place (List.getD l k default)), pI (Tgt.length (List.getD l k default)), pI (Tgt.from_ (List.getD l k default)), pI (Tgt.to (List.getD l k default)), pI (Tgt.limit (List.getD l k default))]) rfl ag46 sz46 (Nat.le_of_ble_eq_true rfl) rfl) ?_
   refine RO (Body.call (w105 (List.getD l k default)) rfl rfl rfl) ?_
   refine RO (Body.runZ (val := .pv (.slice (List.map eI [(whenF (!(isNameF (Tgt.name (List.getD l k default)))) 8), (whenF (List.any (List.take k l) (fun o => decide (Tgt.name o = Tgt.name (List.getD l k default)))) 9), (whenF (!(inRangeF (List.getD l k default))) 3)]))) rfl (fun l => Frz.arr l _ _ _ _ _) rfl) ?_
   refine RO (Body.call (w100 [(whenF (!(isNameF (Tgt.name (List.getD l k default)))) 8), (whenF (List.any (List.take k l) (fun o => decide (Tgt.name o = Tgt.name (List.getD l k default)))) 9), (whenF (!(inRangeF (List.getD l k default))) 3)] (Nat.le_of_ble_eq_true rfl)) rfl rfl rfl) ?_
   refine ag rfl ?_
   refine RG.nil (fun _ => by kernel_rfl) ?_
   refine Ap rfl ?_
   refine NR ⟨[(0, vL eT l), (6, vI (firstF [(whenF (!(isNameF (Tgt.name (List.getD l k default)))) 8), (whenF (List.any (List.take k l) (fun o => decide (Tgt.name o = Tgt.name (List.getD l k default)))) 9), (whenF (!(inRangeF (List.getD l k default))) 3)])), (10, vL eT l), (11, vI ((List.length l : Nat) : Int)), (12, vI ((k : Nat) : Int))], []⟩ (sb rfl rfl rfl) rfl ?_
   refine mv rfl ?_
   refine RO (Body.neq rfl rfl) ?_
   refine RN ?_
   refine Ap rfl ?_
   refine TK.norm ⟨[(0, vL eT l), (6, vI (firstF [(whenF (!(isNameF (Tgt.name (List.getD l k default)))) 8), (whenF (List.any (List.take k l) (fun o => decide (Tgt.name o = Tgt.name (List.getD l k default)))) 9), (whenF (!(inRangeF (List.getD l k default))) 3)])), (10, vL eT l), (11, vI ((List.length l : Nat) : Int)), (12, vI ((k : Nat) : Int)), (32, vB (decide ((firstF [(whenF (!(isNameF (Tgt.name (List.getD l k default)))) 8), (whenF (List.any (List.take k l) (fun o => decide (Tgt.name o = Tgt.name (List.getD l k default)))) 9), (whenF (!(inRangeF (List.getD l k default))) 3)]) ≠ 0)))], []⟩ (sb rfl rfl rfl) ?_
   refine TK.condP rfl (fun h3 => ?_) (fun h3 => ?_)
   ·
    refine At rfl ?_
    refine NR ⟨[(6, vI (firstF [(whenF (!(isNameF (Tgt.name (List.getD l k default)))) 8), (whenF (List.any (List.take k l) (fun o => decide (Tgt.name o = Tgt.name (List.getD l k default)))) 9), (whenF (!(inRangeF (List.getD l k default))) 3)]))], []⟩ (sb rfl rfl rfl) rfl ?_
    refine mv rfl ?_
    refine ag rfl ?_
    refine RN ?_
    refine Ap rfl ?_
    refine TK.ret ?_
    refine PK.ret ?_
    refine leaf (val0 := vI (firstF [(whenF (!(isNameF (Tgt.name (List.getD l k default)))) 8), (whenF (List.any (List.take k l) (fun o => decide (Tgt.name o = Tgt.name (List.getD l k default)))) 9), (whenF (!(inRangeF (List.getD l k default))) 3)])) (by kernel_rfl) ?_
    exact li (by first
          | (unfold chkTgtsF; rw [decide_eq_true (by omega)]; rfl)
          | (rw [first_one] at h3 ⊢; rw [hI0.2, drop_at l k default (by omega), chkGo, if_neg (by omega)])
          | (rw [hI0.2, List.drop_eq_nil_of_le (by omega)]; rfl))
   ·
    refine At rfl ?_
    refine NR ⟨[(0, vL eT l), (10, vL eT l), (11, vI ((List.length l : Nat) : Int)), (12, vI ((k : Nat) : Int))], []⟩ (sb rfl rfl rfl) rfl ?_
    refine RO (Body.add rfl rfl (by unfold R64; omega)) ?_
    refine mv rfl ?_
    refine RN ?_
    refine Aq rfl ?_
    refine PK.lp ?_
    refine LP.mk (k + 1) ?_ ?_ (sb rfl rfl rfl)
    · show (k + 1) ≤ List.length l ∧ chkTgtsF l = chkGo (List.take (k + 1) l) (List.drop (k + 1) l)
      refine ⟨by omega, ?_⟩; rw [hI0.2, drop_at l k default (by omega), take_succ_at l k default (by omega), chkGo, if_pos]; rw [first_one] at h3; omega
    · show List.length l - (k + 1) < List.length l - k
      omega
  ·
   refine At rfl ?_
   refine TK.exit ?_
   refine PK.exit rfl ?_
   refine Ap rfl ?_
   refine NR ⟨[], []⟩ (sb rfl rfl rfl) rfl ?_
   refine ag rfl ?_
   refine RN ?_
   refine Ap rfl ?_
   refine TK.ret ?_
   refine PK.ret ?_
   refine leaf (val0 := vI 0) (by kernel_rfl) ?_
   exact li (by first
          | (unfold chkTgtsF; rw [decide_eq_true (by omega)]; rfl)
          | (rw [first_one] at h3 ⊢; rw [hI0.2, drop_at l k default (by omega), chkGo, if_neg (by omega)])
          | (rw [hI0.2, List.drop_eq_nil_of_le (by omega)]; rfl))
end Go.Lens.Tb
end
section
namespace Go.Lens.Tb
set_option linter.unusedSectionVars false
theorem begF_found {W : List Int} {t : Tgt} {e b : Int} (ht : VT t) (h1 : e ≤ b) (h2 : t.from_ ≤ b) (h3 : b ≤ min t.to (60 * (W.length : Int)) - t.length) (h4 : ∀ i, Max.max e t.from_ ≤ i → i < b → canF W t i = false) (hc : calmM W t.limit b t.length.toNat = true) : begF W t e = b := by
  unfold begF
  refine searchF_some h1 (by omega) (fun i hi hi2 => ?_) ?_
  · by_cases hf : i < t.from_
    · exact canF_no_from hf
    · exact h4 i (by omega) hi2
  · rw [canF_calm h2 (by omega) (by omega)]; exact hc
theorem begF_none {W : List Int} {t : Tgt} {e b : Int} (h3 : ¬ b ≤ min t.to (60 * (W.length : Int)) - t.length) (h4 : ∀ i, Max.max e t.from_ ≤ i → i < b → canF W t i = false) : begF W t e = -1 := by
  unfold begF
  refine searchF_none fun i hi hi2 => ?_
  by_cases hf : i < t.from_
  · exact canF_no_from hf
  · by_cases hb : i < b
    · exact h4 i (by omega) hb
    · exact canF_no_last (by omega)
theorem tl_parts {start : Int} {W : List Int} {l : List Tgt} (h : firstF [chkNightF start W, chkTgtsF l] = 0) : (0 ≤ start ∧ start ≤ 1440 ∧ 1 ≤ W.length ∧ W.length ≤ 24) ∧ l.length ≤ 32 ∧ ∀ t ∈ l, VT t := by
  have h1 : chkNightF start W = 0 := by
    simp only [firstF] at h; split at h
    · assumption
    · omega
  rw [firstF, if_pos h1] at h
  have h2 : chkTgtsF l = 0 := by
    simp only [firstF] at h; split at h
    · assumption
    · omega
  exact ⟨chkNight_zero h1, chkTgts_zero h2⟩
def badB (start : Int) (W : List Int) (t : Tgt) (e : Int) : Int := firstF [chkNightF start W, chkTgtsF [t], withinF e 0 1440]
def begT (start : Int) (W : List Int) (t : Tgt) (e : Int) : Int := if badB start W t e ≠ 0 then 0 else if begF W t e < 0 then 0 else begF W t e
def begE (start : Int) (W : List Int) (t : Tgt) (e : Int) : Int := if badB start W t e ≠ 0 then badB start W t e else if begF W t e < 0 then 7 else 0
def badT (start : Int) (W : List Int) (l : List Tgt) (o : List Int) : Int := firstF [chkNightF start W, chkTgtsF l, chkOrdF l.length o]
def tlT (start : Int) (W : List Int) (l : List Tgt) (o : List Int) : List Int := if badT start W l o ≠ 0 then [] else (tlF start W l o).getD []
def tlE (start : Int) (W : List Int) (l : List Tgt) (o : List Int) : Int := if badT start W l o ≠ 0 then badT start W l o else (bif (tlF start W l o).isSome then 0 else 23)
def afterF (start : Int) (l : List Tgt) (o : List Int) (b : Int) (t : Tgt) : Int := if o.length = 0 then start else b + (l.getD (o.getD (o.length - 1) 0).toNat default).length + apartF (l.getD (o.getD (o.length - 1) 0).toNat default).place t.place
end Go.Lens.Tb
end
section
namespace Go.Lens.Tb
open Go.Proofs
variable [Lz]
set_option linter.unusedSectionVars false
set_option maxRecDepth 100000
attribute [local irreducible] TK PK T RG EfR Body
theorem ag24 : aggT tab 24 = some true := by kernel_rfl
theorem sz24 : szT tab 24 = some 2 := by kernel_rfl
theorem w107 (start : Int) (W : List Int) (t : Tgt) (e : Int) (ht : VT t) (h : -1000000 ≤ e ∧ e ≤ 1000000 ∧ W.length ≤ 1000) : CallOk Tryz.prog 107 [.pv (.agg [pI start, pL eI W]), .pv (.agg [pS (Tgt.name t), pI (Tgt.bright t), pI (Tgt.place t), pI (Tgt.length t), pI (Tgt.from_ t), pI (Tgt.to t), pI (Tgt.limit t)]), vI e] (lookM []) (.tup [vI (if begF W t e < 0 then 0 else begF W t e), vB (decide (0 ≤ begF W t e))]) [] := by
 haveI := tab_ok
 obtain ⟨fn, f1, f2, f3, f4, _, f6⟩ := qf107
 refine callOk_of (Y := tab) (F := fn107) f1 (f2.trans rfl) f3 f4 f6 (Nat.le_of_ble_eq_true rfl) rfl ?_
 clear f1 f2 f3 f4 f6
 show TK _ _ _ _ _ _ ⟨[(0, .pv (.agg [pI start, pL eI W])), (1, .pv (.agg [pS (Tgt.name t), pI (Tgt.bright t), pI (Tgt.place t), pI (Tgt.length t), pI (Tgt.from_ t), pI (Tgt.to t), pI (Tgt.limit t)])), (2, vI e)], []⟩
 refine At rfl ?_
 refine NR ⟨[(0, .pv (.agg [pI start, pL eI W])), (1, .pv (.agg [pS (Tgt.name t), pI (Tgt.bright t), pI (Tgt.place t), pI (Tgt.length t), pI (Tgt.from_ t), pI (Tgt.to t), pI (Tgt.limit t)])), (2, vI e)], []⟩ (sb rfl rfl rfl) rfl ?_
 refine rn rfl ?_
 refine rn rfl ?_
 refine ag rfl ?_
 refine ag rfl ?_
 refine RN ?_
 refine Ap rfl ?_
 refine NR ⟨[(2, vI e), (3, .bref 4 0), (4, .bref 5 0)], [(4, .box 24 [vI start, vL eI W]), (5, .box 46 [vS (Tgt.name t), vI (Tgt.bright t), vI (Tgt.place t), vI (Tgt.length t), vI (Tgt.from_ t), vI (Tgt.to t), vI (Tgt.limit t)])]⟩ (sb rfl rfl rfl) rfl ?_
 refine RO (Body.fadB rfl fa46_5 rfl) ?_
 refine RO (Body.loadB rfl rfl rfl ag3 sz3 rfl) ?_
 refine RO (Body.fadB rfl fa24_1 rfl) ?_
 refine RO (Body.loadB rfl rfl rfl ag22 sz22 rfl) ?_
 refine RO (Body.lenL rfl un22) ?_
 refine RO (Body.mul rfl rfl (by unfold R64; omega)) ?_
 refine RO (Body.min rfl rfl) ?_
 refine RO (Body.fadB rfl fa46_3 rfl) ?_
 refine RO (Body.loadB rfl rfl rfl ag3 sz3 rfl) ?_
 refine RO (Body.sub rfl rfl (by unfold R64; omega)) ?_
 refine ag rfl ?_
 refine RN ?_
 refine Ap rfl ?_
 refine NR ⟨[(2, vI e), (3, .bref 4 0), (4, .bref 5 0), (8, vI ((min (Tgt.to t) (60 * ((List.length W : Nat) : Int))) - (Tgt.length t)))], [(4, .box 24 [vI start, vL eI W]), (5, .box 46 [vS (Tgt.name t), vI (Tgt.bright t), vI (Tgt.place t), vI (Tgt.length t), vI (Tgt.from_ t), vI (Tgt.to t), vI (Tgt.limit t)])]⟩ (sb rfl rfl rfl) rfl ?_
 refine mv rfl ?_
 refine RO (Body.fadB rfl fa46_4 rfl) ?_
 refine RO (Body.loadB rfl rfl rfl ag3 sz3 rfl) ?_
 refine RO (Body.max rfl rfl) ?_
 refine ag rfl ?_
 refine RN ?_
 refine Ap rfl ?_
 refine TK.loop (α := Int) (fun x => ⟨[(3, .bref 4 0), (4, .bref 5 0), (8, vI ((min (Tgt.to t) (60 * ((List.length W : Nat) : Int))) - (Tgt.length t))), (9, vI x)], [(4, .box 24 [vI start, vL eI W]), (5, .box 46 [vS (Tgt.name t), vI (Tgt.bright t), vI (Tgt.place t), vI (Tgt.length t), vI (Tgt.from_ t), vI (Tgt.to t), vI (Tgt.limit t)])]⟩) (fun x => Max.max e t.from_ ≤ x ∧ x ≤ 1000001 ∧ ∀ i, Max.max e t.from_ ≤ i → i < x → canF W t i = false) (fun x => (1000002 - x).toNat) (max e (Tgt.from_ t)) ?_ (sb rfl rfl rfl) ?_
 · show Max.max e t.from_ ≤ (max e (Tgt.from_ t)) ∧ (max e (Tgt.from_ t)) ≤ 1000001 ∧ ∀ i, Max.max e t.from_ ≤ i → i < (max e (Tgt.from_ t)) → canF W t i = false
   exact ⟨by omega, by omega, fun i hi hi2 => by omega⟩
 rintro b hI0
 replace hI0 : Max.max e t.from_ ≤ b ∧ b ≤ 1000001 ∧ ∀ i, Max.max e t.from_ ≤ i → i < b → canF W t i = false := hI0
 show TK _ _ _ _ _ _ ⟨[(3, .bref 4 0), (4, .bref 5 0), (8, vI ((min (Tgt.to t) (60 * ((List.length W : Nat) : Int))) - (Tgt.length t))), (9, vI b)], [(4, .box 24 [vI start, vL eI W]), (5, .box 46 [vS (Tgt.name t), vI (Tgt.bright t), vI (Tgt.place t), vI (Tgt.length t), vI (Tgt.from_ t), vI (Tgt.to t), vI (Tgt.limit t)])]⟩
 refine At rfl ?_
 refine NR ⟨[(3, .bref 4 0), (4, .bref 5 0), (8, vI ((min (Tgt.to t) (60 * ((List.length W : Nat) : Int))) - (Tgt.length t))), (9, vI b)], [(4, .box 24 [vI start, vL eI W]), (5, .box 46 [vS (Tgt.name t), vI (Tgt.bright t), vI (Tgt.place t), vI (Tgt.length t), vI (Tgt.from_ t), vI (Tgt.to t), vI (Tgt.limit t)])]⟩ (sb rfl rfl rfl) rfl ?_
 refine mv rfl ?_
 refine mv rfl ?_
 refine RO (Body.leq rfl rfl) ?_
 refine RN ?_
 refine Ap rfl ?_
 refine TK.norm ⟨[(3, .bref 4 0), (4, .bref 5 0), (8, vI ((min (Tgt.to t) (60 * ((List.length W : Nat) : Int))) - (Tgt.length t))), (9, vI b), (28, vB (decide (b ≤ ((min (Tgt.to t) (60 * ((List.length W : Nat) : Int))) - (Tgt.length t)))))], [(4, .box 24 [vI start, vL eI W]), (5, .box 46 [vS (Tgt.name t), vI (Tgt.bright t), vI (Tgt.place t), vI (Tgt.length t), vI (Tgt.from_ t), vI (Tgt.to t), vI (Tgt.limit t)])]⟩ (sb rfl rfl rfl) ?_
 refine TK.condP rfl (fun h1 => ?_) (fun h1 => ?_)
 ·
  refine At rfl ?_
  refine NR ⟨[(3, .bref 4 0), (4, .bref 5 0), (8, vI ((min (Tgt.to t) (60 * ((List.length W : Nat) : Int))) - (Tgt.length t))), (9, vI b)], [(4, .box 24 [vI start, vL eI W]), (5, .box 46 [vS (Tgt.name t), vI (Tgt.bright t), vI (Tgt.place t), vI (Tgt.length t), vI (Tgt.from_ t), vI (Tgt.to t), vI (Tgt.limit t)])]⟩ (sb rfl rfl rfl) rfl ?_
  refine ag rfl ?_
  refine RN ?_
  refine Ap rfl ?_
  refine NR ⟨[(3, .bref 4 0), (4, .bref 5 0), (8, vI ((min (Tgt.to t) (60 * ((List.length W : Nat) : Int))) - (Tgt.length t))), (9, vI b), (10, vB true)], [(4, .box 24 [vI start, vL eI W]), (5, .box 46 [vS (Tgt.name t), vI (Tgt.bright t), vI (Tgt.place t), vI (Tgt.length t), vI (Tgt.from_ t), vI (Tgt.to t), vI (Tgt.limit t)])]⟩ (sb rfl rfl rfl) rfl ?_
  refine mv rfl ?_
  refine RO (Body.quoN rfl rfl (by omega) (by decide) (by unfold R64; omega)) ?_
  refine ag rfl ?_
  refine RN ?_
  refine Ap rfl ?_
  refine TK.loop (α := Int × Bool) (fun x => ⟨[(3, .bref 4 0), (4, .bref 5 0), (8, vI ((min (Tgt.to t) (60 * ((List.length W : Nat) : Int))) - (Tgt.length t))), (9, vI b), (10, vB x.2), (11, vI x.1)], [(4, .box 24 [vI start, vL eI W]), (5, .box 46 [vS (Tgt.name t), vI (Tgt.bright t), vI (Tgt.place t), vI (Tgt.length t), vI (Tgt.from_ t), vI (Tgt.to t), vI (Tgt.limit t)])]⟩) (fun x => b / 60 ≤ x.1 ∧ x.1 ≤ (b + t.length - 1) / 60 + 1 ∧ (x.2 = true → ∀ i : Int, b / 60 ≤ i → i < x.1 → W.getD i.toNat 0 ≤ t.limit) ∧ ((∀ i : Int, b / 60 ≤ i → i < x.1 → W.getD i.toNat 0 ≤ t.limit) → x.2 = true)) (fun x => ((b + t.length - 1) / 60 + 1 - x.1).toNat) ((b / 60), true) ?_ (sb rfl rfl rfl) ?_
  · show b / 60 ≤ (b / 60) ∧ (b / 60) ≤ (b + t.length - 1) / 60 + 1 ∧ (true = true → ∀ i : Int, b / 60 ≤ i → i < (b / 60) → W.getD i.toNat 0 ≤ t.limit) ∧ ((∀ i : Int, b / 60 ≤ i → i < (b / 60) → W.getD i.toNat 0 ≤ t.limit) → true = true)
    exact ⟨by omega, by omega, fun _ i hi hi2 => by omega, fun _ => rfl⟩
  rintro ⟨hh, calm⟩ hI1
  replace hI1 : b / 60 ≤ hh ∧ hh ≤ (b + t.length - 1) / 60 + 1 ∧ (calm = true → ∀ i : Int, b / 60 ≤ i → i < hh → W.getD i.toNat 0 ≤ t.limit) ∧ ((∀ i : Int, b / 60 ≤ i → i < hh → W.getD i.toNat 0 ≤ t.limit) → calm = true) := hI1
  show TK _ _ _ _ _ _ ⟨[(3, .bref 4 0), (4, .bref 5 0), (8, vI ((min (Tgt.to t) (60 * ((List.length W : Nat) : Int))) - (Tgt.length t))), (9, vI b), (10, vB calm), (11, vI hh)], [(4, .box 24 [vI start, vL eI W]), (5, .box 46 [vS (Tgt.name t), vI (Tgt.bright t), vI (Tgt.place t), vI (Tgt.length t), vI (Tgt.from_ t), vI (Tgt.to t), vI (Tgt.limit t)])]⟩
  refine At rfl ?_
  refine NR ⟨[(3, .bref 4 0), (4, .bref 5 0), (8, vI ((min (Tgt.to t) (60 * ((List.length W : Nat) : Int))) - (Tgt.length t))), (9, vI b), (10, vB calm), (11, vI hh)], [(4, .box 24 [vI start, vL eI W]), (5, .box 46 [vS (Tgt.name t), vI (Tgt.bright t), vI (Tgt.place t), vI (Tgt.length t), vI (Tgt.from_ t), vI (Tgt.to t), vI (Tgt.limit t)])]⟩ (sb rfl rfl rfl) rfl ?_
  refine mv rfl ?_
  refine mv rfl ?_
  refine RO (Body.fadB rfl fa46_3 rfl) ?_
  refine RO (Body.loadB rfl rfl rfl ag3 sz3 rfl) ?_
  refine RO (Body.add rfl rfl (by unfold R64; omega)) ?_
  refine RO (Body.sub rfl rfl (by unfold R64; omega)) ?_
  refine RO (Body.quoN rfl rfl (by omega) (by decide) (by unfold R64; omega)) ?_
  refine RO (Body.leq rfl rfl) ?_
  refine RN ?_
  refine Ap rfl ?_
  refine TK.norm ⟨[(3, .bref 4 0), (4, .bref 5 0), (8, vI ((min (Tgt.to t) (60 * ((List.length W : Nat) : Int))) - (Tgt.length t))), (9, vI b), (10, vB calm), (11, vI hh), (40, vB (decide (hh ≤ (((b + (Tgt.length t)) - 1) / 60))))], [(4, .box 24 [vI start, vL eI W]), (5, .box 46 [vS (Tgt.name t), vI (Tgt.bright t), vI (Tgt.place t), vI (Tgt.length t), vI (Tgt.from_ t), vI (Tgt.to t), vI (Tgt.limit t)])]⟩ (sb rfl rfl rfl) ?_
  refine TK.condP rfl (fun h2 => ?_) (fun h2 => ?_)
  ·
   refine At rfl ?_
   refine NR ⟨[(3, .bref 4 0), (4, .bref 5 0), (8, vI ((min (Tgt.to t) (60 * ((List.length W : Nat) : Int))) - (Tgt.length t))), (9, vI b), (10, vB calm), (11, vI hh)], [(4, .box 24 [vI start, vL eI W]), (5, .box 46 [vS (Tgt.name t), vI (Tgt.bright t), vI (Tgt.place t), vI (Tgt.length t), vI (Tgt.from_ t), vI (Tgt.to t), vI (Tgt.limit t)])]⟩ (sb rfl rfl rfl) rfl ?_
   refine mv rfl ?_
   refine mv rfl ?_
   refine RG.cons (EfR.sym rfl (fun hc => Body.fadB rfl fa24_1 rfl) rfl) ?_
   refine RG.cons (EfR.sym rfl (fun hc => Body.loadB (ev1_gd rfl hc) rfl rfl ag22 sz22 rfl) rfl) ?_
   refine RG.cons (EfR.sym rfl (fun hc => Body.move rfl) rfl) ?_
   refine RG.cons (EfR.sym rfl (fun hc => Body.idx (z := 0) (i := (Int.toNat hh)) (ev1_gd rfl hc) (ev1_gd rfl hc) un22 sz3 (fun _ => rfl) (Int.toNat_of_nonneg (by omega)).symm (by omega)) rfl) ?_
   refine RG.cons (EfR.sym rfl (fun hc => Body.loadP (ev1_gd rfl hc) ag3 sz3) rfl) ?_
   refine RG.cons (EfR.sym rfl (fun hc => Body.fadB rfl fa46_6 rfl) rfl) ?_
   refine RG.cons (EfR.sym rfl (fun hc => Body.loadB (ev1_gd rfl hc) rfl rfl ag3 sz3 rfl) rfl) ?_
   refine RG.cons (EfR.sym rfl (fun hc => Body.leq (ev1_gd rfl hc) (ev1_gd rfl hc)) rfl) ?_
   refine RO (Body.pick rfl rfl rfl (gdB rfl) rfl (pick_and _)) ?_
   refine ag rfl ?_
   refine RG.nil (fun _ => by kernel_rfl) ?_
   refine Ap rfl ?_
   refine NR ⟨[(3, .bref 4 0), (4, .bref 5 0), (8, vI ((min (Tgt.to t) (60 * ((List.length W : Nat) : Int))) - (Tgt.length t))), (9, vI b), (10, vB (bif calm then (decide ((List.getD W (Int.toNat hh) 0) ≤ (Tgt.limit t))) else false)), (11, vI hh)], [(4, .box 24 [vI start, vL eI W]), (5, .box 46 [vS (Tgt.name t), vI (Tgt.bright t), vI (Tgt.place t), vI (Tgt.length t), vI (Tgt.from_ t), vI (Tgt.to t), vI (Tgt.limit t)])]⟩ (sb rfl rfl rfl) rfl ?_
   refine mv rfl ?_
   refine RO (Body.add rfl rfl (by unfold R64; omega)) ?_
   refine ag rfl ?_
   refine RN ?_
   refine Aq rfl ?_
   refine PK.lp ?_
   refine LP.mk ((hh + 1), (bif calm then (decide ((List.getD W (Int.toNat hh) 0) ≤ (Tgt.limit t))) else false)) ?_ ?_ (sb rfl rfl rfl)
   · show b / 60 ≤ (hh + 1) ∧ (hh + 1) ≤ (b + t.length - 1) / 60 + 1 ∧ ((bif calm then (decide ((List.getD W (Int.toNat hh) 0) ≤ (Tgt.limit t))) else false) = true → ∀ i : Int, b / 60 ≤ i → i < (hh + 1) → W.getD i.toNat 0 ≤ t.limit) ∧ ((∀ i : Int, b / 60 ≤ i → i < (hh + 1) → W.getD i.toNat 0 ≤ t.limit) → (bif calm then (decide ((List.getD W (Int.toNat hh) 0) ≤ (Tgt.limit t))) else false) = true)
     rw [bif_and]
     refine ⟨by omega, by omega, fun hc i hi hi2 => ?_, fun hc => ?_⟩
     · rw [Bool.and_eq_true, decide_eq_true_eq] at hc
       rcases Int.lt_or_eq_of_le (Int.le_of_lt_add_one hi2) with h9 | h9
       · exact hI1.2.2.1 hc.1 i hi h9
       · subst h9; exact hc.2
     · rw [Bool.and_eq_true, decide_eq_true_eq]
       exact ⟨hI1.2.2.2 fun i hi hi2 => hc i hi (by omega), hc hh hI1.1 (by omega)⟩
   · show ((b + t.length - 1) / 60 + 1 - (hh + 1)).toNat < ((b + t.length - 1) / 60 + 1 - hh).toNat
     omega
  ·
   refine At rfl ?_
   refine TK.exit ?_
   refine PK.exit rfl ?_
   refine Ap rfl ?_
   refine NR ⟨[(3, .bref 4 0), (4, .bref 5 0), (8, vI ((min (Tgt.to t) (60 * ((List.length W : Nat) : Int))) - (Tgt.length t))), (9, vI b), (10, vB calm)], [(4, .box 24 [vI start, vL eI W]), (5, .box 46 [vS (Tgt.name t), vI (Tgt.bright t), vI (Tgt.place t), vI (Tgt.length t), vI (Tgt.from_ t), vI (Tgt.to t), vI (Tgt.limit t)])]⟩ (sb rfl rfl rfl) rfl ?_
   refine mv rfl ?_
   refine RN ?_
   refine Ap rfl ?_
   refine TK.norm ⟨[(3, .bref 4 0), (4, .bref 5 0), (8, vI ((min (Tgt.to t) (60 * ((List.length W : Nat) : Int))) - (Tgt.length t))), (9, vI b), (54, vB calm)], [(4, .box 24 [vI start, vL eI W]), (5, .box 46 [vS (Tgt.name t), vI (Tgt.bright t), vI (Tgt.place t), vI (Tgt.length t), vI (Tgt.from_ t), vI (Tgt.to t), vI (Tgt.limit t)])]⟩ (sb rfl rfl rfl) ?_
   refine TK.cond rfl (fun h3 => ?_) (fun h3 => ?_)
   ·
    refine At rfl ?_
    refine NR ⟨[(9, vI b)], []⟩ (sb rfl rfl rfl) rfl ?_
    refine mv rfl ?_
    refine ag rfl ?_
    refine ag rfl ?_
    refine RN ?_
    refine Ap rfl ?_
    refine TK.ret ?_
    refine PK.ret ?_
    refine leaf (val0 := .tup [vI b, vB true]) (by kernel_rfl) ?_
    exact tup2 (li (by first
          | (rw [begF_found (b := b) ht (by omega) (by omega) (by omega) hI0.2.2 ((calm_hours (by omega) (by omega)).2 fun i hi hi2 => hI1.2.2.1 h3 i hi (by omega)), if_neg (by omega)])
          | (rw [begF_found (b := b) ht (by omega) (by omega) (by omega) hI0.2.2 ((calm_hours (by omega) (by omega)).2 fun i hi hi2 => hI1.2.2.1 h3 i hi (by omega)), decide_eq_true (by omega)])
          | (rw [begF_none (by omega) hI0.2.2]; rfl))) (lb (by first
          | (rw [begF_found (b := b) ht (by omega) (by omega) (by omega) hI0.2.2 ((calm_hours (by omega) (by omega)).2 fun i hi hi2 => hI1.2.2.1 h3 i hi (by omega)), if_neg (by omega)])
          | (rw [begF_found (b := b) ht (by omega) (by omega) (by omega) hI0.2.2 ((calm_hours (by omega) (by omega)).2 fun i hi hi2 => hI1.2.2.1 h3 i hi (by omega)), decide_eq_true (by omega)])
          | (rw [begF_none (by omega) hI0.2.2]; rfl)))
   ·
    refine At rfl ?_
    refine NR ⟨[(3, .bref 4 0), (4, .bref 5 0), (8, vI ((min (Tgt.to t) (60 * ((List.length W : Nat) : Int))) - (Tgt.length t))), (9, vI b)], [(4, .box 24 [vI start, vL eI W]), (5, .box 46 [vS (Tgt.name t), vI (Tgt.bright t), vI (Tgt.place t), vI (Tgt.length t), vI (Tgt.from_ t), vI (Tgt.to t), vI (Tgt.limit t)])]⟩ (sb rfl rfl rfl) rfl ?_
    refine mv rfl ?_
    refine RO (Body.add rfl rfl (by unfold R64; omega)) ?_
    refine ag rfl ?_
    refine RN ?_
    refine Aq rfl ?_
    refine PK.lp ?_
    refine LP.mk (b + 1) ?_ ?_ (sb rfl rfl rfl)
    · show Max.max e t.from_ ≤ (b + 1) ∧ (b + 1) ≤ 1000001 ∧ ∀ i, Max.max e t.from_ ≤ i → i < (b + 1) → canF W t i = false
      have hcb : canF W t b = false := by
        rw [canF_calm (by omega) (by omega) (by omega)]
        refine Bool.eq_false_iff.2 fun hm => ?_
        have := (calm_hours (by omega) (by omega)).1 hm
        exact absurd (hI1.2.2.2 fun i hi hi2 => this i hi (by omega)) (by simp [h3])
      refine ⟨by omega, by omega, fun i hi hi2 => ?_⟩; rcases Int.lt_or_eq_of_le (Int.le_of_lt_add_one hi2) with h9 | h9; exact hI0.2.2 i hi h9; subst h9; exact hcb
    · show (1000002 - (b + 1)).toNat < (1000002 - b).toNat
      omega
 ·
  refine At rfl ?_
  refine TK.exit ?_
  refine PK.exit rfl ?_
  refine Ap rfl ?_
  refine NR ⟨[], []⟩ (sb rfl rfl rfl) rfl ?_
  refine ag rfl ?_
  refine ag rfl ?_
  refine RN ?_
  refine Ap rfl ?_
  refine TK.ret ?_
  refine PK.ret ?_
  refine leaf (val0 := .tup [vI 0, vB false]) (by kernel_rfl) ?_
  exact tup2 (li (by first
          | (rw [begF_found (b := b) ht (by omega) (by omega) (by omega) hI0.2.2 ((calm_hours (by omega) (by omega)).2 fun i hi hi2 => hI1.2.2.1 h3 i hi (by omega)), if_neg (by omega)])
          | (rw [begF_found (b := b) ht (by omega) (by omega) (by omega) hI0.2.2 ((calm_hours (by omega) (by omega)).2 fun i hi hi2 => hI1.2.2.1 h3 i hi (by omega)), decide_eq_true (by omega)])
          | (rw [begF_none (by omega) hI0.2.2]; rfl))) (lb (by first
          | (rw [begF_found (b := b) ht (by omega) (by omega) (by omega) hI0.2.2 ((calm_hours (by omega) (by omega)).2 fun i hi hi2 => hI1.2.2.1 h3 i hi (by omega)), if_neg (by omega)])
          | (rw [begF_found (b := b) ht (by omega) (by omega) (by omega) hI0.2.2 ((calm_hours (by omega) (by omega)).2 fun i hi hi2 => hI1.2.2.1 h3 i hi (by omega)), decide_eq_true (by omega)])
          | (rw [begF_none (by omega) hI0.2.2]; rfl)))
theorem w166 (a b : Tgt) (h : 0 ≤ a.place ∧ a.place ≤ 360 ∧ 0 ≤ b.place ∧ b.place ≤ 360) : CallOk Tryz.prog 166 [.pv (.agg [pS (Tgt.name a), pI (Tgt.bright a), pI (Tgt.place a), pI (Tgt.length a), pI (Tgt.from_ a), pI (Tgt.to a), pI (Tgt.limit a)]), .pv (.agg [pS (Tgt.name b), pI (Tgt.bright b), pI (Tgt.place b), pI (Tgt.length b), pI (Tgt.from_ b), pI (Tgt.to b), pI (Tgt.limit b)])] (lookM []) (vI (apartF (Tgt.place a) (Tgt.place b))) [] := by
 haveI := tab_ok
 obtain ⟨fn, f1, f2, f3, f4, _, f6⟩ := qf166
 refine callOk_of (Y := tab) (F := fn166) f1 (f2.trans rfl) f3 f4 f6 (Nat.le_of_ble_eq_true rfl) rfl ?_
 clear f1 f2 f3 f4 f6
 show TK _ _ _ _ _ _ ⟨[(0, .pv (.agg [pS (Tgt.name a), pI (Tgt.bright a), pI (Tgt.place a), pI (Tgt.length a), pI (Tgt.from_ a), pI (Tgt.to a), pI (Tgt.limit a)])), (1, .pv (.agg [pS (Tgt.name b), pI (Tgt.bright b), pI (Tgt.place b), pI (Tgt.length b), pI (Tgt.from_ b), pI (Tgt.to b), pI (Tgt.limit b)]))], []⟩
 refine At rfl ?_
 refine NR ⟨[(0, .pv (.agg [pS (Tgt.name a), pI (Tgt.bright a), pI (Tgt.place a), pI (Tgt.length a), pI (Tgt.from_ a), pI (Tgt.to a), pI (Tgt.limit a)])), (1, .pv (.agg [pS (Tgt.name b), pI (Tgt.bright b), pI (Tgt.place b), pI (Tgt.length b), pI (Tgt.from_ b), pI (Tgt.to b), pI (Tgt.limit b)]))], []⟩ (sb rfl rfl rfl) rfl ?_
 refine rn rfl ?_
 refine rn rfl ?_
 refine ag rfl ?_
 refine RN ?_
 refine Ap rfl ?_
 refine NR ⟨[(2, .bref 3 0), (3, .bref 4 0)], [(3, .box 46 [vS (Tgt.name a), vI (Tgt.bright a), vI (Tgt.place a), vI (Tgt.length a), vI (Tgt.from_ a), vI (Tgt.to a), vI (Tgt.limit a)]), (4, .box 46 [vS (Tgt.name b), vI (Tgt.bright b), vI (Tgt.place b), vI (Tgt.length b), vI (Tgt.from_ b), vI (Tgt.to b), vI (Tgt.limit b)])]⟩ (sb rfl rfl rfl) rfl ?_
 refine RO (Body.fadB rfl fa46_2 rfl) ?_
 refine RO (Body.loadB rfl rfl rfl ag3 sz3 rfl) ?_
 refine RO (Body.fadB rfl fa46_2 rfl) ?_
 refine RO (Body.loadB rfl rfl rfl ag3 sz3 rfl) ?_
 refine RO (Body.sub rfl rfl (by unfold R64; omega)) ?_
 refine RO (Body.fadB rfl fa46_2 rfl) ?_
 refine RO (Body.loadB rfl rfl rfl ag3 sz3 rfl) ?_
 refine RO (Body.fadB rfl fa46_2 rfl) ?_
 refine RO (Body.loadB rfl rfl rfl ag3 sz3 rfl) ?_
 refine RO (Body.sub rfl rfl (by unfold R64; omega)) ?_
 refine RO (Body.max rfl rfl) ?_
 refine ag rfl ?_
 refine RN ?_
 refine Ap rfl ?_
 refine TK.ret ?_
 refine PK.ret ?_
 refine leaf (val0 := vI (max ((Tgt.place a) - (Tgt.place b)) ((Tgt.place b) - (Tgt.place a)))) (by kernel_rfl) ?_
 exact li (by rfl)
theorem w165 (l : List Int) (c : Int) (hl : l.length ≤ 1000000000000000) : CallOk Tryz.prog 165 [vL eI l, vI c] (lookM []) (vI (findI (fun j => decide (j = c)) l)) [] := by
 haveI := tab_ok
 obtain ⟨fn, f1, f2, f3, f4, _, f6⟩ := qf165
 refine callOk_of (Y := tab) (F := fn165) f1 (f2.trans rfl) f3 f4 f6 (Nat.le_of_ble_eq_true rfl) rfl ?_
 clear f1 f2 f3 f4 f6
 show TK _ _ _ _ _ _ ⟨[(0, vL eI l), (1, vI c)], []⟩
 refine At rfl ?_
 refine NR ⟨[(0, vL eI l), (1, vI c)], []⟩ (sb rfl rfl rfl) rfl ?_
 refine ag rfl ?_
 refine RN ?_
 refine Ap rfl ?_
 refine NR ⟨[(0, vL eI l), (1, vI c)], []⟩ (sb rfl rfl rfl) rfl ?_
 refine mv rfl ?_
 refine RO (Body.lenL rfl un22) ?_
 refine mv rfl ?_
 refine RN ?_
 refine Ap rfl ?_
 refine TK.loop (α := Nat) (fun x => ⟨[(0, vL eI l), (1, vI c), (7, vI ((List.length l : Nat) : Int)), (8, vI ((x : Nat) : Int))], []⟩) (fun x => x ≤ List.length l ∧ ∀ j, j < x → decide (List.getD l j 0 = c) = false) (fun x => List.length l - x) 0 ?_ (sb rfl rfl rfl) ?_
 · show 0 ≤ List.length l ∧ ∀ j, j < 0 → decide (List.getD l j 0 = c) = false
   exact ⟨Nat.zero_le _, fun j hj => by omega⟩
 rintro k hI0
 replace hI0 : k ≤ List.length l ∧ ∀ j, j < k → decide (List.getD l j 0 = c) = false := hI0
 show TK _ _ _ _ _ _ ⟨[(0, vL eI l), (1, vI c), (7, vI ((List.length l : Nat) : Int)), (8, vI ((k : Nat) : Int))], []⟩
 refine At rfl ?_
 refine NR ⟨[(0, vL eI l), (1, vI c), (7, vI ((List.length l : Nat) : Int)), (8, vI ((k : Nat) : Int))], []⟩ (sb rfl rfl rfl) rfl ?_
 refine RO (Body.lss rfl rfl) ?_
 refine RN ?_
 refine Ap rfl ?_
 refine TK.norm ⟨[(0, vL eI l), (1, vI c), (7, vI ((List.length l : Nat) : Int)), (8, vI ((k : Nat) : Int)), (9, vB (decide (((k : Nat) : Int) < ((List.length l : Nat) : Int))))], []⟩ (sb rfl rfl rfl) ?_
 refine TK.condP rfl (fun h1 => ?_) (fun h1 => ?_)
 ·
  refine At rfl ?_
  refine NR ⟨[(0, vL eI l), (1, vI c), (7, vI ((List.length l : Nat) : Int)), (8, vI ((k : Nat) : Int))], []⟩ (sb rfl rfl rfl) rfl ?_
  refine mv rfl ?_
  refine ag rfl ?_
  refine RN ?_
  refine Ap rfl ?_
  refine NR ⟨[(0, vL eI l), (1, vI c), (5, vI ((k : Nat) : Int)), (7, vI ((List.length l : Nat) : Int)), (8, vI ((k : Nat) : Int))], []⟩ (sb rfl rfl rfl) rfl ?_
  refine mv rfl ?_
  refine mv rfl ?_
  refine mv rfl ?_
  refine RO (Body.idx (z := 0) (i := k) rfl rfl un22 sz3 (fun _ => rfl) rfl (by omega)) ?_
  refine RO (Body.loadP rfl ag3 sz3) ?_
  refine RO (Body.eql rfl rfl) ?_
  refine RN ?_
  refine Ap rfl ?_
  refine TK.norm ⟨[(0, vL eI l), (1, vI c), (5, vI ((k : Nat) : Int)), (7, vI ((List.length l : Nat) : Int)), (8, vI ((k : Nat) : Int)), (16, vB (decide (c = (List.getD l k 0))))], []⟩ (sb rfl rfl rfl) ?_
  refine TK.condP rfl (fun h2 => ?_) (fun h2 => ?_)
  ·
   refine At rfl ?_
   refine NR ⟨[(5, vI ((k : Nat) : Int))], []⟩ (sb rfl rfl rfl) rfl ?_
   refine mv rfl ?_
   refine ag rfl ?_
   refine RN ?_
   refine Ap rfl ?_
   refine TK.ret ?_
   refine PK.ret ?_
   refine leaf (val0 := vI ((k : Nat) : Int)) (by kernel_rfl) ?_
   exact li (by first | exact (findI_some (p := fun j => decide (j = c)) (l := l) (z := 0) k (by omega) hI0.2 (decide_eq_true h2.symm)).symm | exact (findI_none (p := fun j => decide (j = c)) (l := l) (z := 0) fun j hj => hI0.2 j (by omega)).symm)
  ·
   refine At rfl ?_
   refine NR ⟨[(0, vL eI l), (1, vI c), (7, vI ((List.length l : Nat) : Int)), (8, vI ((k : Nat) : Int))], []⟩ (sb rfl rfl rfl) rfl ?_
   refine RO (Body.add rfl rfl (by unfold R64; omega)) ?_
   refine mv rfl ?_
   refine RN ?_
   refine Aq rfl ?_
   refine PK.lp ?_
   refine LP.mk (k + 1) ?_ ?_ (sb rfl rfl rfl)
   · show (k + 1) ≤ List.length l ∧ ∀ j, j < (k + 1) → decide (List.getD l j 0 = c) = false
     refine ⟨by omega, fun j hj => ?_⟩; rcases Nat.lt_succ_iff_lt_or_eq.1 hj with h | h; exact hI0.2 j h; subst h; exact decide_eq_false (fun e => h2 e.symm)
   · show List.length l - (k + 1) < List.length l - k
     omega
 ·
  refine At rfl ?_
  refine TK.exit ?_
  refine PK.exit rfl ?_
  refine Ap rfl ?_
  refine NR ⟨[], []⟩ (sb rfl rfl rfl) rfl ?_
  refine ag rfl ?_
  refine RN ?_
  refine Ap rfl ?_
  refine TK.ret ?_
  refine PK.ret ?_
  refine leaf (val0 := vI (-1)) (by kernel_rfl) ?_
  exact li (by first | exact (findI_some (p := fun j => decide (j = c)) (l := l) (z := 0) k (by omega) hI0.2 (decide_eq_true h2.symm)).symm | exact (findI_none (p := fun j => decide (j = c)) (l := l) (z := 0) fun j hj => hI0.2 j (by omega)).symm)
theorem w106 (l : List Int) (c : Int) (hl : l.length ≤ 1000000000000000) : CallOk Tryz.prog 106 [vL eI l, vI c] (lookM []) (vB (List.any l (fun j => decide (j = c)))) [] := by
 haveI := tab_ok
 obtain ⟨fn, f1, f2, f3, f4, _, f6⟩ := qf106
 refine callOk_of (Y := tab) (F := fn106) f1 (f2.trans rfl) f3 f4 f6 (Nat.le_of_ble_eq_true rfl) rfl ?_
 clear f1 f2 f3 f4 f6
 show TK _ _ _ _ _ _ ⟨[(0, vL eI l), (1, vI c)], []⟩
 refine At rfl ?_
 refine NR ⟨[(0, vL eI l), (1, vI c)], []⟩ (sb rfl rfl rfl) rfl ?_
 refine ag rfl ?_
 refine RN ?_
 refine Ap rfl ?_
 refine NR ⟨[(0, vL eI l), (1, vI c)], []⟩ (sb rfl rfl rfl) rfl ?_
 refine mv rfl ?_
 refine mv rfl ?_
 refine RO (Body.call (w165 l c (by first | omega | exact Nat.le_of_ble_eq_true rfl | (simp only [List.length_take, List.length_drop]; omega))) rfl rfl rfl) ?_
 refine RO (Body.geq rfl rfl) ?_
 refine ag rfl ?_
 refine RN ?_
 refine Ap rfl ?_
 refine TK.ret ?_
 refine PK.ret ?_
 refine leaf (val0 := vB (decide (0 ≤ (findI (fun j => decide (j = c)) l)))) (by kernel_rfl) ?_
 exact lb (by exact findI_nonneg l)
end Go.Lens.Tb
end
section
namespace Go.Lens.Tb
set_option linter.unusedSectionVars false
theorem afterF_rng {start : Int} {l : List Tgt} {o : List Int} {b : Int} {t : Tgt} (hs : 0 ≤ start ∧ start ≤ 1440) (hb : 0 ≤ b ∧ b ≤ 1440) (hv : o.length ≠ 0 → VI l (o.getD (o.length - 1) 0)) (ht : VT t) : 0 ≤ afterF start l o b t ∧ afterF start l o b t ≤ 10000 := by
  unfold afterF
  split
  · omega
  · rename_i h
    have := hv h
    unfold apartF
    omega
def atB (start : Int) (l : List Tgt) (o : List Int) (i : Nat) (b : Int) : Int := if i = 0 then start else b + (l.getD (o.getD (i - 1) 0).toNat default).length
theorem bad1 {a b c : Int} (h : firstF [a, b] ≠ 0) : firstF [a, b, c] = firstF [a, b] := by
  simp only [firstF] at h ⊢
  split
  · rename_i ha
    rw [if_pos ha] at h
    split
    · rename_i hb; rw [if_pos hb] at h; exact absurd rfl h
    · rfl
  · rfl
end Go.Lens.Tb
end
section
namespace Go.Lens.Tb
open Go.Proofs
variable [Lz]
set_option linter.unusedSectionVars false
set_option maxRecDepth 100000
attribute [local irreducible] TK PK T RG EfR Body
theorem w108 (start : Int) (W : List Int) (l : List Tgt) (o : List Int) (b : Int) (t : Tgt) (hv : o.length ≠ 0 → VI l (o.getD (o.length - 1) 0)) (h : 0 ≤ b ∧ b ≤ 1440 ∧ 0 ≤ t.place ∧ t.place ≤ 360 ∧ o.length ≤ 1000000000) : CallOk Tryz.prog 108 [.pv (.agg [pI start, pL eI W]), vL eT l, vL eI o, vI b, .pv (.agg [pS (Tgt.name t), pI (Tgt.bright t), pI (Tgt.place t), pI (Tgt.length t), pI (Tgt.from_ t), pI (Tgt.to t), pI (Tgt.limit t)])] (lookM []) (vI (afterF start l o b t)) [] := by
 haveI := tab_ok
 obtain ⟨fn, f1, f2, f3, f4, _, f6⟩ := qf108
 refine callOk_of (Y := tab) (F := fn108) f1 (f2.trans rfl) f3 f4 f6 (Nat.le_of_ble_eq_true rfl) rfl ?_
 clear f1 f2 f3 f4 f6
 show TK _ _ _ _ _ _ ⟨[(0, .pv (.agg [pI start, pL eI W])), (1, vL eT l), (2, vL eI o), (3, vI b), (4, .pv (.agg [pS (Tgt.name t), pI (Tgt.bright t), pI (Tgt.place t), pI (Tgt.length t), pI (Tgt.from_ t), pI (Tgt.to t), pI (Tgt.limit t)]))], []⟩
 refine At rfl ?_
 refine NR ⟨[(0, .pv (.agg [pI start, pL eI W])), (1, vL eT l), (2, vL eI o), (3, vI b), (4, .pv (.agg [pS (Tgt.name t), pI (Tgt.bright t), pI (Tgt.place t), pI (Tgt.length t), pI (Tgt.from_ t), pI (Tgt.to t), pI (Tgt.limit t)]))], []⟩ (sb rfl rfl rfl) rfl ?_
 refine rn rfl ?_
 refine rn rfl ?_
 refine ag rfl ?_
 refine RN ?_
 refine Ap rfl ?_
 refine NR ⟨[(1, vL eT l), (2, vL eI o), (3, vI b), (5, .bref 6 0), (9, .bref 10 0)], [(6, .box 24 [vI start, vL eI W]), (10, .box 46 [vS (Tgt.name t), vI (Tgt.bright t), vI (Tgt.place t), vI (Tgt.length t), vI (Tgt.from_ t), vI (Tgt.to t), vI (Tgt.limit t)])]⟩ (sb rfl rfl rfl) rfl ?_
 refine mv rfl ?_
 refine RO (Body.lenL rfl un22) ?_
 refine RO (Body.eql rfl rfl) ?_
 refine RN ?_
 refine Ap rfl ?_
 refine TK.norm ⟨[(1, vL eT l), (2, vL eI o), (3, vI b), (5, .bref 6 0), (9, .bref 10 0), (14, vB (decide (((List.length o : Nat) : Int) = 0)))], [(6, .box 24 [vI start, vL eI W]), (10, .box 46 [vS (Tgt.name t), vI (Tgt.bright t), vI (Tgt.place t), vI (Tgt.length t), vI (Tgt.from_ t), vI (Tgt.to t), vI (Tgt.limit t)])]⟩ (sb rfl rfl rfl) ?_
 refine TK.condP rfl (fun h1 => ?_) (fun h1 => ?_)
 ·
  refine At rfl ?_
  refine NR ⟨[(5, .bref 6 0)], [(6, .box 24 [vI start, vL eI W])]⟩ (sb rfl rfl rfl) rfl ?_
  refine RO (Body.fadB rfl fa24_0 rfl) ?_
  refine RO (Body.loadB rfl rfl rfl ag3 sz3 rfl) ?_
  refine ag rfl ?_
  refine RN ?_
  refine Ap rfl ?_
  refine TK.ret ?_
  refine PK.ret ?_
  refine leaf (val0 := vI start) (by kernel_rfl) ?_
  exact li (by unfold afterF; first | rw [if_pos (by omega)] | rw [if_neg (by omega)])
 ·
  refine At rfl ?_
  refine TK.norm ⟨[(1, vL eT l), (2, vL eI o), (3, vI b), (9, .bref 10 0)], [(10, .box 46 [vS (Tgt.name t), vI (Tgt.bright t), vI (Tgt.place t), vI (Tgt.length t), vI (Tgt.from_ t), vI (Tgt.to t), vI (Tgt.limit t)])]⟩ (sb rfl rfl rfl) ?_
  have hi := hv (by omega)
  refine TK.rg (Y := tab) mixed rfl ?_
  refine mv rfl ?_
  refine mv rfl ?_
  refine mv rfl ?_
  refine RO (Body.lenL rfl un22) ?_
  refine RO (Body.sub rfl rfl (by first | (unfold R64; omega) | (unfold R64 apartF; omega))) ?_
  refine RO (Body.idx (z := 0) (i := (List.length o - 1)) rfl rfl un22 sz3 (fun _ => rfl) (by omega) (by omega)) ?_
  refine RO (Body.loadP rfl ag3 sz3) ?_
  refine RO (Body.idx (z := default) (i := (Int.toNat (List.getD o (List.length o - 1) 0))) rfl rfl un25 sz46 (fun _ => rfl) (Int.toNat_of_nonneg (by omega)).symm (by omega)) ?_
  refine RO (Body.loadA (ds := [pS (Tgt.name (List.getD l (Int.toNat (List.getD o (List.length o - 1) 0)) default)), pI (Tgt.bright (List.getD l (Int.toNat (List.getD o (List.length o - 1) 0)) default)), pI (Tgt.place (List.getD l (Int.toNat (List.getD o (List.length o - 1) 0)) default)), pI (Tgt.length (List.getD l (Int.toNat (List.getD o (List.length o - 1) 0)) default)), pI (Tgt.from_ (List.getD l (Int.toNat (List.getD o (List.length o - 1) 0)) default)), pI (Tgt.to (List.getD l (Int.toNat (List.getD o (List.length o - 1) 0)) default)), pI (Tgt.limit (List.getD l (Int.toNat (List.getD o (List.length o - 1) 0)) default))]) rfl ag46 sz46 (Nat.le_of_ble_eq_true rfl) rfl) ?_
  refine rn rfl ?_
  refine rn rfl ?_
  refine RN ?_
  refine Ap rfl ?_
  refine NR ⟨[(3, vI b), (9, .bref 10 0), (11, .bref 12 0)], [(10, .box 46 [vS (Tgt.name t), vI (Tgt.bright t), vI (Tgt.place t), vI (Tgt.length t), vI (Tgt.from_ t), vI (Tgt.to t), vI (Tgt.limit t)]), (12, .box 46 [vS (Tgt.name (List.getD l (Int.toNat (List.getD o (List.length o - 1) 0)) default)), vI (Tgt.bright (List.getD l (Int.toNat (List.getD o (List.length o - 1) 0)) default)), vI (Tgt.place (List.getD l (Int.toNat (List.getD o (List.length o - 1) 0)) default)), vI (Tgt.length (List.getD l (Int.toNat (List.getD o (List.length o - 1) 0)) default)), vI (Tgt.from_ (List.getD l (Int.toNat (List.getD o (List.length o - 1) 0)) default)), vI (Tgt.to (List.getD l (Int.toNat (List.getD o (List.length o - 1) 0)) default)), vI (Tgt.limit (List.getD l (Int.toNat (List.getD o (List.length o - 1) 0)) default))])]⟩ (sb rfl rfl rfl) rfl ?_
  refine mv rfl ?_
  refine RO (Body.fadB rfl fa46_3 rfl) ?_
  refine RO (Body.loadB rfl rfl rfl ag3 sz3 rfl) ?_
  refine RO (Body.add rfl rfl (by first | (unfold R64; omega) | (unfold R64 apartF; omega))) ?_
  refine RO (Body.loadBA rfl rfl rfl ag46 sz46 rfl rfl) ?_
  refine RO (Body.loadBA rfl rfl rfl ag46 sz46 rfl rfl) ?_
  refine RO (Body.call (w166 (List.getD l (Int.toNat (List.getD o (List.length o - 1) 0)) default) t (by omega)) rfl rfl rfl) ?_
  refine RO (Body.add rfl rfl (by first | (unfold R64; omega) | (unfold R64 apartF; omega))) ?_
  refine ag rfl ?_
  refine RG.nil (fun _ => by kernel_rfl) ?_
  refine Ap rfl ?_
  refine TK.ret ?_
  refine PK.ret ?_
  refine leaf (val0 := vI ((b + (Tgt.length (List.getD l (Int.toNat (List.getD o (List.length o - 1) 0)) default))) + (apartF (Tgt.place (List.getD l (Int.toNat (List.getD o (List.length o - 1) 0)) default)) (Tgt.place t)))) (by kernel_rfl) ?_
  exact li (by unfold afterF; first | rw [if_pos (by omega)] | rw [if_neg (by omega)])
end Go.Lens.Tb
end
section
namespace Go.Lens.Tb
set_option linter.unusedSectionVars false
theorem tlGo_len {W : List Int} {l : List Tgt} : ∀ {o : List Int} {prev : Option Tgt} {a : Int} {r : List Int}, tlGo W l prev a o = some r → r.length = o.length
  | [], prev, a, r, h => by
    have : tlGo W l prev a [] = some [] := by cases prev <;> rfl
    rw [this] at h; cases h; rfl
  | i :: o, prev, a, r, h => by
    rw [tlGo_cons] at h
    split at h
    · cases h
    · obtain ⟨q, hq, rfl⟩ := Option.map_eq_some_iff.1 h
      simp [tlGo_len hq]
theorem shortN_le {W : List Int} (h : shortN W = true) : W.length ≤ 26 := by
  simp only [shortN, Bool.or_eq_true, Bool.and_eq_true, decide_eq_true_eq] at h
  omega
section
variable {start : Int} {W : List Int} {l : List Tgt} {o : List Int} {t : Tgt} {e : Int}
end
end Go.Lens.Tb
end
section
namespace Go.Lens.Tb
open Go.Proofs
structure Ch where
 order : List Int
 bright : Int
 end_ : Int
section
variable (S : Int) (W : List Int) (l : List Tgt)
def endF (o : List Int) (b : Int) : Int := if o.length = 0 then S else b + (l.getD (o.getD (o.length - 1) 0).toNat default).length
def betC (a c : Ch) : Bool := decide (c.bright < a.bright) || (decide (a.bright = c.bright) && decide (a.end_ < c.end_))
def updC (o : List Int) (b br : Int) (c : Ch) : Ch := bif betC ⟨o, br, endF S l o b⟩ c then ⟨o, br, endF S l o b⟩ else c
def nxtB (o : List Int) (b : Int) (i : Nat) : Int := begF W (l.getD i default) (afterF S l o b (l.getD i default))
def stepC (R : List Int → Int → Int → Ch → Ch) (o : List Int) (b br : Int) (i : Nat) (c : Ch) : Ch :=
 bif o.any (fun j => decide (j = (i : Int))) then c else if nxtB S W l o b i < 0 then c else R (o ++ [(i : Int)]) (nxtB S W l o b i) (br + (l.getD i default).bright) c
def loopC (R : List Int → Int → Int → Ch → Ch) (o : List Int) (b br : Int) (c : Ch) : Nat → Ch
 | 0 => c
 | k + 1 => stepC S W l R o b br k (loopC R o b br c k)
def recC : Nat → List Int → Int → Int → Ch → Ch
 | 0, _, _, _, c => c
 | n + 1, o, b, br, c => loopC S W l (recC n) o b br (updC S l o b br c) l.length
def lastD (r : List Int) : Int := r.getD (r.length - 1) 0
def brightS : List Int → Int
 | [] => 0
 | j :: o => (l.getD j.toNat default).bright + brightS o
def refC (n : Nat) (o : List Int) (c : Ch) : Ch := match tlF S W l o with
 | none => c
 | some r => recC S W l n o (lastD r) (brightS l o) c
def gdO (o : List Int) : Prop := o.Nodup ∧ ∀ i ∈ o, 0 ≤ i ∧ i < (l.length : Int)
end
theorem nodup_le : ∀ (n : Nat) (o : List Int), o.Nodup → (∀ i ∈ o, 0 ≤ i ∧ i < (n : Int)) → o.length ≤ n
 | 0, o, _, h => by
  cases o with
  | nil => simp
  | cons a o => have := h a (by simp); omega
 | n + 1, o, hn, h => by
  have h1 := nodup_le n (o.erase (n : Int)) (hn.erase _) (fun i hi => by
   have h2 := (hn.mem_erase_iff).1 hi
   have h3 := h i h2.2
   have h4 := h2.1
   omega)
  have := List.length_erase (l := o) (a := (n : Int))
  split at this <;> omega
theorem gd_len {l : List Tgt} {o : List Int} (h : gdO l o) : o.length ≤ l.length := nodup_le _ _ h.1 h.2
theorem gd_nil {l : List Tgt} : gdO l [] := ⟨List.nodup_nil, fun _ h => by cases h⟩
theorem any_no {o : List Int} {i : Int} (h : o.any (fun j => decide (j = i)) = false) : i ∉ o := by
 intro hi
 rw [List.any_eq_false] at h
 exact h i hi (by simp)
theorem gd_snoc {l : List Tgt} {o : List Int} {i : Nat} (h : gdO l o) (hi : i < l.length) (ha : o.any (fun j => decide (j = (i : Int))) = false) : gdO l (o ++ [(i : Int)]) := by
 refine ⟨?_, fun j hj => ?_⟩
 ·rw [List.nodup_append]
  refine ⟨h.1, by simp, fun a ha' b hb e => ?_⟩
  simp only [List.mem_singleton] at hb
  subst e; subst hb; exact any_no ha ha'
 ·rcases List.mem_append.1 hj with hj | hj
  ·exact h.2 j hj
  ·simp only [List.mem_singleton] at hj; subst hj; omega
theorem bright_snoc (l : List Tgt) (i : Int) : ∀ o : List Int, brightS l (o ++ [i]) = brightS l o + (l.getD i.toNat default).bright
 | [] => by simp [brightS]
 | j :: o => by simp only [List.cons_append, brightS, bright_snoc l i o]; omega
def lastP (l : List Tgt) (prev : Option Tgt) (o : List Int) : Option Tgt := if o.length = 0 then prev else some (l.getD (o.getD (o.length - 1) 0).toNat default)
def lastA (l : List Tgt) (a : Int) (o r : List Int) : Int := if o.length = 0 then a else lastD r + (l.getD (o.getD (o.length - 1) 0).toNat default).length
theorem last_cons {a : Int} {r : List Int} (h : r.length ≠ 0) : lastD (a :: r) = lastD r := by
 unfold lastD
 cases r with
 | nil => simp at h
 | cons b r => simp
theorem getD_last_cons {a : Int} {o : List Int} (h : o.length ≠ 0) : (a :: o).getD ((a :: o).length - 1) 0 = o.getD (o.length - 1) 0 := last_cons h
theorem tlGo_snoc (W : List Int) (l : List Tgt) (i : Int) : ∀ (o : List Int) (prev : Option Tgt) (a : Int), tlGo W l prev a (o ++ [i]) = (tlGo W l prev a o).bind fun r =>
  if begF W (l.getD i.toNat default) (startA (lastP l prev o) (l.getD i.toNat default) (lastA l a o r)) < 0 then none else some (r ++ [begF W (l.getD i.toNat default) (startA (lastP l prev o) (l.getD i.toNat default) (lastA l a o r))])
 | [], prev, a => by
  have e : tlGo W l prev a [] = some [] := by cases prev <;> rfl
  have e2 : ∀ p b, tlGo W l (some p) b [] = some [] := fun _ _ => rfl
  rw [List.nil_append, tlGo_cons, e, e2]
  simp only [lastP, lastA, List.length_nil, if_true, Option.bind_some, Option.map_some, List.nil_append]
 | j :: o, prev, a => by
  rw [List.cons_append, tlGo_cons, tlGo_cons, tlGo_snoc W l i o]
  split
  ·rfl
  ·rename_i hb
   cases ht : tlGo W l (some (l.getD j.toNat default)) (begF W (l.getD j.toNat default) (startA prev (l.getD j.toNat default) a) + (l.getD j.toNat default).length) o with
   | none => rfl
   | some r =>
    have hl := tlGo_len ht
    simp only [Option.bind_some, Option.map_some]
    have eP : lastP l prev (j :: o) = lastP l (some (l.getD j.toNat default)) o := by
     unfold lastP
     by_cases h0 : o.length = 0
     ·have : o = [] := List.eq_nil_of_length_eq_zero h0
      subst this; simp
     ·rw [if_neg h0, if_neg (by simp), getD_last_cons h0]
    have eA : lastA l a (j :: o) (begF W (l.getD j.toNat default) (startA prev (l.getD j.toNat default) a) :: r) = lastA l (begF W (l.getD j.toNat default) (startA prev (l.getD j.toNat default) a) + (l.getD j.toNat default).length) o r := by
     unfold lastA
     by_cases h0 : o.length = 0
     ·have : o = [] := List.eq_nil_of_length_eq_zero h0
      subst this
      have : r = [] := List.eq_nil_of_length_eq_zero (by omega)
      subst this; simp [lastD]
     ·rw [if_neg h0, if_neg (by simp), getD_last_cons h0, last_cons (by omega)]
    rw [eP, eA]
    split <;> rfl
theorem tl_snoc (S : Int) (W : List Int) (l : List Tgt) (o : List Int) (i : Nat) : tlF S W l (o ++ [(i : Int)]) = (tlF S W l o).bind fun r => if nxtB S W l o (lastD r) i < 0 then none else some (r ++ [nxtB S W l o (lastD r) i]) := by
 unfold tlF
 rw [tlGo_snoc]
 congr 1
 funext r
 have : startA (lastP l none o) (l.getD ((i : Int)).toNat default) (lastA l S o r) = afterF S l o (lastD r) (l.getD i default) := by
  unfold startA lastP lastA afterF
  simp only [Int.toNat_natCast]
  by_cases h0 : o.length = 0
  ·rw [if_pos h0, if_pos h0, if_pos h0]
  ·rw [if_neg h0, if_neg h0, if_neg h0]
   simp only [apartF_comm]
 rw [this]
 unfold nxtB
 simp only [Int.toNat_natCast]
theorem last_snoc (r : List Int) (b : Int) : lastD (r ++ [b]) = b := by
 unfold lastD
 simp [List.getD_eq_getElem?_getD]
theorem ref_snoc {S : Int} {W : List Int} {l : List Tgt} {n : Nat} {o r : List Int} {i : Nat} {c : Ch} (h : tlF S W l o = some r) :
  refC S W l n (o ++ [(i : Int)]) c = if nxtB S W l o (lastD r) i < 0 then c else recC S W l n (o ++ [(i : Int)]) (nxtB S W l o (lastD r) i) (brightS l o + (l.getD i default).bright) c := by
 unfold refC
 rw [tl_snoc, h]
 simp only [Option.bind_some]
 by_cases hb : nxtB S W l o (lastD r) i < 0
 ·rw [if_pos hb, if_pos hb]
 ·rw [if_neg hb, if_neg hb]
  simp only [last_snoc, bright_snoc, Int.toNat_natCast]
theorem ordGo_snoc (n : Int) (i : Int) : ∀ (o pre : List Int), ordGo n pre o = 0 → ordGo n pre (o ++ [i]) = ordOne n (pre ++ o) i
 | [], pre, _ => by
  simp only [List.nil_append, ordGo, List.append_nil]
  split
  ·rename_i h; exact h.symm
  ·rfl
 | j :: o, pre, h => by
  simp only [ordGo] at h
  split at h
  ·rename_i h0
   simp only [List.cons_append, ordGo, if_pos h0]
   rw [ordGo_snoc n i o (pre ++ [j]) h]; simp
  ·rename_i h0; exact absurd h h0
theorem ordGo_gd {l : List Tgt} : ∀ (o pre : List Int), gdO l (pre ++ o) → ordGo l.length pre o = 0
 | [], _, _ => rfl
 | j :: o, pre, h => by
  have h1 : ordOne l.length pre j = 0 := by
   have hj := h.2 j (by simp)
   unfold ordOne
   rw [outF_no.2 ⟨hj.1, by omega⟩]
   have : (pre.any fun k => decide (k = j)) = false := by
    rw [List.any_eq_false]
    intro k hk e
    have := of_decide_eq_true e; subst this
    have hn := h.1
    rw [List.nodup_append] at hn
    exact hn.2.2 k hk k (by simp) rfl
   rw [this]; rfl
  rw [ordGo, if_pos h1]
  exact ordGo_gd o (pre ++ [j]) (by simpa using h)
theorem ord_snoc {l : List Tgt} {o : List Int} {i : Nat} (h : gdO l o) (hi : i < l.length) : chkOrdF l.length (o ++ [(i : Int)]) = bif o.any (fun j => decide (j = (i : Int))) then 9 else 0 := by
 unfold chkOrdF
 rw [ordGo_snoc _ _ o [] (ordGo_gd o [] h), List.nil_append]
 unfold ordOne
 rw [outF_no.2 ⟨by omega, by omega⟩]; rfl
theorem gd_VI {l : List Tgt} {o : List Int} (hl : ∀ t ∈ l, VT t) (h : gdO l o) : ∀ j, j < o.length → VI l (o.getD j 0) := by
 intro j hj
 have := h.2 _ (getD_mem (z := 0) hj)
 exact ⟨this.1, this.2, hl _ (getD_mem (by omega))⟩
theorem bright_rng {l : List Tgt} (hl : ∀ t ∈ l, VT t) : ∀ {o : List Int}, (∀ i ∈ o, 0 ≤ i ∧ i < (l.length : Int)) → 0 ≤ brightS l o ∧ brightS l o ≤ 1000 * o.length
 | [], _ => by simp [brightS]
 | j :: o, h => by
  have h1 := bright_rng hl (o := o) fun i hi => h i (by simp [hi])
  have h2 := h j (by simp)
  have h3 := hl _ (getD_mem (l := l) (k := j.toNat) (z := default) (by omega))
  simp only [brightS, List.length_cons]
  unfold VT at h3
  omega
def badP (S : Int) (W : List Int) (l : List Tgt) : Int := firstF [chkNightF S W, chkTgtsF l, whenF (decide (8 < (l.length : Int))) 22]
def planC (S : Int) (W : List Int) (l : List Tgt) : Ch := recC S W l (l.length + 1) [] 0 0 ⟨[], 0, S⟩
end Go.Lens.Tb
end
section
namespace Go.Lens.Tb
open Go.Proofs
set_option linter.unusedSectionVars false
theorem PK.nil [Lz] {P : Program} {n nb : Nat} {Q : Exit → St → Prop} {s : St} (h : Q .normal s) : PK P n nb Q [] .normal s := h
theorem TK.condJ [Lz] {P : Program} {n nb : Nat} {Q : Exit → St → Prop} {s : St} {x x' y : Code} {K M : List Fr} {o : Operand} {b : Bool} (S : St) (hc : evS s o = lit (.bool b)) (e : adv 40 (.p K) = .t y M)
  (hx : b = true → TK P n nb Q x (.lp (fun s' => Sub nb s' S) :: K) s) (hy : b = false → TK P n nb Q x' (.lp (fun s' => Sub nb s' S) :: K) s) (k : TK P n nb Q y M S) : TK P n nb Q (.cond o x x') K s := by
 have conv : ∀ e s', PK P n nb Q (.lp (fun s' => Sub nb s' S) :: K) e s' → PK P n nb Q K e s' := by
  intro e1 s' h
  cases e1 with
  | normal =>
   have h' : Sub nb s' S := h
   exact Ap e (TK.norm S h' k)
  | _ => exact h
 exact T.cond hc (fun h => T.mono (hx h) conv) (fun h => T.mono (hy h) conv)
section
variable {S : Int} {W : List Int} {l : List Tgt} {R : List Int → Int → Int → Ch → Ch} {o : List Int} {b br : Int} {i : Nat} {c : Ch}
theorem step_skip (h : o.any (fun j => decide (j = (i : Int))) = true) : stepC S W l R o b br i c = c := by unfold stepC; rw [h]; rfl
theorem step_none (h : o.any (fun j => decide (j = (i : Int))) = false) (h2 : ¬ 0 ≤ begF W (l.getD i default) (afterF S l o b (l.getD i default))) : stepC S W l R o b br i c = c := by
 unfold stepC nxtB; rw [h, if_pos (by omega)]; rfl
theorem step_some (h : o.any (fun j => decide (j = (i : Int))) = false) (h2 : 0 ≤ begF W (l.getD i default) (afterF S l o b (l.getD i default))) :
  stepC S W l R o b br i c = R (o ++ [(i : Int)]) (if begF W (l.getD i default) (afterF S l o b (l.getD i default)) < 0 then 0 else begF W (l.getD i default) (afterF S l o b (l.getD i default))) (br + (l.getD i default).bright) c := by
 unfold stepC nxtB; rw [h, if_neg (by omega), if_neg (by omega)]; rfl
theorem ref_step {n : Nat} {r : List Int} (hr : tlF S W l o = some r) (h : o.any (fun j => decide (j = (i : Int))) = false) : stepC S W l (recC S W l n) o (lastD r) (brightS l o) i c = refC S W l n (o ++ [(i : Int)]) c := by
 rw [ref_snoc hr]
 unfold stepC; rw [h]; rfl
theorem if_rng (W : List Int) (t : Tgt) (e : Int) : 0 ≤ (if begF W t e < 0 then 0 else begF W t e) ∧ (if begF W t e < 0 then 0 else begF W t e) ≤ 1440 := by
 have := begF_le W t e
 split <;> omega
end
theorem ord_any {l : List Tgt} {o : List Int} {i : Nat} (hg : gdO l o) (hi : i < l.length) (h : chkOrdF ((List.length l : Nat) : Int) (o ++ [(i : Int)]) = 0) : o.any (fun j => decide (j = (i : Int))) = false := by
 rw [ord_snoc hg hi] at h
 cases ha : o.any (fun j => decide (j = (i : Int))) with
 | false => rfl
 | true => rw [ha] at h; cases h
theorem ord_any2 {l : List Tgt} {o : List Int} {i : Nat} (hg : gdO l o) (hi : i < l.length) (h : ¬ chkOrdF ((List.length l : Nat) : Int) (o ++ [(i : Int)]) = 0) : o.any (fun j => decide (j = (i : Int))) = true := by
 rw [ord_snoc hg hi] at h
 cases ha : o.any (fun j => decide (j = (i : Int))) with
 | true => rfl
 | false => rw [ha] at h; exact absurd rfl h
theorem isNone_of {α : Type} {x : Option α} (h : (!(Option.isSome x)) = true) : x = none := by
 cases x with
 | none => rfl
 | some _ => cases h
theorem updR {S : Int} {W : List Int} {l : List Tgt} {o r : List Int} {c0 : Ch} {b : Bool} (h0 : o = [] → betC ⟨[], 0, S⟩ c0 = false) (_ : tlF S W l o = some r)
  (h : (bif decide (0 < ((List.length o : Nat) : Int)) then betC ⟨o, brightS l o, endF S l o (lastD r)⟩ ⟨Ch.order c0, Ch.bright c0, Ch.end_ c0⟩ else false) = b) :
  updC S l o (lastD r) (brightS l o) c0 = bif b then ⟨o, brightS l o, endF S l o (lastD r)⟩ else c0 := by
 unfold updC
 by_cases ho : o.length = 0
 ·have : o = [] := List.eq_nil_of_length_eq_zero ho
  subst this
  have hb := h0 rfl
  rw [decide_eq_false (by simp)] at h
  subst h
  have : betC ⟨[], brightS l [], endF S l [] (lastD r)⟩ c0 = false := hb
  rw [this]; rfl
 ·rw [decide_eq_true (by omega)] at h
  subst h; rfl
theorem tlGo_rng {W : List Int} {l : List Tgt} : ∀ {o : List Int} {prev : Option Tgt} {a : Int} {r : List Int}, tlGo W l prev a o = some r → ∀ b ∈ r, 0 ≤ b ∧ b ≤ 1440
 | [], prev, a, r, h => by
  have : tlGo W l prev a [] = some [] := by cases prev <;> rfl
  rw [this] at h; cases h; intro b hb; cases hb
 | i :: o, prev, a, r, h => by
  rw [tlGo_cons] at h
  split at h
  ·cases h
  ·rename_i h0
   obtain ⟨q, hq, rfl⟩ := Option.map_eq_some_iff.1 h
   intro b hb
   rcases List.mem_cons.1 hb with rfl | hb
   ·have := begF_le W (l.getD i.toNat default) (startA prev (l.getD i.toNat default) a); omega
   ·exact tlGo_rng hq b hb
theorem tl_rng {S : Int} {W : List Int} {l : List Tgt} {o r : List Int} (h : tlF S W l o = some r) {k : Nat} (hk : k < o.length) : k < r.length ∧ 0 ≤ r.getD k 0 ∧ r.getD k 0 ≤ 1440 := by
 have h1 := tlGo_len h
 have h2 := tlGo_rng h _ (getD_mem (l := r) (k := k) (z := 0) (by omega))
 exact ⟨by omega, h2⟩
theorem take_snoc (o : List Int) (k : Nat) (h : k < o.length) : o.take (k + 1) = o.take k ++ [o.getD k 0] := by
 rw [List.take_add_one, List.getElem?_eq_getElem h, List.getD_eq_getElem?_getD, List.getElem?_eq_getElem h]; rfl
theorem bright_take (l : List Tgt) (o : List Int) (k : Nat) (h : k < o.length) : brightS l (o.take (k + 1)) = brightS l (o.take k) + (l.getD (o.getD k 0).toNat default).bright := by
 rw [take_snoc o k h, bright_snoc]
def endK (S : Int) (l : List Tgt) (o r : List Int) (k : Nat) : Int := if k = 0 then S else r.getD (k - 1) 0 + (l.getD (o.getD (k - 1) 0).toNat default).length
theorem endK_all {S : Int} {l : List Tgt} {o r : List Int} (h : r.length = o.length) : endK S l o r o.length = endF S l o (lastD r) := by
 unfold endK endF lastD; rw [h]
theorem endF_pos {S : Int} {l : List Tgt} {o : List Int} {b : Int} (h : 0 < ((o.length : Nat) : Int)) : endF S l o b = b + (l.getD (o.getD (o.length - 1) 0).toNat default).length := by
 unfold endF; rw [if_neg (by omega)]
theorem endF_zero {S : Int} {l : List Tgt} {o : List Int} {b : Int} (h : ¬ 0 < ((o.length : Nat) : Int)) : endF S l o b = S := by
 unfold endF; rw [if_pos (by omega)]
end Go.Lens.Tb
end
section
namespace Go.Lens.Tb
open Go.Proofs
variable [Lz]
set_option linter.unusedSectionVars false
set_option maxRecDepth 100000
attribute [local irreducible] TK PK T RG EfR Body
theorem ag56 : aggT tab 56 = some true := by kernel_rfl
theorem fa56_1 : fadQ tab 56 1 = some 1 := by kernel_rfl
theorem fa56_2 : fadQ tab 56 2 = some 2 := by kernel_rfl
theorem sz56 : szT tab 56 = some 3 := by kernel_rfl
set_option maxHeartbeats 2000000 in
theorem w168 (oa ob : List Int) (ba ea bb eb : Int) : CallOk Tryz.prog 168 [.pv (.agg [pL eI oa, pI ba, pI ea]), .pv (.agg [pL eI ob, pI bb, pI eb])] (lookM []) (vB (betC ⟨oa, ba, ea⟩ ⟨ob, bb, eb⟩)) [] := by
 haveI := tab_ok
 obtain ⟨fn, f1, f2, f3, f4, _, f6⟩ := qf168
 refine callOk_of (Y := tab) (F := fn168) f1 (f2.trans rfl) f3 f4 f6 (Nat.le_of_ble_eq_true rfl) rfl ?_
 clear f1 f2 f3 f4 f6
 show TK _ _ _ _ _ _ ⟨[(0, .pv (.agg [pL eI oa, pI ba, pI ea])), (1, .pv (.agg [pL eI ob, pI bb, pI eb]))], []⟩
 refine At rfl ?_
 refine NR ⟨[(0, .pv (.agg [pL eI oa, pI ba, pI ea])), (1, .pv (.agg [pL eI ob, pI bb, pI eb]))], []⟩ (sb rfl rfl rfl) rfl ?_
 refine rn rfl ?_
 refine rn rfl ?_
 refine ag rfl ?_
 refine RN ?_
 refine Ap rfl ?_
 refine NR ⟨[(2, .bref 3 0), (3, .bref 4 0)], [(3, .box 56 [vL eI oa, vI ba, vI ea]), (4, .box 56 [vL eI ob, vI bb, vI eb])]⟩ (sb rfl rfl rfl) rfl ?_
 refine RO (Body.fadB rfl fa56_1 rfl) ?_
 refine RO (Body.loadB rfl rfl rfl ag3 sz3 rfl) ?_
 refine RO (Body.fadB rfl fa56_1 rfl) ?_
 refine RO (Body.loadB rfl rfl rfl ag3 sz3 rfl) ?_
 refine RO (Body.gtr rfl rfl) ?_
 refine mv rfl ?_
 refine RG.cons (EfR.sym rfl (fun hc => Body.fadB rfl fa56_1 rfl) rfl) ?_
 refine RG.cons (EfR.sym rfl (fun hc => Body.loadB (ev1_gd rfl hc) rfl rfl ag3 sz3 rfl) rfl) ?_
 refine RG.cons (EfR.sym rfl (fun hc => Body.fadB rfl fa56_1 rfl) rfl) ?_
 refine RG.cons (EfR.sym rfl (fun hc => Body.loadB (ev1_gd rfl hc) rfl rfl ag3 sz3 rfl) rfl) ?_
 refine RG.cons (EfR.sym rfl (fun hc => Body.eql (ev1_gd rfl hc) (ev1_gd rfl hc)) rfl) ?_
 refine RG.cons (EfR.sym rfl (fun hc => Body.move (ev1_gd rfl hc)) rfl) ?_
 refine RG.cons (EfR.sym rfl (fun hc => Body.fadB rfl fa56_2 rfl) rfl) ?_
 refine RG.cons (EfR.sym rfl (fun hc => Body.loadB (ev1_gd rfl hc) rfl rfl ag3 sz3 rfl) rfl) ?_
 refine RG.cons (EfR.sym rfl (fun hc => Body.fadB rfl fa56_2 rfl) rfl) ?_
 refine RG.cons (EfR.sym rfl (fun hc => Body.loadB (ev1_gd rfl hc) rfl rfl ag3 sz3 rfl) rfl) ?_
 refine RG.cons (EfR.sym rfl (fun hc => Body.lss (ev1_gd rfl hc) (ev1_gd rfl hc)) rfl) ?_
 refine RG.cons (EfR.sym rfl (fun hc => Body.pick (ev1_gd rfl hc) rfl rfl (gdB rfl) rfl (pick_and2 hc)) rfl) ?_
 refine RO (Body.pick rfl rfl rfl rfl (gdB rfl) (pick_or _)) ?_
 refine ag rfl ?_
 refine RN ?_
 refine Ap rfl ?_
 refine TK.ret ?_
 refine PK.ret ?_
 refine leaf (val0 := vB (bif (decide (bb < ba)) then true else (bif (decide (ba = bb)) then (decide (ea < eb)) else false))) (by kernel_rfl) ?_
 exact lb (by simp only [betC, bif_or, bif_and])
set_option maxHeartbeats 2000000 in
theorem w167 (start : Int) (W : List Int) (l : List Tgt) (o r : List Int) (hS : 0 ≤ start ∧ start ≤ 1440 ∧ W.length ≤ 24 ∧ l.length ≤ 32) (hT : ∀ t ∈ l, VT t) (hg : gdO l o) (hr : tlF start W l o = some r) : CallOk Tryz.prog 167 [.pv (.agg [pI start, pL eI W]), vL eT l, vL eI o] (lookM []) (.pv (.agg [pL eI o, pI (brightS l o), pI (endF start l o (lastD r))])) [] := by
 haveI := tab_ok
 obtain ⟨fn, f1, f2, f3, f4, _, f6⟩ := qf167
 refine callOk_of (Y := tab) (F := fn167) f1 (f2.trans rfl) f3 f4 f6 (Nat.le_of_ble_eq_true rfl) rfl ?_
 clear f1 f2 f3 f4 f6
 have hv := gd_VI hT hg
 have hol := gd_len hg
 have hrl := tlGo_len hr
 show TK _ _ _ _ _ _ ⟨[(0, .pv (.agg [pI start, pL eI W])), (1, vL eT l), (2, vL eI o)], []⟩
 refine At rfl ?_
 refine NR ⟨[(0, .pv (.agg [pI start, pL eI W])), (1, vL eT l), (2, vL eI o)], []⟩ (sb rfl rfl rfl) rfl ?_
 refine rn rfl ?_
 refine RO (Body.runZ rfl (fun l => Frz.boxN l rfl) rfl) ?_
 refine RN ?_
 refine Ap rfl ?_
 refine NR ⟨[(1, vL eT l), (2, vL eI o), (3, .bref 4 0), (6, .bref 7 0)], [(4, .box 26 [vI start, vL eI W]), (7, .box 56 [vL eI [], vI 0, vI 0])]⟩ (sb rfl rfl rfl) rfl ?_
 refine RO (Body.loadBA rfl rfl rfl ag26 sz26 rfl rfl) ?_
 refine mv rfl ?_
 refine mv rfl ?_
 refine RO (Body.call (w27 start W l o (by omega) hv) rfl rfl rfl) ?_
 refine rn rfl ?_
 refine rn rfl ?_
 refine rn rfl ?_
 refine ag rfl ?_
 refine ag rfl ?_
 refine RN ?_
 refine Ap rfl ?_
 refine TK.norm ⟨[(1, vL eT l), (2, vL eI o), (3, .bref 4 0), (6, .bref 7 0), (7, vL eI (Option.getD (tlF start W l o) []))], [(4, .box 26 [vI start, vL eI W]), (7, .box 56 [vL eI [], vI 0, vI 0])]⟩ (sb rfl rfl rfl) ?_
 have hr1 : Option.getD (tlF start W l o) [] = r := by rw [hr]; rfl
 rw [hr1]
 refine TK.rg (Y := tab) mixed rfl ?_
 refine mv rfl ?_
 refine RO (Body.fadB rfl fa26_0 rfl) ?_
 refine RO (Body.loadB rfl rfl rfl ag3 sz3 rfl) ?_
 refine rn rfl ?_
 refine RO (Body.runZ rfl (fun l => Frz.boxN l rfl) rfl) ?_
 refine rn rfl ?_
 refine RN ?_
 refine Ap rfl ?_
 refine NR ⟨[(1, vL eT l), (2, vL eI o), (6, .bref 7 0), (7, vL eI r), (9, .bref 10 0)], [(7, .box 56 [vL eI [], vI 0, vI 0]), (10, .box 56 [vL eI o, vI 0, vI start])]⟩ (sb rfl rfl rfl) rfl ?_
 refine ag rfl ?_
 refine RN ?_
 refine Ap rfl ?_
 refine TK.loop (α := Nat × Int × Int) (fun x => ⟨[(1, vL eT l), (2, vL eI o), (6, .bref 7 0), (7, vL eI r), (9, .bref 10 0), (10, vI ((x.1 : Nat) : Int))], [(7, .box 56 [vL eI [], vI 0, vI 0]), (10, .box 56 [vL eI o, vI x.2.1, vI x.2.2])]⟩) (fun x => x.1 ≤ List.length o ∧ x.2.1 = brightS l (List.take x.1 o) ∧ x.2.2 = endK start l o r x.1) (fun x => List.length o - x.1) (0, 0, start) ?_ (sb rfl rfl rfl) ?_
 · show 0 ≤ List.length o ∧ 0 = brightS l (List.take 0 o) ∧ start = endK start l o r 0
   exact ⟨Nat.zero_le _, rfl, rfl⟩
 rintro ⟨k, br, e⟩ hI0
 replace hI0 : k ≤ List.length o ∧ br = brightS l (List.take k o) ∧ e = endK start l o r k := hI0
 show TK _ _ _ _ _ _ ⟨[(1, vL eT l), (2, vL eI o), (6, .bref 7 0), (7, vL eI r), (9, .bref 10 0), (10, vI ((k : Nat) : Int))], [(7, .box 56 [vL eI [], vI 0, vI 0]), (10, .box 56 [vL eI o, vI br, vI e])]⟩
 refine At rfl ?_
 refine NR ⟨[(1, vL eT l), (2, vL eI o), (6, .bref 7 0), (7, vL eI r), (9, .bref 10 0), (10, vI ((k : Nat) : Int))], [(7, .box 56 [vL eI [], vI 0, vI 0]), (10, .box 56 [vL eI o, vI br, vI e])]⟩ (sb rfl rfl rfl) rfl ?_
 refine mv rfl ?_
 refine mv rfl ?_
 refine RO (Body.lenL rfl un22) ?_
 refine RO (Body.lss rfl rfl) ?_
 refine RN ?_
 refine Ap rfl ?_
 refine TK.norm ⟨[(1, vL eT l), (2, vL eI o), (6, .bref 7 0), (7, vL eI r), (9, .bref 10 0), (10, vI ((k : Nat) : Int)), (25, vB (decide (((k : Nat) : Int) < ((List.length o : Nat) : Int))))], [(7, .box 56 [vL eI [], vI 0, vI 0]), (10, .box 56 [vL eI o, vI br, vI e])]⟩ (sb rfl rfl rfl) ?_
 refine TK.condP rfl (fun h1 => ?_) (fun h1 => ?_)
 ·
  refine At rfl ?_
  refine TK.norm ⟨[(1, vL eT l), (2, vL eI o), (6, .bref 7 0), (7, vL eI r), (9, .bref 10 0), (10, vI ((k : Nat) : Int))], [(7, .box 56 [vL eI [], vI 0, vI 0]), (10, .box 56 [vL eI o, vI br, vI e])]⟩ (sb rfl rfl rfl) ?_
  have hi := hv k (by omega)
  have hk := tl_rng hr (k := k) (by omega)
  have hb := bright_rng (l := l) hT (o := o.take k) (fun i hi => hg.2 i (List.mem_of_mem_take hi))
  rw [List.length_take] at hb
  refine TK.rg (Y := tab) mixed rfl ?_
  refine RO (Body.fadB rfl fa56_1 rfl) ?_
  refine RO (Body.loadB rfl rfl rfl ag3 sz3 rfl) ?_
  refine mv rfl ?_
  refine mv rfl ?_
  refine mv rfl ?_
  refine RO (Body.idx (z := 0) (i := k) rfl rfl un22 sz3 (fun _ => rfl) rfl (by omega)) ?_
  refine RO (Body.loadP rfl ag3 sz3) ?_
  refine RO (Body.idx (z := default) (i := (Int.toNat (List.getD o k 0))) rfl rfl un27 sz49 (fun _ => rfl) (Int.toNat_of_nonneg (by omega)).symm (by omega)) ?_
  refine RO (Body.fadP rfl fa49_1 rfl) ?_
  refine RO (Body.loadP rfl ag3 sz3) ?_
  refine RO (Body.add rfl rfl (by unfold R64; omega)) ?_
  refine RO (Body.fadB rfl fa56_1 rfl) ?_
  refine rn rfl ?_
  refine RG.nil (fun _ => by kernel_rfl) ?_
  refine Ap rfl ?_
  refine NR ⟨[(1, vL eT l), (2, vL eI o), (6, .bref 7 0), (7, vL eI r), (9, .bref 10 0), (10, vI ((k : Nat) : Int))], [(7, .box 56 [vL eI [], vI 0, vI 0]), (10, .box 56 [vL eI o, vI (br + (Tgt.bright (List.getD l (Int.toNat (List.getD o k 0)) default))), vI e])]⟩ (sb rfl rfl rfl) rfl ?_
  refine mv rfl ?_
  refine mv rfl ?_
  refine RO (Body.idx (z := 0) (i := k) rfl rfl un22 sz3 (fun _ => rfl) rfl (by omega)) ?_
  refine RO (Body.loadP rfl ag3 sz3) ?_
  refine mv rfl ?_
  refine mv rfl ?_
  refine mv rfl ?_
  refine RO (Body.idx (z := 0) (i := k) rfl rfl un22 sz3 (fun _ => rfl) rfl (by omega)) ?_
  refine RO (Body.loadP rfl ag3 sz3) ?_
  refine RO (Body.idx (z := default) (i := (Int.toNat (List.getD o k 0))) rfl rfl un27 sz49 (fun _ => rfl) (Int.toNat_of_nonneg (by omega)).symm (by omega)) ?_
  refine RO (Body.fadP rfl fa49_3 rfl) ?_
  refine RO (Body.loadP rfl ag3 sz3) ?_
  refine RO (Body.add rfl rfl (by unfold R64; omega)) ?_
  refine RO (Body.fadB rfl fa56_2 rfl) ?_
  refine rn rfl ?_
  refine RG.nil (fun _ => by kernel_rfl) ?_
  refine Ap rfl ?_
  refine NR ⟨[(1, vL eT l), (2, vL eI o), (6, .bref 7 0), (7, vL eI r), (9, .bref 10 0), (10, vI ((k : Nat) : Int))], [(7, .box 56 [vL eI [], vI 0, vI 0]), (10, .box 56 [vL eI o, vI (br + (Tgt.bright (List.getD l (Int.toNat (List.getD o k 0)) default))), vI ((List.getD r k 0) + (Tgt.length (List.getD l (Int.toNat (List.getD o k 0)) default)))])]⟩ (sb rfl rfl rfl) rfl ?_
  refine mv rfl ?_
  refine RO (Body.add rfl rfl (by unfold R64; omega)) ?_
  refine ag rfl ?_
  refine RN ?_
  refine Aq rfl ?_
  refine PK.lp ?_
  refine LP.mk ((k + 1), (br + (Tgt.bright (List.getD l (Int.toNat (List.getD o k 0)) default))), ((List.getD r k 0) + (Tgt.length (List.getD l (Int.toNat (List.getD o k 0)) default)))) ?_ ?_ (sb rfl rfl rfl)
  · show (k + 1) ≤ List.length o ∧ (br + (Tgt.bright (List.getD l (Int.toNat (List.getD o k 0)) default))) = brightS l (List.take (k + 1) o) ∧ ((List.getD r k 0) + (Tgt.length (List.getD l (Int.toNat (List.getD o k 0)) default))) = endK start l o r (k + 1)
    exact ⟨by omega, by rw [bright_take l o k (by omega), ← hI0.2.1], by unfold endK; rw [if_neg (by omega)]; rfl⟩
  · show List.length o - (k + 1) < List.length o - k
    omega
 ·
  refine At rfl ?_
  refine TK.exit ?_
  refine PK.exit rfl ?_
  refine Ap rfl ?_
  refine NR ⟨[(6, .bref 7 0), (9, .bref 10 0)], [(7, .box 56 [vL eI [], vI 0, vI 0]), (10, .box 56 [vL eI o, vI br, vI e])]⟩ (sb rfl rfl rfl) rfl ?_
  refine RO (Body.loadBA rfl rfl rfl ag56 sz56 rfl rfl) ?_
  refine rn rfl ?_
  refine RN ?_
  refine Ap rfl ?_
  refine TK.ret ?_
  refine PK.ret ?_
  refine leaf (val0 := .pv (.agg [pL eI o, pI br, pI e])) (by kernel_rfl) ?_
  exact lag (lcons (rfl) (lcons (pli (by first | (rw [hI0.2.1, List.take_of_length_le (by omega)]) | (rw [hI0.2.2, show k = o.length by omega]; exact endK_all (by omega)))) (lcons (pli (by first | (rw [hI0.2.1, List.take_of_length_le (by omega)]) | (rw [hI0.2.2, show k = o.length by omega]; exact endK_all (by omega)))) rfl)))
set_option maxHeartbeats 2000000 in
theorem w114 (n : Nat) (start : Int) (W : List Int) (l : List Tgt) (o : List Int) (c0 : Ch) (hS : 0 ≤ start ∧ start ≤ 1440 ∧ W.length ≤ 24 ∧ l.length ≤ 32) (hT : ∀ t ∈ l, VT t) (hg : gdO l o) (h0 : o = [] → betC ⟨[], 0, start⟩ c0 = false)
 (hrec : ∀ (i : Nat) (c : Ch), i < l.length → o.any (fun j => decide (j = (i : Int))) = false → CallOk Tryz.prog 114 [.pv (.agg [pI start, pL eI W]), vL eT l, vL eI (o ++ [(i : Int)]), .pv (.agg [pL eI (Ch.order c), pI (Ch.bright c), pI (Ch.end_ c)])] (lookM []) (.pv (.agg [pL eI (Ch.order (refC start W l n (o ++ [(i : Int)]) c)), pI (Ch.bright (refC start W l n (o ++ [(i : Int)]) c)), pI (Ch.end_ (refC start W l n (o ++ [(i : Int)]) c))])) []) : CallOk Tryz.prog 114 [.pv (.agg [pI start, pL eI W]), vL eT l, vL eI o, .pv (.agg [pL eI (Ch.order c0), pI (Ch.bright c0), pI (Ch.end_ c0)])] (lookM []) (.pv (.agg [pL eI (Ch.order (refC start W l (n + 1) o c0)), pI (Ch.bright (refC start W l (n + 1) o c0)), pI (Ch.end_ (refC start W l (n + 1) o c0))])) [] := by
 haveI := tab_ok
 obtain ⟨fn, f1, f2, f3, f4, _, f6⟩ := qf114
 refine callOk_of (Y := tab) (F := fn114) f1 (f2.trans rfl) f3 f4 f6 (Nat.le_of_ble_eq_true rfl) rfl ?_
 clear f1 f2 f3 f4 f6
 have hv := gd_VI hT hg
 have hol := gd_len hg
 show TK _ _ _ _ _ _ ⟨[(0, .pv (.agg [pI start, pL eI W])), (1, vL eT l), (2, vL eI o), (3, .pv (.agg [pL eI (Ch.order c0), pI (Ch.bright c0), pI (Ch.end_ c0)]))], []⟩
 refine At rfl ?_
 refine NR ⟨[(0, .pv (.agg [pI start, pL eI W])), (1, vL eT l), (2, vL eI o), (3, .pv (.agg [pL eI (Ch.order c0), pI (Ch.bright c0), pI (Ch.end_ c0)]))], []⟩ (sb rfl rfl rfl) rfl ?_
 refine rn rfl ?_
 refine rn rfl ?_
 refine RO (Body.runZ rfl (fun l => Frz.boxN l rfl) rfl) ?_
 refine RN ?_
 refine Ap rfl ?_
 refine NR ⟨[(1, vL eT l), (2, vL eI o), (4, .bref 5 0), (7, .bref 8 0), (8, .bref 9 0)], [(5, .box 26 [vI start, vL eI W]), (8, .box 56 [vL eI (Ch.order c0), vI (Ch.bright c0), vI (Ch.end_ c0)]), (9, .box 56 [vL eI [], vI 0, vI 0])]⟩ (sb rfl rfl rfl) rfl ?_
 refine RO (Body.loadBA rfl rfl rfl ag26 sz26 rfl rfl) ?_
 refine mv rfl ?_
 refine mv rfl ?_
 refine RO (Body.call (w27 start W l o (by omega) hv) rfl rfl rfl) ?_
 refine rn rfl ?_
 refine rn rfl ?_
 refine rn rfl ?_
 refine ag rfl ?_
 refine ag rfl ?_
 refine RN ?_
 refine Ap rfl ?_
 refine NR ⟨[(1, vL eT l), (2, vL eI o), (4, .bref 5 0), (7, .bref 8 0), (8, .bref 9 0), (10, vB (Option.isSome (tlF start W l o)))], [(5, .box 26 [vI start, vL eI W]), (8, .box 56 [vL eI (Ch.order c0), vI (Ch.bright c0), vI (Ch.end_ c0)]), (9, .box 56 [vL eI [], vI 0, vI 0])]⟩ (sb rfl rfl rfl) rfl ?_
 refine mv rfl ?_
 refine RO (Body.not rfl) ?_
 refine RN ?_
 refine Ap rfl ?_
 refine TK.norm ⟨[(1, vL eT l), (2, vL eI o), (4, .bref 5 0), (7, .bref 8 0), (8, .bref 9 0), (22, vB (!(Option.isSome (tlF start W l o))))], [(5, .box 26 [vI start, vL eI W]), (8, .box 56 [vL eI (Ch.order c0), vI (Ch.bright c0), vI (Ch.end_ c0)]), (9, .box 56 [vL eI [], vI 0, vI 0])]⟩ (sb rfl rfl rfl) ?_
 refine TK.cond rfl (fun h1 => ?_) (fun h1 => ?_)
 ·
  refine At rfl ?_
  refine NR ⟨[(7, .bref 8 0), (8, .bref 9 0)], [(8, .box 56 [vL eI (Ch.order c0), vI (Ch.bright c0), vI (Ch.end_ c0)]), (9, .box 56 [vL eI [], vI 0, vI 0])]⟩ (sb rfl rfl rfl) rfl ?_
  refine RO (Body.loadBA rfl rfl rfl ag56 sz56 rfl rfl) ?_
  refine rn rfl ?_
  refine RN ?_
  refine Ap rfl ?_
  refine TK.ret ?_
  refine PK.ret ?_
  refine leaf (val0 := .pv (.agg [pL eI (Ch.order c0), pI (Ch.bright c0), pI (Ch.end_ c0)])) (by kernel_rfl) ?_
  exact lag (lcons (plsl (by unfold refC; rw [isNone_of h1])) (lcons (pli (by unfold refC; rw [isNone_of h1])) (lcons (pli (by unfold refC; rw [isNone_of h1])) rfl)))
 ·
  refine At rfl ?_
  refine TK.norm ⟨[(1, vL eT l), (2, vL eI o), (4, .bref 5 0), (7, .bref 8 0), (8, .bref 9 0)], [(5, .box 26 [vI start, vL eI W]), (8, .box 56 [vL eI (Ch.order c0), vI (Ch.bright c0), vI (Ch.end_ c0)]), (9, .box 56 [vL eI [], vI 0, vI 0])]⟩ (sb rfl rfl rfl) ?_
  obtain ⟨r, hr⟩ := Option.isSome_iff_exists.1 (bnot_f h1)
  refine TK.rg (Y := tab) mixed rfl ?_
  refine RO (Body.loadBA rfl rfl rfl ag26 sz26 rfl rfl) ?_
  refine mv rfl ?_
  refine mv rfl ?_
  refine RO (Body.call (w167 start W l o r hS hT hg hr) rfl rfl rfl) ?_
  refine RO (Body.runZ rfl (fun l => Frz.boxN l rfl) rfl) ?_
  refine rn rfl ?_
  refine RN ?_
  refine Ap rfl ?_
  refine NR ⟨[(1, vL eT l), (2, vL eI o), (4, .bref 5 0), (7, .bref 8 0), (8, .bref 9 0), (11, .bref 12 0)], [(5, .box 26 [vI start, vL eI W]), (8, .box 56 [vL eI (Ch.order c0), vI (Ch.bright c0), vI (Ch.end_ c0)]), (9, .box 56 [vL eI [], vI 0, vI 0]), (12, .box 56 [vL eI o, vI (brightS l o), vI (endF start l o (lastD r))])]⟩ (sb rfl rfl rfl) rfl ?_
  refine mv rfl ?_
  refine RO (Body.lenL rfl un22) ?_
  refine RO (Body.gtr rfl rfl) ?_
  refine mv rfl ?_
  refine RG.cons (EfR.sym rfl (fun hc => Body.loadBA rfl rfl rfl ag56 sz56 rfl rfl) rfl) ?_
  refine RG.cons (EfR.sym rfl (fun hc => Body.loadBA rfl rfl rfl ag56 sz56 rfl rfl) rfl) ?_
  refine RG.cons (EfR.sym rfl (fun hc => Body.call (w168 o (Ch.order c0) (brightS l o) (endF start l o (lastD r)) (Ch.bright c0) (Ch.end_ c0)) rfl (ds2 (ev1_gd rfl hc) (ev1_gd rfl hc)) rfl) rfl) ?_
  refine RO (Body.pick rfl rfl rfl (gdB rfl) rfl (pick_and _)) ?_
  refine RN ?_
  refine Ap rfl ?_
  refine TK.norm ⟨[(1, vL eT l), (2, vL eI o), (4, .bref 5 0), (7, .bref 8 0), (8, .bref 9 0), (11, .bref 12 0), (35, vB (bif (decide (0 < ((List.length o : Nat) : Int))) then (betC ⟨o, (brightS l o), (endF start l o (lastD r))⟩ ⟨(Ch.order c0), (Ch.bright c0), (Ch.end_ c0)⟩) else false))], [(5, .box 26 [vI start, vL eI W]), (8, .box 56 [vL eI (Ch.order c0), vI (Ch.bright c0), vI (Ch.end_ c0)]), (9, .box 56 [vL eI [], vI 0, vI 0]), (12, .box 56 [vL eI o, vI (brightS l o), vI (endF start l o (lastD r))])]⟩ (sb rfl rfl rfl) ?_
  refine TK.condJ ⟨[(1, vL eT l), (2, vL eI o), (4, .bref 5 0), (7, .bref 8 0), (8, .bref 9 0)], [(5, .box 26 [vI start, vL eI W]), (8, .box 56 [vL eI (Ch.order (updC start l o (lastD r) (brightS l o) c0)), vI (Ch.bright (updC start l o (lastD r) (brightS l o) c0)), vI (Ch.end_ (updC start l o (lastD r) (brightS l o) c0))]), (9, .box 56 [vL eI [], vI 0, vI 0])]⟩ rfl rfl (fun h2 => ?_) (fun h2 => ?_) ?_
  ·
   refine At rfl ?_
   refine NR ⟨[(1, vL eT l), (2, vL eI o), (4, .bref 5 0), (7, .bref 8 0), (8, .bref 9 0), (11, .bref 12 0)], [(5, .box 26 [vI start, vL eI W]), (8, .box 56 [vL eI (Ch.order c0), vI (Ch.bright c0), vI (Ch.end_ c0)]), (9, .box 56 [vL eI [], vI 0, vI 0]), (12, .box 56 [vL eI o, vI (brightS l o), vI (endF start l o (lastD r))])]⟩ (sb rfl rfl rfl) rfl ?_
   refine RO (Body.loadBA rfl rfl rfl ag56 sz56 rfl rfl) ?_
   refine rn rfl ?_
   refine RN ?_
   refine Aq rfl ?_
   refine PK.lp ?_
   rw [updR h0 hr h2]
   exact sb rfl rfl rfl
  ·
   refine Au rfl ?_
   refine PK.lp ?_
   rw [updR h0 hr h2]
   exact sb rfl rfl rfl
  ·
   refine At rfl ?_
   refine NR ⟨[(1, vL eT l), (2, vL eI o), (4, .bref 5 0), (7, .bref 8 0), (8, .bref 9 0)], [(5, .box 26 [vI start, vL eI W]), (8, .box 56 [vL eI (Ch.order (updC start l o (lastD r) (brightS l o) c0)), vI (Ch.bright (updC start l o (lastD r) (brightS l o) c0)), vI (Ch.end_ (updC start l o (lastD r) (brightS l o) c0))]), (9, .box 56 [vL eI [], vI 0, vI 0])]⟩ (sb rfl rfl rfl) rfl ?_
   refine ag rfl ?_
   refine RN ?_
   refine Ap rfl ?_
   refine TK.loop (α := Nat × Ch) (fun x => ⟨[(1, vL eT l), (2, vL eI o), (4, .bref 5 0), (7, .bref 8 0), (8, .bref 9 0), (12, vI ((x.1 : Nat) : Int))], [(5, .box 26 [vI start, vL eI W]), (8, .box 56 [vL eI (Ch.order x.2), vI (Ch.bright x.2), vI (Ch.end_ x.2)]), (9, .box 56 [vL eI [], vI 0, vI 0])]⟩) (fun x => x.1 ≤ List.length l ∧ x.2 = loopC start W l (recC start W l n) o (lastD r) (brightS l o) (updC start l o (lastD r) (brightS l o) c0) x.1) (fun x => List.length l - x.1) (0, (updC start l o (lastD r) (brightS l o) c0)) ?_ (sb rfl rfl rfl) ?_
   · show 0 ≤ List.length l ∧ (updC start l o (lastD r) (brightS l o) c0) = loopC start W l (recC start W l n) o (lastD r) (brightS l o) (updC start l o (lastD r) (brightS l o) c0) 0
     exact ⟨Nat.zero_le _, rfl⟩
   rintro ⟨k, c⟩ hI0
   replace hI0 : k ≤ List.length l ∧ c = loopC start W l (recC start W l n) o (lastD r) (brightS l o) (updC start l o (lastD r) (brightS l o) c0) k := hI0
   show TK _ _ _ _ _ _ ⟨[(1, vL eT l), (2, vL eI o), (4, .bref 5 0), (7, .bref 8 0), (8, .bref 9 0), (12, vI ((k : Nat) : Int))], [(5, .box 26 [vI start, vL eI W]), (8, .box 56 [vL eI (Ch.order c), vI (Ch.bright c), vI (Ch.end_ c)]), (9, .box 56 [vL eI [], vI 0, vI 0])]⟩
   refine At rfl ?_
   refine NR ⟨[(1, vL eT l), (2, vL eI o), (4, .bref 5 0), (7, .bref 8 0), (8, .bref 9 0), (12, vI ((k : Nat) : Int))], [(5, .box 26 [vI start, vL eI W]), (8, .box 56 [vL eI (Ch.order c), vI (Ch.bright c), vI (Ch.end_ c)]), (9, .box 56 [vL eI [], vI 0, vI 0])]⟩ (sb rfl rfl rfl) rfl ?_
   refine mv rfl ?_
   refine mv rfl ?_
   refine RO (Body.lenL rfl un27) ?_
   refine RO (Body.lss rfl rfl) ?_
   refine RN ?_
   refine Ap rfl ?_
   refine TK.norm ⟨[(1, vL eT l), (2, vL eI o), (4, .bref 5 0), (7, .bref 8 0), (8, .bref 9 0), (12, vI ((k : Nat) : Int)), (40, vB (decide (((k : Nat) : Int) < ((List.length l : Nat) : Int))))], [(5, .box 26 [vI start, vL eI W]), (8, .box 56 [vL eI (Ch.order c), vI (Ch.bright c), vI (Ch.end_ c)]), (9, .box 56 [vL eI [], vI 0, vI 0])]⟩ (sb rfl rfl rfl) ?_
   refine TK.condP rfl (fun h3 => ?_) (fun h3 => ?_)
   ·
    refine At rfl ?_
    refine NR ⟨[(1, vL eT l), (2, vL eI o), (4, .bref 5 0), (7, .bref 8 0), (8, .bref 9 0), (12, vI ((k : Nat) : Int))], [(5, .box 26 [vI start, vL eI W]), (8, .box 56 [vL eI (Ch.order c), vI (Ch.bright c), vI (Ch.end_ c)]), (9, .box 56 [vL eI [], vI 0, vI 0])]⟩ (sb rfl rfl rfl) rfl ?_
    refine rn rfl ?_
    refine mv rfl ?_
    refine RO (Body.append (enc := eI) (l := []) (r := o) rfl rfl rfl un22 in3 rfl (fun _ => rfl) by3 (by first | omega | (simp only [List.length_append, List.length_cons, List.length_nil]; omega))) ?_
    refine mv rfl ?_
    refine RO (Body.runZ (val := .pv (.slice (List.map eI [((k : Nat) : Int)]))) rfl (fun l => Frz.arr l _ _ _ _ _) rfl) ?_
    refine RO (Body.append rfl rfl rfl un22 in3 rfl (fun _ => rfl) by3 (by first | omega | (simp only [List.length_append, List.length_cons, List.length_nil]; omega))) ?_
    refine rn rfl ?_
    refine RN ?_
    refine Ap rfl ?_
    refine TK.norm ⟨[(1, vL eT l), (2, vL eI o), (4, .bref 5 0), (7, .bref 8 0), (8, .bref 9 0), (12, vI ((k : Nat) : Int)), (13, .aref 44 ((0 + 1) + 1))], [(5, .box 26 [vI start, vL eI W]), (8, .box 56 [vL eI (Ch.order c), vI (Ch.bright c), vI (Ch.end_ c)]), (9, .box 56 [vL eI [], vI 0, vI 0]), (44, .arr ((0 + 1) + 1) 1 3 (List.map eI (o ++ [((k : Nat) : Int)])))]⟩ (sb rfl rfl rfl) ?_
    refine TK.frz (t := 13) rfl rfl ?_
    refine NR ⟨[(1, vL eT l), (2, vL eI o), (4, .bref 5 0), (7, .bref 8 0), (8, .bref 9 0), (12, vI ((k : Nat) : Int)), (13, vL eI (o ++ [((k : Nat) : Int)]))], [(5, .box 26 [vI start, vL eI W]), (8, .box 56 [vL eI (Ch.order c), vI (Ch.bright c), vI (Ch.end_ c)]), (9, .box 56 [vL eI [], vI 0, vI 0])]⟩ (sb rfl rfl rfl) rfl ?_
    refine mv rfl ?_
    refine RO (Body.lenL rfl un27) ?_
    refine mv rfl ?_
    refine RO (Body.call (w26 ((List.length l : Nat) : Int) (o ++ [((k : Nat) : Int)]) (by first | omega | (simp only [List.length_append, List.length_cons, List.length_nil]; omega)) (by omega)) rfl rfl rfl) ?_
    refine RO (Body.eql rfl rfl) ?_
    refine RN ?_
    refine Ap rfl ?_
    refine TK.norm ⟨[(1, vL eT l), (2, vL eI o), (4, .bref 5 0), (7, .bref 8 0), (8, .bref 9 0), (12, vI ((k : Nat) : Int)), (13, vL eI (o ++ [((k : Nat) : Int)])), (53, vB (decide ((chkOrdF ((List.length l : Nat) : Int) (o ++ [((k : Nat) : Int)])) = 0)))], [(5, .box 26 [vI start, vL eI W]), (8, .box 56 [vL eI (Ch.order c), vI (Ch.bright c), vI (Ch.end_ c)]), (9, .box 56 [vL eI [], vI 0, vI 0])]⟩ (sb rfl rfl rfl) ?_
    refine TK.condP rfl (fun h4 => ?_) (fun h4 => ?_)
    ·
     refine At rfl ?_
     refine TK.norm ⟨[(1, vL eT l), (2, vL eI o), (4, .bref 5 0), (7, .bref 8 0), (8, .bref 9 0), (12, vI ((k : Nat) : Int)), (13, vL eI (o ++ [((k : Nat) : Int)]))], [(5, .box 26 [vI start, vL eI W]), (8, .box 56 [vL eI (Ch.order c), vI (Ch.bright c), vI (Ch.end_ c)]), (9, .box 56 [vL eI [], vI 0, vI 0])]⟩ (sb rfl rfl rfl) ?_
     have ha : o.any (fun j => decide (j = (k : Int))) = false := ord_any hg (by omega) h4
     refine TK.rg (Y := tab) mixed rfl ?_
     refine RO (Body.loadBA rfl rfl rfl ag26 sz26 rfl rfl) ?_
     refine mv rfl ?_
     refine mv rfl ?_
     refine RO (Body.loadBA rfl rfl rfl ag56 sz56 rfl rfl) ?_
     refine RO (Body.call (hrec k (Ch.mk (Ch.order c) (Ch.bright c) (Ch.end_ c)) (by omega) ha) rfl rfl rfl) ?_
     refine rn rfl ?_
     refine RN ?_
     refine Ap rfl ?_
     refine NR ⟨[(1, vL eT l), (2, vL eI o), (4, .bref 5 0), (7, .bref 8 0), (8, .bref 9 0), (12, vI ((k : Nat) : Int))], [(5, .box 26 [vI start, vL eI W]), (8, .box 56 [vL eI (Ch.order (refC start W l n (o ++ [((k : Nat) : Int)]) c)), vI (Ch.bright (refC start W l n (o ++ [((k : Nat) : Int)]) c)), vI (Ch.end_ (refC start W l n (o ++ [((k : Nat) : Int)]) c))]), (9, .box 56 [vL eI [], vI 0, vI 0])]⟩ (sb rfl rfl rfl) rfl ?_
     refine mv rfl ?_
     refine RO (Body.add rfl rfl (by unfold R64; omega)) ?_
     refine ag rfl ?_
     refine RN ?_
     refine Aq rfl ?_
     refine PK.lp ?_
     refine LP.mk ((k + 1), (refC start W l n (o ++ [((k : Nat) : Int)]) c)) ?_ ?_ (sb rfl rfl rfl)
     · show (k + 1) ≤ List.length l ∧ (refC start W l n (o ++ [((k : Nat) : Int)]) c) = loopC start W l (recC start W l n) o (lastD r) (brightS l o) (updC start l o (lastD r) (brightS l o) c0) (k + 1)
       refine ⟨by omega, ?_⟩; rw [loopC, ← hI0.2]; first | exact (ref_step hr ha).symm | exact (step_skip (ord_any2 hg (by omega) h4)).symm
     · show List.length l - (k + 1) < List.length l - k
       omega
    ·
     refine At rfl ?_
     refine NR ⟨[(1, vL eT l), (2, vL eI o), (4, .bref 5 0), (7, .bref 8 0), (8, .bref 9 0), (12, vI ((k : Nat) : Int))], [(5, .box 26 [vI start, vL eI W]), (8, .box 56 [vL eI (Ch.order c), vI (Ch.bright c), vI (Ch.end_ c)]), (9, .box 56 [vL eI [], vI 0, vI 0])]⟩ (sb rfl rfl rfl) rfl ?_
     refine mv rfl ?_
     refine RO (Body.add rfl rfl (by unfold R64; omega)) ?_
     refine ag rfl ?_
     refine RN ?_
     refine Aq rfl ?_
     refine PK.lp ?_
     refine LP.mk ((k + 1), c) ?_ ?_ (sb rfl rfl rfl)
     · show (k + 1) ≤ List.length l ∧ c = loopC start W l (recC start W l n) o (lastD r) (brightS l o) (updC start l o (lastD r) (brightS l o) c0) (k + 1)
       refine ⟨by omega, ?_⟩; rw [loopC, ← hI0.2]; first | exact (ref_step hr ha).symm | exact (step_skip (ord_any2 hg (by omega) h4)).symm
     · show List.length l - (k + 1) < List.length l - k
       omega
   ·
    refine At rfl ?_
    refine TK.exit ?_
    refine PK.exit rfl ?_
    refine Ap rfl ?_
    refine TK.norm ⟨[(7, .bref 8 0), (8, .bref 9 0)], [(8, .box 56 [vL eI (Ch.order c), vI (Ch.bright c), vI (Ch.end_ c)]), (9, .box 56 [vL eI [], vI 0, vI 0])]⟩ (sb rfl rfl rfl) ?_
    have hc : c = refC start W l (n + 1) o c0 := by unfold refC; rw [hr]; simp only [recC]; rw [hI0.2, show k = l.length by omega]
    subst hc
    refine TK.rg (Y := tab) mixed rfl ?_
    refine RO (Body.loadBA rfl rfl rfl ag56 sz56 rfl rfl) ?_
    refine rn rfl ?_
    refine RN ?_
    refine Ap rfl ?_
    refine TK.ret ?_
    refine PK.ret ?_
    refine leaf (val0 := .pv (.agg [pL eI (Ch.order (refC start W l (n + 1) o c0)), pI (Ch.bright (refC start W l (n + 1) o c0)), pI (Ch.end_ (refC start W l (n + 1) o c0))])) (by kernel_rfl) ?_
    exact rfl
end Go.Lens.Tb
end
section
namespace Go.Lens.Tb
open Go.Proofs
set_option linter.unusedSectionVars false
variable [Lz]
theorem v114 (start : Int) (W : List Int) (l : List Tgt) (hS : 0 ≤ start ∧ start ≤ 1440 ∧ W.length ≤ 24 ∧ l.length ≤ 32) (hT : ∀ t ∈ l, VT t) : ∀ (n : Nat) (o : List Int) (c : Ch), gdO l o → l.length + 1 ≤ o.length + n → (o = [] → betC ⟨[], 0, start⟩ c = false) →
  CallOk Tryz.prog 114 [.pv (.agg [pI start, pL eI W]), vL eT l, vL eI o, .pv (.agg [pL eI (Ch.order c), pI (Ch.bright c), pI (Ch.end_ c)])] (lookM []) (.pv (.agg [pL eI (Ch.order (refC start W l n o c)), pI (Ch.bright (refC start W l n o c)), pI (Ch.end_ (refC start W l n o c))])) [] := by
 intro n
 induction n with
 | zero => intro o c hg hn; exact absurd (gd_len hg) (by omega)
 | succ n ih =>
  intro o c hg hn h0
  exact w114 n start W l o c hS hT hg h0 fun i c hi ha => ih _ c (gd_snoc hg hi ha) (by simp only [List.length_append, List.length_cons, List.length_nil]; omega) (fun e => by simp at e)
abbrev mS (start : Int) (W : List Int) (l : List Tgt) (c : Ch) : List (Nat × MO) :=
 [(3, .box 24 [vI start, vL eI W]), (4, .box 25 [vL eT l]), (8, .box 53 [vL eI (Ch.order c), vI (Ch.bright c), vI (Ch.end_ c)]), (9, .box 200 [.clos (.func 111) [] [.bref 3 0, .bref 4 0, .bref 8 0, .bref 9 0]])]
abbrev mO (start : Int) (W : List Int) (l : List Tgt) (c : Ch) : List (Nat × MO) :=
 [(9, .box 200 [.clos (.func 111) [] [.bref 3 0, .bref 4 0, .bref 8 0, .bref 9 0]]), (8, .box 53 [vL eI (Ch.order c), vI (Ch.bright c), vI (Ch.end_ c)]), (4, .box 25 [vL eT l]), (3, .box 24 [vI start, vL eI W])]
theorem bet_nil (S : Int) : betC ⟨[], 0, S⟩ ⟨[], 0, S⟩ = false := by simp [betC]
def planX (S : Int) (W : List Int) (l : List Tgt) : Ch := if badP S W l ≠ 0 then ⟨[], 0, 0⟩ else planC S W l
theorem badP_parts {S : Int} {W : List Int} {l : List Tgt} (h : badP S W l = 0) : (0 ≤ S ∧ S ≤ 1440 ∧ W.length ≤ 24 ∧ l.length ≤ 32) ∧ ∀ t ∈ l, VT t := by
 have h1 : firstF [chkNightF S W, chkTgtsF l] = 0 := by
  by_cases h1 : firstF [chkNightF S W, chkTgtsF l] = 0
  ·exact h1
  ·exact absurd ((bad1 h1).symm.trans h) h1
 obtain ⟨⟨a, b, c, d⟩, e, f⟩ := tl_parts h1
 exact ⟨⟨a, b, d, e⟩, f⟩
theorem upd_if {S : Int} {l : List Tgt} {o : List Int} {b br : Int} {c : Ch} {q : Bool} (h : (bif decide (Ch.bright c < br) then true else (bif decide (br = Ch.bright c) then decide (endF S l o b < Ch.end_ c) else false)) = q) :
  betC ⟨o, br, endF S l o b⟩ c = q := by rw [← h]; simp only [betC, bif_or, bif_and]
theorem upd_of {S : Int} {l : List Tgt} {o : List Int} {b br : Int} {c : Ch} {q : Bool} (h : betC ⟨o, br, endF S l o b⟩ c = q) : updC S l o b br c = bif q then ⟨o, br, endF S l o b⟩ else c := by
 unfold updC; rw [h]
end Go.Lens.Tb
end
