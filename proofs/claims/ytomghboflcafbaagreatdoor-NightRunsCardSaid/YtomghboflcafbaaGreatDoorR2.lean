/- A part of the proof that NightRunsCardSaid holds, without conditions. -/
import Derived.Test.YtomghboflcafbaaGreatDoorR1
import Derived.Test.YtomghboflcafbaaGreatDoorS10
import Derived.Shelf.Strings.OnBuilder
import Derived.Test.YtomghboflcafbaaGreatDoorProg
import Derived.Test.YtomghboflcafbaaGreatDoorS4
import Derived.Test.YtomghboflcafbaaGreatDoorRows
import Derived.MakeChecks
import Derived.Lib.LaidTab
import Derived.LaidLaws
import Derived.Stop.Joined
import Derived.RowKit
set_option linter.unusedVariables false
set_option linter.unusedSimpArgs false
section
namespace Go.Lens.Tm
open Go.Lens.Tb Go.Proofs
variable [Lz]
set_option linter.unusedSectionVars false
set_option maxRecDepth 100000
attribute [local irreducible] TK PK T RG EfR Body
theorem ag164 : aggT tab 164 = some true := by kernel_rfl
theorem ag176 : aggT tab 176 = some true := by kernel_rfl
theorem by176 : ty176.info.bytes = 24 := by kernel_rfl
theorem fa81_0 : fadQ tab 81 0 = some 0 := by kernel_rfl
theorem fa81_1 : fadQ tab 81 1 = some 1 := by kernel_rfl
theorem fa81_2 : fadQ tab 81 2 = some 2 := by kernel_rfl
theorem fa81_3 : fadQ tab 81 3 = some 3 := by kernel_rfl
theorem fa89_0 : fadQ tab 89 0 = some 0 := by kernel_rfl
theorem fa89_1 : fadQ tab 89 1 = some 1 := by kernel_rfl
theorem fa89_2 : fadQ tab 89 2 = some 2 := by kernel_rfl
theorem fa89_3 : fadQ tab 89 3 = some 3 := by kernel_rfl
theorem in176 : tab.info? 176 = some ty176.info := by kernel_rfl
theorem sz164 : szT tab 164 = some 2 := by kernel_rfl
theorem sz176 : szT tab 176 = some 2 := by kernel_rfl
theorem un86 : tab.underlying 86 = some (.slice 164) := by kernel_rfl
theorem un90 : tab.underlying 90 = some (.slice 176) := by kernel_rfl
theorem fq176 : flatEq tab 176 = some [.int (.i64), .string] := by kernel_rfl
set_option maxHeartbeats 4000000 in
theorem w181 (b : Bool) (e : Int) : CallOk Tryz.prog 181 [vB b, vI e] (lookM []) (vI (whenF b e)) [] := by
 haveI := tab_ok
 obtain ⟨fn, f1, f2, f3, f4, _, f6⟩ := qf181
 refine callOk_of (Y := tab) (F := fn181) f1 (f2.trans rfl) f3 f4 f6 (Nat.le_of_ble_eq_true rfl) rfl ?_
 clear f1 f2 f3 f4 f6
 show TK _ _ _ _ _ _ ⟨[(0, vB b), (1, vI e)], []⟩
 refine At rfl ?_
 refine NR ⟨[(0, vB b), (1, vI e)], []⟩ (sb rfl rfl rfl) rfl ?_
 refine ag rfl ?_
 refine RN ?_
 refine Ap rfl ?_
 refine NR ⟨[(0, vB b), (1, vI e)], []⟩ (sb rfl rfl rfl) rfl ?_
 refine mv rfl ?_
 refine RN ?_
 refine Ap rfl ?_
 refine TK.norm ⟨[(1, vI e), (5, vB b)], []⟩ (sb rfl rfl rfl) ?_
 refine TK.cond rfl (fun h1 => ?_) (fun h1 => ?_)
 ·
  refine At rfl ?_
  refine NR ⟨[(1, vI e)], []⟩ (sb rfl rfl rfl) rfl ?_
  refine mv rfl ?_
  refine ag rfl ?_
  refine RN ?_
  refine Ap rfl ?_
  refine TK.ret ?_
  refine PK.ret ?_
  refine leaf (val0 := vI e) (by kernel_rfl) ?_
  exact li (by subst h1; rfl)
 ·
  refine At rfl ?_
  refine NR ⟨[], []⟩ (sb rfl rfl rfl) rfl ?_
  refine ag rfl ?_
  refine RN ?_
  refine Ap rfl ?_
  refine TK.ret ?_
  refine PK.ret ?_
  refine leaf (val0 := vI 0) (by kernel_rfl) ?_
  exact li (by subst h1; rfl)
set_option maxHeartbeats 4000000 in
theorem w182 (n low high : Int) : CallOk Tryz.prog 182 [vI n, vI low, vI high] (lookM []) (vI (withinF n low high)) [] := by
 haveI := tab_ok
 obtain ⟨fn, f1, f2, f3, f4, _, f6⟩ := qf182
 refine callOk_of (Y := tab) (F := fn182) f1 (f2.trans rfl) f3 f4 f6 (Nat.le_of_ble_eq_true rfl) rfl ?_
 clear f1 f2 f3 f4 f6
 show TK _ _ _ _ _ _ ⟨[(0, vI n), (1, vI low), (2, vI high)], []⟩
 refine At rfl ?_
 refine NR ⟨[(0, vI n), (1, vI low), (2, vI high)], []⟩ (sb rfl rfl rfl) rfl ?_
 refine ag rfl ?_
 refine RN ?_
 refine Ap rfl ?_
 refine NR ⟨[(0, vI n), (1, vI low), (2, vI high)], []⟩ (sb rfl rfl rfl) rfl ?_
 refine mv rfl ?_
 refine mv rfl ?_
 refine RO (Body.lss rfl rfl) ?_
 refine mv rfl ?_
 refine RG.cons (EfR.sym rfl (fun hc => Body.move rfl) rfl) ?_
 refine RG.cons (EfR.sym rfl (fun hc => Body.move rfl) rfl) ?_
 refine RG.cons (EfR.sym rfl (fun hc => Body.gtr (ev1_gd rfl hc) (ev1_gd rfl hc)) rfl) ?_
 refine RO (Body.pick rfl rfl rfl rfl (gdB rfl) (pick_or _)) ?_
 refine RO (Body.call (w181 (bif (decide (n < low)) then true else (decide (high < n))) 3) rfl rfl rfl) ?_
 refine ag rfl ?_
 refine RN ?_
 refine Ap rfl ?_
 refine TK.ret ?_
 refine PK.ret ?_
 refine leaf (val0 := vI (whenF (bif (decide (n < low)) then true else (decide (high < n))) 3)) (by kernel_rfl) ?_
 exact li (by simp only [withinF, outF, bif_or])
set_option maxHeartbeats 4000000 in
theorem w180 (l : List Int) (hl : l.length ≤ 1000000000000000) : CallOk Tryz.prog 180 [vL eI l] (lookM []) (vI (firstF l)) [] := by
 haveI := tab_ok
 obtain ⟨fn, f1, f2, f3, f4, _, f6⟩ := qf180
 refine callOk_of (Y := tab) (F := fn180) f1 (f2.trans rfl) f3 f4 f6 (Nat.le_of_ble_eq_true rfl) rfl ?_
 clear f1 f2 f3 f4 f6
 show TK _ _ _ _ _ _ ⟨[(0, vL eI l)], []⟩
 refine At rfl ?_
 refine NR ⟨[(0, vL eI l)], []⟩ (sb rfl rfl rfl) rfl ?_
 refine ag rfl ?_
 refine RN ?_
 refine Ap rfl ?_
 refine NR ⟨[(0, vL eI l)], []⟩ (sb rfl rfl rfl) rfl ?_
 refine mv rfl ?_
 refine RO (Body.lenL rfl un289) ?_
 refine mv rfl ?_
 refine RN ?_
 refine Ap rfl ?_
 refine TK.loop (α := Nat) (fun x => ⟨[(5, vL eI l), (6, vI l.length), (7, vI x)], []⟩) (fun x => x ≤ l.length ∧ firstF l = firstF (List.drop x l)) (fun x => l.length - x) 0 ?_ (sb rfl rfl rfl) ?_
 · show 0 ≤ l.length ∧ firstF l = firstF (List.drop 0 l)
   exact ⟨Nat.zero_le _, rfl⟩
 rintro k hI0
 replace hI0 : k ≤ l.length ∧ firstF l = firstF (List.drop k l) := hI0
 show TK _ _ _ _ _ _ ⟨[(5, vL eI l), (6, vI l.length), (7, vI k)], []⟩
 refine At rfl ?_
 refine NR ⟨[(5, vL eI l), (6, vI l.length), (7, vI k)], []⟩ (sb rfl rfl rfl) rfl ?_
 refine RO (Body.lss rfl rfl) ?_
 refine RN ?_
 refine Ap rfl ?_
 refine TK.norm ⟨[(5, vL eI l), (6, vI l.length), (7, vI k), (8, vB (decide ((k : Int) < (l.length : Int))))], []⟩ (sb rfl rfl rfl) ?_
 refine TK.condP rfl (fun h1 => ?_) (fun h1 => ?_)
 ·
  refine At rfl ?_
  refine NR ⟨[(5, vL eI l), (6, vI l.length), (7, vI k)], []⟩ (sb rfl rfl rfl) rfl ?_
  refine RO (Body.idx (z := 0) (i := k) rfl rfl un289 sz34 (fun _ => rfl) rfl (by omega)) ?_
  refine RO (Body.loadP rfl ag34 sz34) ?_
  refine ag rfl ?_
  refine RN ?_
  refine Ap rfl ?_
  refine NR ⟨[(4, vI (List.getD l k 0)), (5, vL eI l), (6, vI l.length), (7, vI k)], []⟩ (sb rfl rfl rfl) rfl ?_
  refine mv rfl ?_
  refine RO (Body.neq rfl rfl) ?_
  refine RN ?_
  refine Ap rfl ?_
  refine TK.norm ⟨[(4, vI (List.getD l k 0)), (5, vL eI l), (6, vI l.length), (7, vI k), (12, vB (decide ((List.getD l k 0) ≠ 0)))], []⟩ (sb rfl rfl rfl) ?_
  refine TK.condP rfl (fun h2 => ?_) (fun h2 => ?_)
  ·
   refine At rfl ?_
   refine NR ⟨[(4, vI (List.getD l k 0))], []⟩ (sb rfl rfl rfl) rfl ?_
   refine mv rfl ?_
   refine ag rfl ?_
   refine RN ?_
   refine Ap rfl ?_
   refine TK.ret ?_
   refine PK.ret ?_
   refine leaf (val0 := vI (List.getD l k 0)) (by kernel_rfl) ?_
   exact li (by (rw [hI0.2, drop_at l k 0 (by omega), firstF, if_neg (by omega)]))
  ·
   refine At rfl ?_
   refine NR ⟨[(5, vL eI l), (6, vI l.length), (7, vI k)], []⟩ (sb rfl rfl rfl) rfl ?_
   refine RO (Body.add rfl rfl (by unfold R64; omega)) ?_
   refine mv rfl ?_
   refine RN ?_
   refine Aq rfl ?_
   refine PK.lp ?_
   refine LP.mk (k + 1) ?_ ?_ (sb rfl rfl rfl)
   · show (k + 1) ≤ l.length ∧ firstF l = firstF (List.drop (k + 1) l)
     refine ⟨by omega, ?_⟩; rw [hI0.2, drop_at l k 0 (by omega), firstF, if_pos (by omega)]
   · show l.length - (k + 1) < l.length - k
     omega
 ·
  refine At rfl ?_
  refine TK.exit ?_
  refine PK.exit rfl ?_
  refine Ap rfl ?_
  refine NR ⟨[], []⟩ (sb rfl rfl rfl) rfl ?_
  refine ag rfl ?_
  refine RN ?_
  refine Ap rfl ?_
  refine TK.ret ?_
  refine PK.ret ?_
  refine leaf (val0 := vI 0) (by kernel_rfl) ?_
  exact li (by (rw [hI0.2, List.drop_eq_nil_of_le (by omega)]; rfl))
set_option maxHeartbeats 4000000 in
theorem w251 (l : List (List UInt8)) (n : List UInt8) (hl : l.length ≤ 1000000000000000) : CallOk Tryz.prog 251 [vL eN l, vS (bsO n)] (lookM []) (vI (findI (fun y => decide (n = y)) l)) [] := by
 haveI := tab_ok
 obtain ⟨fn, f1, f2, f3, f4, _, f6⟩ := qf251
 refine callOk_of (Y := tab) (F := fn251) f1 (f2.trans rfl) f3 f4 f6 (Nat.le_of_ble_eq_true rfl) rfl ?_
 clear f1 f2 f3 f4 f6
 show TK _ _ _ _ _ _ ⟨[(0, vL eN l), (1, vS (bsO n))], []⟩
 refine At rfl ?_
 refine NR ⟨[(0, vL eN l), (1, vS (bsO n))], []⟩ (sb rfl rfl rfl) rfl ?_
 refine ag rfl ?_
 refine RN ?_
 refine Ap rfl ?_
 refine NR ⟨[(0, vL eN l), (1, vS (bsO n))], []⟩ (sb rfl rfl rfl) rfl ?_
 refine mv rfl ?_
 refine RO (Body.lenL rfl un73) ?_
 refine mv rfl ?_
 refine RN ?_
 refine Ap rfl ?_
 refine TK.loop (α := Nat) (fun x => ⟨[(0, vL eN l), (1, vS (bsO n)), (7, vI l.length), (8, vI x)], []⟩) (fun x => x ≤ l.length ∧ ∀ j, j < x → decide (n = List.getD l j []) = false) (fun x => l.length - x) 0 ?_ (sb rfl rfl rfl) ?_
 · show 0 ≤ l.length ∧ ∀ j, j < 0 → decide (n = List.getD l j []) = false
   exact ⟨Nat.zero_le _, fun j hj => by omega⟩
 rintro k hI0
 replace hI0 : k ≤ l.length ∧ ∀ j, j < k → decide (n = List.getD l j []) = false := hI0
 show TK _ _ _ _ _ _ ⟨[(0, vL eN l), (1, vS (bsO n)), (7, vI l.length), (8, vI k)], []⟩
 refine At rfl ?_
 refine NR ⟨[(0, vL eN l), (1, vS (bsO n)), (7, vI l.length), (8, vI k)], []⟩ (sb rfl rfl rfl) rfl ?_
 refine RO (Body.lss rfl rfl) ?_
 refine RN ?_
 refine Ap rfl ?_
 refine TK.norm ⟨[(0, vL eN l), (1, vS (bsO n)), (7, vI l.length), (8, vI k), (9, vB (decide ((k : Int) < (l.length : Int))))], []⟩ (sb rfl rfl rfl) ?_
 refine TK.condP rfl (fun h1 => ?_) (fun h1 => ?_)
 ·
  refine At rfl ?_
  refine NR ⟨[(0, vL eN l), (1, vS (bsO n)), (7, vI l.length), (8, vI k)], []⟩ (sb rfl rfl rfl) rfl ?_
  refine mv rfl ?_
  refine ag rfl ?_
  refine RN ?_
  refine Ap rfl ?_
  refine NR ⟨[(0, vL eN l), (1, vS (bsO n)), (5, vI k), (7, vI l.length), (8, vI k)], []⟩ (sb rfl rfl rfl) rfl ?_
  refine mv rfl ?_
  refine mv rfl ?_
  refine mv rfl ?_
  refine RO (Body.idx (z := []) (i := k) rfl rfl un73 sz9 (fun _ => rfl) rfl (by omega)) ?_
  refine RO (Body.loadP rfl ag9 sz9) ?_
  refine RO (Body.seqB (a := n) (b := (List.getD l k [])) rfl rfl) ?_
  refine RN ?_
  refine Ap rfl ?_
  refine TK.norm ⟨[(0, vL eN l), (1, vS (bsO n)), (5, vI k), (7, vI l.length), (8, vI k), (16, vB (decide (n = (List.getD l k []))))], []⟩ (sb rfl rfl rfl) ?_
  refine TK.condP rfl (fun h2 => ?_) (fun h2 => ?_)
  ·
   refine At rfl ?_
   refine NR ⟨[(5, vI k)], []⟩ (sb rfl rfl rfl) rfl ?_
   refine mv rfl ?_
   refine ag rfl ?_
   refine RN ?_
   refine Ap rfl ?_
   refine TK.ret ?_
   refine PK.ret ?_
   refine leaf (val0 := vI k) (by kernel_rfl) ?_
   exact li (by exact (findI_some (p := (fun y => decide (n = y))) (l := l) (z := []) k (by omega) hI0.2 (decide_eq_true h2)).symm)
  ·
   refine At rfl ?_
   refine NR ⟨[(0, vL eN l), (1, vS (bsO n)), (7, vI l.length), (8, vI k)], []⟩ (sb rfl rfl rfl) rfl ?_
   refine RO (Body.add rfl rfl (by unfold R64; omega)) ?_
   refine mv rfl ?_
   refine RN ?_
   refine Aq rfl ?_
   refine PK.lp ?_
   refine LP.mk (k + 1) ?_ ?_ (sb rfl rfl rfl)
   · show (k + 1) ≤ l.length ∧ ∀ j, j < (k + 1) → decide (n = List.getD l j []) = false
     refine ⟨by omega, fun j hj => ?_⟩; rcases Nat.lt_succ_iff_lt_or_eq.1 hj with h | h; exact hI0.2 j h; subst h; exact decide_eq_false h2
   · show l.length - (k + 1) < l.length - k
     omega
 ·
  refine At rfl ?_
  refine TK.exit ?_
  refine PK.exit rfl ?_
  refine Ap rfl ?_
  refine NR ⟨[], []⟩ (sb rfl rfl rfl) rfl ?_
  refine ag rfl ?_
  refine RN ?_
  refine Ap rfl ?_
  refine TK.ret ?_
  refine PK.ret ?_
  refine leaf (val0 := vI (-1)) (by kernel_rfl) ?_
  exact li (by exact (findI_none (p := (fun y => decide (n = y))) (l := l) (z := []) fun j hj => hI0.2 j (by omega)).symm)
set_option maxHeartbeats 4000000 in
theorem w179 (l : List (List UInt8)) (n : List UInt8) (hl : l.length ≤ 1000000000000000) : CallOk Tryz.prog 179 [vL eN l, vS (bsO n)] (lookM []) (vB (List.any l (fun y => decide (n = y)))) [] := by
 haveI := tab_ok
 obtain ⟨fn, f1, f2, f3, f4, _, f6⟩ := qf179
 refine callOk_of (Y := tab) (F := fn179) f1 (f2.trans rfl) f3 f4 f6 (Nat.le_of_ble_eq_true rfl) rfl ?_
 clear f1 f2 f3 f4 f6
 show TK _ _ _ _ _ _ ⟨[(0, vL eN l), (1, vS (bsO n))], []⟩
 refine At rfl ?_
 refine NR ⟨[(0, vL eN l), (1, vS (bsO n))], []⟩ (sb rfl rfl rfl) rfl ?_
 refine ag rfl ?_
 refine RN ?_
 refine Ap rfl ?_
 refine NR ⟨[(0, vL eN l), (1, vS (bsO n))], []⟩ (sb rfl rfl rfl) rfl ?_
 refine mv rfl ?_
 refine mv rfl ?_
 refine RO (Body.call (w251 l n (by omega)) rfl rfl rfl) ?_
 refine RO (Body.geq rfl rfl) ?_
 refine ag rfl ?_
 refine RN ?_
 refine Ap rfl ?_
 refine TK.ret ?_
 refine PK.ret ?_
 refine leaf (val0 := vB (decide (0 ≤ (findI (fun y => decide (n = y)) l)))) (by kernel_rfl) ?_
 exact lb (by exact findI_nonneg l)
set_option maxHeartbeats 4000000 in
theorem w123 (s : LSt) : CallOk Tryz.prog 123 [.pv (gS s)] (lookM []) (vI (chkSt s)) [] := by
 haveI := tab_ok
 obtain ⟨fn, f1, f2, f3, f4, _, f6⟩ := qf123
 refine callOk_of (Y := tab) (F := fn123) f1 (f2.trans rfl) f3 f4 f6 (Nat.le_of_ble_eq_true rfl) rfl ?_
 clear f1 f2 f3 f4 f6
 show TK _ _ _ _ _ _ ⟨[(0, .pv (gS s))], []⟩
 refine At rfl ?_
 refine NR ⟨[(0, .pv (gS s))], []⟩ (sb rfl rfl rfl) rfl ?_
 refine rn rfl ?_
 refine ag rfl ?_
 refine RN ?_
 refine Ap rfl ?_
 refine NR ⟨[(1, .bref 2 0)], [(2, bS s)]⟩ (sb rfl rfl rfl) rfl ?_
 refine RO (Body.runZ (val := .pv (.slice (List.map eN [[105, 100, 108, 101], [111, 112, 101, 110], [99, 108, 111, 115, 101, 100], [115, 97, 102, 101]]))) rfl (fun l => Frz.arr l _ _ _ _ _) rfl) ?_
 refine RO (Body.fadB rfl fa81_0 rfl) ?_
 refine RO (Body.loadB rfl rfl rfl ag9 sz9 rfl) ?_
 refine RO (Body.call (w179 [[105, 100, 108, 101], [111, 112, 101, 110], [99, 108, 111, 115, 101, 100], [115, 97, 102, 101]] s.1 (Nat.le_of_ble_eq_true rfl)) rfl rfl rfl) ?_
 refine ag rfl ?_
 refine RN ?_
 refine Ap rfl ?_
 refine NR ⟨[(1, .bref 2 0), (3, vB (List.any [[105, 100, 108, 101], [111, 112, 101, 110], [99, 108, 111, 115, 101, 100], [115, 97, 102, 101]] (fun y => decide (s.1 = y))))], [(2, bS s)]⟩ (sb rfl rfl rfl) rfl ?_
 refine RO (Body.fadB rfl fa81_1 rfl) ?_
 refine RO (Body.loadB rfl rfl rfl ag3 sz3 rfl) ?_
 refine RO (Body.gtr rfl rfl) ?_
 refine mv rfl ?_
 refine RG.cons (EfR.sym rfl (fun hc => Body.fadB rfl fa81_0 rfl) rfl) ?_
 refine RG.cons (EfR.sym rfl (fun hc => Body.loadB (ev1_gd rfl hc) rfl rfl ag9 sz9 rfl) rfl) ?_
 refine RG.cons (EfR.sym rfl (fun hc => Body.sneB (a := s.1) (b := [99, 108, 111, 115, 101, 100]) (ev1_gd rfl hc) rfl) rfl) ?_
 refine RO (Body.pick rfl rfl rfl (gdB rfl) rfl (pick_and _)) ?_
 refine mv rfl ?_
 refine RG.cons (EfR.sym rfl (fun hc => Body.fadB rfl fa81_2 rfl) rfl) ?_
 refine RG.cons (EfR.sym rfl (fun hc => Body.loadB (ev1_gd rfl hc) rfl rfl ag4 sz4 rfl) rfl) ?_
 refine RG.cons (EfR.sym rfl (fun hc => Body.move (ev1_gd rfl hc)) rfl) ?_
 refine RG.cons (EfR.sym rfl (fun hc => Body.fadB rfl fa81_0 rfl) rfl) ?_
 refine RG.cons (EfR.sym rfl (fun hc => Body.loadB (ev1_gd rfl hc) rfl rfl ag9 sz9 rfl) rfl) ?_
 refine RG.cons (EfR.sym rfl (fun hc => Body.seqB (a := s.1) (b := [99, 108, 111, 115, 101, 100]) (ev1_gd rfl hc) rfl) rfl) ?_
 refine RG.cons (EfR.sym rfl (fun hc => Body.pick (ev1_gd rfl hc) rfl rfl (gdB rfl) rfl (pick_and2 hc)) rfl) ?_
 refine RO (Body.pick rfl rfl rfl rfl (gdB rfl) (pick_or _)) ?_
 refine mv rfl ?_
 refine RG.cons (EfR.sym rfl (fun hc => Body.fadB rfl fa81_3 rfl) rfl) ?_
 refine RG.cons (EfR.sym rfl (fun hc => Body.loadB (ev1_gd rfl hc) rfl rfl ag4 sz4 rfl) rfl) ?_
 refine RG.cons (EfR.sym rfl (fun hc => Body.move (ev1_gd rfl hc)) rfl) ?_
 refine RG.cons (EfR.sym rfl (fun hc => Body.fadB rfl fa81_0 rfl) rfl) ?_
 refine RG.cons (EfR.sym rfl (fun hc => Body.loadB (ev1_gd rfl hc) rfl rfl ag9 sz9 rfl) rfl) ?_
 refine RG.cons (EfR.sym rfl (fun hc => Body.seqB (a := s.1) (b := [111, 112, 101, 110]) (ev1_gd rfl hc) rfl) rfl) ?_
 refine RG.cons (EfR.sym rfl (fun hc => Body.move (ev1_gd rfl hc)) rfl) ?_
 refine RG.cons (EfR.sym rfl (fun hc => Body.fadB rfl fa81_0 rfl) rfl) ?_
 refine RG.cons (EfR.sym rfl (fun hc => Body.loadB (ev1_gd rfl hc) rfl rfl ag9 sz9 rfl) rfl) ?_
 refine RG.cons (EfR.sym rfl (fun hc => Body.seqB (a := s.1) (b := [99, 108, 111, 115, 101, 100]) (ev1_gd rfl hc) rfl) rfl) ?_
 refine RG.cons (EfR.sym rfl (fun hc => Body.pick (ev1_gd rfl hc) rfl rfl rfl (gdB rfl) (pick_or2 hc)) rfl) ?_
 refine RG.cons (EfR.sym rfl (fun hc => Body.pick (ev1_gd rfl hc) rfl rfl (gdB rfl) rfl (pick_and2 hc)) rfl) ?_
 refine RO (Body.pick rfl rfl rfl rfl (gdB rfl) (pick_or _)) ?_
 refine ag rfl ?_
 refine RN ?_
 refine Ap rfl ?_
 refine NR ⟨[(1, .bref 2 0), (3, vB (List.any [[105, 100, 108, 101], [111, 112, 101, 110], [99, 108, 111, 115, 101, 100], [115, 97, 102, 101]] (fun y => decide (s.1 = y)))), (4, vB (bif (bif (bif (decide (0 < s.2.1)) then (decide (s.1 ≠ [99, 108, 111, 115, 101, 100])) else false) then true else (bif s.2.2.1 then (decide (s.1 = [99, 108, 111, 115, 101, 100])) else false)) then true else (bif s.2.2.2 then (bif (decide (s.1 = [111, 112, 101, 110])) then true else (decide (s.1 = [99, 108, 111, 115, 101, 100]))) else false)))], [(2, bS s)]⟩ (sb rfl rfl rfl) rfl ?_
 refine mv rfl ?_
 refine RO (Body.not rfl) ?_
 refine RO (Body.call (w181 (!(List.any [[105, 100, 108, 101], [111, 112, 101, 110], [99, 108, 111, 115, 101, 100], [115, 97, 102, 101]] (fun y => decide (s.1 = y)))) 13) rfl rfl rfl) ?_
 refine RO (Body.fadB rfl fa81_1 rfl) ?_
 refine RO (Body.loadB rfl rfl rfl ag3 sz3 rfl) ?_
 refine RO (Body.call (w182 s.2.1 0 2) rfl rfl rfl) ?_
 refine mv rfl ?_
 refine RO (Body.call (w181 (bif (bif (bif (decide (0 < s.2.1)) then (decide (s.1 ≠ [99, 108, 111, 115, 101, 100])) else false) then true else (bif s.2.2.1 then (decide (s.1 = [99, 108, 111, 115, 101, 100])) else false)) then true else (bif s.2.2.2 then (bif (decide (s.1 = [111, 112, 101, 110])) then true else (decide (s.1 = [99, 108, 111, 115, 101, 100]))) else false)) 18) rfl rfl rfl) ?_
 refine RO (Body.runZ (val := .pv (.slice (List.map eI [(whenF (!(List.any [[105, 100, 108, 101], [111, 112, 101, 110], [99, 108, 111, 115, 101, 100], [115, 97, 102, 101]] (fun y => decide (s.1 = y)))) 13), (withinF s.2.1 0 2), (whenF (bif (bif (bif (decide (0 < s.2.1)) then (decide (s.1 ≠ [99, 108, 111, 115, 101, 100])) else false) then true else (bif s.2.2.1 then (decide (s.1 = [99, 108, 111, 115, 101, 100])) else false)) then true else (bif s.2.2.2 then (bif (decide (s.1 = [111, 112, 101, 110])) then true else (decide (s.1 = [99, 108, 111, 115, 101, 100]))) else false)) 18)]))) rfl (fun l => Frz.arr l _ _ _ _ _) rfl) ?_
 refine RO (Body.call (w180 [(whenF (!(List.any [[105, 100, 108, 101], [111, 112, 101, 110], [99, 108, 111, 115, 101, 100], [115, 97, 102, 101]] (fun y => decide (s.1 = y)))) 13), (withinF s.2.1 0 2), (whenF (bif (bif (bif (decide (0 < s.2.1)) then (decide (s.1 ≠ [99, 108, 111, 115, 101, 100])) else false) then true else (bif s.2.2.1 then (decide (s.1 = [99, 108, 111, 115, 101, 100])) else false)) then true else (bif s.2.2.2 then (bif (decide (s.1 = [111, 112, 101, 110])) then true else (decide (s.1 = [99, 108, 111, 115, 101, 100]))) else false)) 18)] (Nat.le_of_ble_eq_true rfl)) rfl rfl rfl) ?_
 refine ag rfl ?_
 refine RG.nil (fun _ => by kernel_rfl) ?_
 refine Ap rfl ?_
 refine TK.ret ?_
 refine PK.ret ?_
 refine leaf (val0 := vI (firstF [(whenF (!(List.any [[105, 100, 108, 101], [111, 112, 101, 110], [99, 108, 111, 115, 101, 100], [115, 97, 102, 101]] (fun y => decide (s.1 = y)))) 13), (withinF s.2.1 0 2), (whenF (bif (bif (bif (decide (0 < s.2.1)) then (decide (s.1 ≠ [99, 108, 111, 115, 101, 100])) else false) then true else (bif s.2.2.1 then (decide (s.1 = [99, 108, 111, 115, 101, 100])) else false)) then true else (bif s.2.2.2 then (bif (decide (s.1 = [111, 112, 101, 110])) then true else (decide (s.1 = [99, 108, 111, 115, 101, 100]))) else false)) 18)])) (by kernel_rfl) ?_
 exact li (by exact st_one s)
set_option maxHeartbeats 4000000 in
theorem w125 (s : LSt) : CallOk Tryz.prog 125 [.pv (gS s)] (lookM []) (vI (chkSt s)) [] := by
 haveI := tab_ok
 obtain ⟨fn, f1, f2, f3, f4, _, f6⟩ := qf125
 refine callOk_of (Y := tab) (F := fn125) f1 (f2.trans rfl) f3 f4 f6 (Nat.le_of_ble_eq_true rfl) rfl ?_
 clear f1 f2 f3 f4 f6
 show TK _ _ _ _ _ _ ⟨[(0, .pv (gS s))], []⟩
 refine At rfl ?_
 refine NR ⟨[(0, .pv (gS s))], []⟩ (sb rfl rfl rfl) rfl ?_
 refine rn rfl ?_
 refine ag rfl ?_
 refine RN ?_
 refine Ap rfl ?_
 refine NR ⟨[(1, .bref 2 0)], [(2, .box 89 [vS (bsO s.1), vI s.2.1, vB s.2.2.1, vB s.2.2.2])]⟩ (sb rfl rfl rfl) rfl ?_
 refine RO (Body.fadB rfl fa89_0 rfl) ?_
 refine RO (Body.loadB rfl rfl rfl ag9 sz9 rfl) ?_
 refine RO (Body.sneB (a := s.1) (b := [105, 100, 108, 101]) rfl rfl) ?_
 refine mv rfl ?_
 refine RG.cons (EfR.sym rfl (fun hc => Body.fadB rfl fa89_0 rfl) rfl) ?_
 refine RG.cons (EfR.sym rfl (fun hc => Body.loadB (ev1_gd rfl hc) rfl rfl ag9 sz9 rfl) rfl) ?_
 refine RG.cons (EfR.sym rfl (fun hc => Body.sneB (a := s.1) (b := [111, 112, 101, 110]) (ev1_gd rfl hc) rfl) rfl) ?_
 refine RO (Body.pick rfl rfl rfl (gdB rfl) rfl (pick_and _)) ?_
 refine mv rfl ?_
 refine RG.cons (EfR.sym rfl (fun hc => Body.fadB rfl fa89_0 rfl) rfl) ?_
 refine RG.cons (EfR.sym rfl (fun hc => Body.loadB (ev1_gd rfl hc) rfl rfl ag9 sz9 rfl) rfl) ?_
 refine RG.cons (EfR.sym rfl (fun hc => Body.sneB (a := s.1) (b := [99, 108, 111, 115, 101, 100]) (ev1_gd rfl hc) rfl) rfl) ?_
 refine RO (Body.pick rfl rfl rfl (gdB rfl) rfl (pick_and _)) ?_
 refine mv rfl ?_
 refine RG.cons (EfR.sym rfl (fun hc => Body.fadB rfl fa89_0 rfl) rfl) ?_
 refine RG.cons (EfR.sym rfl (fun hc => Body.loadB (ev1_gd rfl hc) rfl rfl ag9 sz9 rfl) rfl) ?_
 refine RG.cons (EfR.sym rfl (fun hc => Body.sneB (a := s.1) (b := [115, 97, 102, 101]) (ev1_gd rfl hc) rfl) rfl) ?_
 refine RO (Body.pick rfl rfl rfl (gdB rfl) rfl (pick_and _)) ?_
 refine RN ?_
 refine Ap rfl ?_
 refine TK.norm ⟨[(1, .bref 2 0), (20, vB (bif (bif (bif (decide (s.1 ≠ [105, 100, 108, 101])) then (decide (s.1 ≠ [111, 112, 101, 110])) else false) then (decide (s.1 ≠ [99, 108, 111, 115, 101, 100])) else false) then (decide (s.1 ≠ [115, 97, 102, 101])) else false))], [(2, .box 89 [vS (bsO s.1), vI s.2.1, vB s.2.2.1, vB s.2.2.2])]⟩ (sb rfl rfl rfl) ?_
 refine TK.cond rfl (fun h1 => ?_) (fun h1 => ?_)
 ·
  refine At rfl ?_
  refine NR ⟨[], []⟩ (sb rfl rfl rfl) rfl ?_
  refine ag rfl ?_
  refine RN ?_
  refine Ap rfl ?_
  refine TK.ret ?_
  refine PK.ret ?_
  refine leaf (val0 := vI 13) (by kernel_rfl) ?_
  exact li (by exact (st_two1 h1).symm)
 ·
  refine At rfl ?_
  refine NR ⟨[(1, .bref 2 0)], [(2, .box 89 [vS (bsO s.1), vI s.2.1, vB s.2.2.1, vB s.2.2.2])]⟩ (sb rfl rfl rfl) rfl ?_
  refine RO (Body.fadB rfl fa89_1 rfl) ?_
  refine RO (Body.loadB rfl rfl rfl ag3 sz3 rfl) ?_
  refine RO (Body.lss rfl rfl) ?_
  refine mv rfl ?_
  refine RG.cons (EfR.sym rfl (fun hc => Body.fadB rfl fa89_1 rfl) rfl) ?_
  refine RG.cons (EfR.sym rfl (fun hc => Body.loadB (ev1_gd rfl hc) rfl rfl ag3 sz3 rfl) rfl) ?_
  refine RG.cons (EfR.sym rfl (fun hc => Body.geq (ev1_gd rfl hc) rfl) rfl) ?_
  refine RO (Body.pick rfl rfl rfl rfl (gdB rfl) (pick_or _)) ?_
  refine RN ?_
  refine Ap rfl ?_
  refine TK.norm ⟨[(1, .bref 2 0), (28, vB (bif (decide (s.2.1 < 0)) then true else (decide (3 ≤ s.2.1))))], [(2, .box 89 [vS (bsO s.1), vI s.2.1, vB s.2.2.1, vB s.2.2.2])]⟩ (sb rfl rfl rfl) ?_
  refine TK.cond rfl (fun h2 => ?_) (fun h2 => ?_)
  ·
   refine At rfl ?_
   refine NR ⟨[], []⟩ (sb rfl rfl rfl) rfl ?_
   refine ag rfl ?_
   refine RN ?_
   refine Ap rfl ?_
   refine TK.ret ?_
   refine PK.ret ?_
   refine leaf (val0 := vI 3) (by kernel_rfl) ?_
   exact li (by exact (st_two2 h1 h2).symm)
  ·
   refine At rfl ?_
   refine NR ⟨[(1, .bref 2 0)], [(2, .box 89 [vS (bsO s.1), vI s.2.1, vB s.2.2.1, vB s.2.2.2])]⟩ (sb rfl rfl rfl) rfl ?_
   refine RO (Body.fadB rfl fa89_1 rfl) ?_
   refine RO (Body.loadB rfl rfl rfl ag3 sz3 rfl) ?_
   refine RO (Body.gtr rfl rfl) ?_
   refine mv rfl ?_
   refine RG.cons (EfR.sym rfl (fun hc => Body.fadB rfl fa89_0 rfl) rfl) ?_
   refine RG.cons (EfR.sym rfl (fun hc => Body.loadB (ev1_gd rfl hc) rfl rfl ag9 sz9 rfl) rfl) ?_
   refine RG.cons (EfR.sym rfl (fun hc => Body.sneB (a := s.1) (b := [99, 108, 111, 115, 101, 100]) (ev1_gd rfl hc) rfl) rfl) ?_
   refine RO (Body.pick rfl rfl rfl (gdB rfl) rfl (pick_and _)) ?_
   refine mv rfl ?_
   refine RG.cons (EfR.sym rfl (fun hc => Body.fadB rfl fa89_2 rfl) rfl) ?_
   refine RG.cons (EfR.sym rfl (fun hc => Body.loadB (ev1_gd rfl hc) rfl rfl ag4 sz4 rfl) rfl) ?_
   refine RG.cons (EfR.sym rfl (fun hc => Body.move (ev1_gd rfl hc)) rfl) ?_
   refine RG.cons (EfR.sym rfl (fun hc => Body.fadB rfl fa89_0 rfl) rfl) ?_
   refine RG.cons (EfR.sym rfl (fun hc => Body.loadB (ev1_gd rfl hc) rfl rfl ag9 sz9 rfl) rfl) ?_
   refine RG.cons (EfR.sym rfl (fun hc => Body.seqB (a := s.1) (b := [99, 108, 111, 115, 101, 100]) (ev1_gd rfl hc) rfl) rfl) ?_
   refine RG.cons (EfR.sym rfl (fun hc => Body.pick (ev1_gd rfl hc) rfl rfl (gdB rfl) rfl (pick_and2 hc)) rfl) ?_
   refine RO (Body.pick rfl rfl rfl rfl (gdB rfl) (pick_or _)) ?_
   refine mv rfl ?_
   refine RG.cons (EfR.sym rfl (fun hc => Body.fadB rfl fa89_3 rfl) rfl) ?_
   refine RG.cons (EfR.sym rfl (fun hc => Body.loadB (ev1_gd rfl hc) rfl rfl ag4 sz4 rfl) rfl) ?_
   refine RG.cons (EfR.sym rfl (fun hc => Body.move (ev1_gd rfl hc)) rfl) ?_
   refine RG.cons (EfR.sym rfl (fun hc => Body.fadB rfl fa89_0 rfl) rfl) ?_
   refine RG.cons (EfR.sym rfl (fun hc => Body.loadB (ev1_gd rfl hc) rfl rfl ag9 sz9 rfl) rfl) ?_
   refine RG.cons (EfR.sym rfl (fun hc => Body.seqB (a := s.1) (b := [111, 112, 101, 110]) (ev1_gd rfl hc) rfl) rfl) ?_
   refine RG.cons (EfR.sym rfl (fun hc => Body.move (ev1_gd rfl hc)) rfl) ?_
   refine RG.cons (EfR.sym rfl (fun hc => Body.fadB rfl fa89_0 rfl) rfl) ?_
   refine RG.cons (EfR.sym rfl (fun hc => Body.loadB (ev1_gd rfl hc) rfl rfl ag9 sz9 rfl) rfl) ?_
   refine RG.cons (EfR.sym rfl (fun hc => Body.seqB (a := s.1) (b := [99, 108, 111, 115, 101, 100]) (ev1_gd rfl hc) rfl) rfl) ?_
   refine RG.cons (EfR.sym rfl (fun hc => Body.pick (ev1_gd rfl hc) rfl rfl rfl (gdB rfl) (pick_or2 hc)) rfl) ?_
   refine RG.cons (EfR.sym rfl (fun hc => Body.pick (ev1_gd rfl hc) rfl rfl (gdB rfl) rfl (pick_and2 hc)) rfl) ?_
   refine RO (Body.pick rfl rfl rfl rfl (gdB rfl) (pick_or _)) ?_
   refine RN ?_
   refine Ap rfl ?_
   refine TK.norm ⟨[(59, vB (bif (bif (bif (decide (0 < s.2.1)) then (decide (s.1 ≠ [99, 108, 111, 115, 101, 100])) else false) then true else (bif s.2.2.1 then (decide (s.1 = [99, 108, 111, 115, 101, 100])) else false)) then true else (bif s.2.2.2 then (bif (decide (s.1 = [111, 112, 101, 110])) then true else (decide (s.1 = [99, 108, 111, 115, 101, 100]))) else false)))], []⟩ (sb rfl rfl rfl) ?_
   refine TK.cond rfl (fun h3 => ?_) (fun h3 => ?_)
   ·
    refine At rfl ?_
    refine NR ⟨[], []⟩ (sb rfl rfl rfl) rfl ?_
    refine ag rfl ?_
    refine RN ?_
    refine Ap rfl ?_
    refine TK.ret ?_
    refine PK.ret ?_
    refine leaf (val0 := vI 18) (by kernel_rfl) ?_
    exact li (by exact (st_two3 h1 h2 h3).symm)
   ·
    refine At rfl ?_
    refine NR ⟨[], []⟩ (sb rfl rfl rfl) rfl ?_
    refine ag rfl ?_
    refine RN ?_
    refine Ap rfl ?_
    refine TK.ret ?_
    refine PK.ret ?_
    refine leaf (val0 := vI 0) (by kernel_rfl) ?_
    exact li (by exact (st_two4 h1 h2 h3).symm)
set_option maxHeartbeats 4000000 in
theorem w51 (l : List Stp) (hl : l.length * 24 ≤ 140737488355328) : CallOk Tryz.prog 51 [vL eP l] (lookM []) (vL eP l) [] := by
 haveI := tab_ok
 obtain ⟨fn, f1, f2, f3, f4, _, f6⟩ := qf51
 refine callOk_of (Y := tab) (F := fn51) f1 (f2.trans rfl) f3 f4 f6 (Nat.le_of_ble_eq_true rfl) rfl ?_
 clear f1 f2 f3 f4 f6
 show TK _ _ _ _ _ _ ⟨[(0, vL eP l)], []⟩
 refine At rfl ?_
 refine NR ⟨[(0, vL eP l)], []⟩ (sb rfl rfl rfl) rfl ?_
 refine RO (Body.nilS (enc := eP) rfl) ?_
 refine RN ?_
 refine Ap rfl ?_
 refine NR ⟨[(0, vL eP l)], []⟩ (sb rfl rfl rfl) rfl ?_
 refine RO (Body.adopt 4 2 176 rfl rfl) ?_
 refine RN ?_
 refine Ap rfl ?_
 refine NR ⟨[(0, vL eP l), (3, .aref 4 0)], [(4, .arr 0 2 176 (List.map eP []))]⟩ (sb rfl rfl rfl) rfl ?_
 refine mv rfl ?_
 refine RO (Body.lenL rfl un86) ?_
 refine mv rfl ?_
 refine RN ?_
 refine Ap rfl ?_
 refine TK.loop (α := Nat × Nat × List Stp) (fun x => ⟨[(3, .aref 4 x.2.1), (6, vL eP l), (7, vI l.length), (8, vI ((x.1 : Nat) : Int))], [(4, .arr x.2.1 2 176 (List.map eP x.2.2))]⟩) (fun x => x.1 ≤ l.length ∧ x.2.2 = List.take x.1 l) (fun x => l.length - x.1) (0, 0, []) ?_ (sb rfl rfl rfl) ?_
 · show 0 ≤ l.length ∧ [] = List.take 0 l
   exact ⟨Nat.zero_le _, rfl⟩
 rintro ⟨k, v, out⟩ hI0
 replace hI0 : k ≤ l.length ∧ out = List.take k l := hI0
 have hol : out.length ≤ k := by rw [hI0.2, List.length_take]; omega
 show TK _ _ _ _ _ _ ⟨[(3, .aref 4 v), (6, vL eP l), (7, vI l.length), (8, vI k)], [(4, .arr v 2 176 (List.map eP out))]⟩
 refine At rfl ?_
 refine NR ⟨[(3, .aref 4 v), (6, vL eP l), (7, vI l.length), (8, vI k)], [(4, .arr v 2 176 (List.map eP out))]⟩ (sb rfl rfl rfl) rfl ?_
 refine RO (Body.lss rfl rfl) ?_
 refine RN ?_
 refine Ap rfl ?_
 refine TK.norm ⟨[(3, .aref 4 v), (6, vL eP l), (7, vI l.length), (8, vI k), (9, vB (decide ((k : Int) < (l.length : Int))))], [(4, .arr v 2 176 (List.map eP out))]⟩ (sb rfl rfl rfl) ?_
 refine TK.condP rfl (fun h1 => ?_) (fun h1 => ?_)
 ·
  refine At rfl ?_
  refine NR ⟨[(3, .aref 4 v), (6, vL eP l), (7, vI l.length), (8, vI k)], [(4, .arr v 2 176 (List.map eP out))]⟩ (sb rfl rfl rfl) rfl ?_
  refine RO (Body.idx (z := (0, [])) (i := k) rfl rfl un86 sz164 (fun _ => rfl) rfl (by omega)) ?_
  refine RO (Body.loadA (ds := [pI (List.getD l k (0, [])).1, pS (bsO (List.getD l k (0, [])).2)]) rfl ag164 sz164 (Nat.le_of_ble_eq_true rfl) rfl) ?_
  refine rn rfl ?_
  refine rn rfl ?_
  refine RN ?_
  refine Ap rfl ?_
  refine NR ⟨[(3, .aref 4 v), (5, .bref 6 0), (6, vL eP l), (7, vI l.length), (8, vI k)], [(4, .arr v 2 176 (List.map eP out)), (6, .box 164 [vI (List.getD l k (0, [])).1, vS (bsO (List.getD l k (0, [])).2)])]⟩ (sb rfl rfl rfl) rfl ?_
  refine rn rfl ?_
  refine RO (Body.loadBA rfl rfl rfl ag164 sz164 rfl rfl) ?_
  refine RO (Body.runZ (val := .pv (.slice (List.map eP [(List.getD l k (0, []))]))) rfl (fun l => Frz.arr l _ _ _ _ _) rfl) ?_
  refine RO (Body.append rfl rfl rfl un90 in176 rfl (fun _ => rfl) by176 (by (simp only [List.length_append, List.length_cons, List.length_nil, List.length_take]; omega))) ?_
  refine rn rfl ?_
  refine RN ?_
  refine Ap rfl ?_
  refine NR ⟨[(3, .aref 4 (v + 1)), (6, vL eP l), (7, vI l.length), (8, vI k)], [(4, .arr (v + 1) 2 176 (List.map eP (out ++ [(List.getD l k (0, []))])))]⟩ (sb rfl rfl rfl) rfl ?_
  refine RO (Body.add rfl rfl (by unfold R64; omega)) ?_
  refine mv rfl ?_
  refine RN ?_
  refine Aq rfl ?_
  refine PK.lp ?_
  refine LP.mk ((k + 1), (v + 1), (out ++ [(List.getD l k (0, []))])) ?_ ?_ (sb rfl rfl rfl)
  · show (k + 1) ≤ l.length ∧ (out ++ [(List.getD l k (0, []))]) = List.take (k + 1) l
    refine ⟨by omega, ?_⟩; rw [hI0.2]; exact (take_stp l k (by omega)).symm
  · show l.length - (k + 1) < l.length - k
    omega
 ·
  refine At rfl ?_
  refine TK.exit ?_
  refine PK.exit rfl ?_
  refine Ap rfl ?_
  refine TK.norm ⟨[(3, .aref 4 v)], [(4, .arr v 2 176 (List.map eP out))]⟩ (sb rfl rfl rfl) ?_
  refine TK.frz (t := 3) rfl rfl ?_
  refine NR ⟨[(3, vL eP out)], []⟩ (sb rfl rfl rfl) rfl ?_
  refine mv rfl ?_
  refine ag rfl ?_
  refine RN ?_
  refine Ap rfl ?_
  refine TK.ret ?_
  refine PK.ret ?_
  refine leaf (val0 := vL eP out) (by kernel_rfl) ?_
  exact lsl (by rw [hI0.2, List.take_of_length_le (by omega)])
set_option maxHeartbeats 4000000 in
theorem w50 (a b : List Stp) (hl : a.length ≤ 1000000000000000) : CallOk Tryz.prog 50 [vL eP a, vL eP b] (lookM []) (vB (decide (a = b))) [] := by
 haveI := tab_ok
 obtain ⟨fn, f1, f2, f3, f4, _, f6⟩ := qf50
 refine callOk_of (Y := tab) (F := fn50) f1 (f2.trans rfl) f3 f4 f6 (Nat.le_of_ble_eq_true rfl) rfl ?_
 clear f1 f2 f3 f4 f6
 show TK _ _ _ _ _ _ ⟨[(0, vL eP a), (1, vL eP b)], []⟩
 refine At rfl ?_
 refine NR ⟨[(0, vL eP a), (1, vL eP b)], []⟩ (sb rfl rfl rfl) rfl ?_
 refine ag rfl ?_
 refine RN ?_
 refine Ap rfl ?_
 refine NR ⟨[(0, vL eP a), (1, vL eP b)], []⟩ (sb rfl rfl rfl) rfl ?_
 refine mv rfl ?_
 refine RO (Body.lenL rfl un90) ?_
 refine mv rfl ?_
 refine RO (Body.lenL rfl un90) ?_
 refine RO (Body.neq rfl rfl) ?_
 refine RN ?_
 refine Ap rfl ?_
 refine TK.norm ⟨[(0, vL eP a), (1, vL eP b), (10, vB (decide ((a.length : Int) ≠ (b.length : Int))))], []⟩ (sb rfl rfl rfl) ?_
 refine TK.condP rfl (fun h1 => ?_) (fun h1 => ?_)
 ·
  refine At rfl ?_
  refine NR ⟨[], []⟩ (sb rfl rfl rfl) rfl ?_
  refine ag rfl ?_
  refine RN ?_
  refine Ap rfl ?_
  refine TK.ret ?_
  refine PK.ret ?_
  refine leaf (val0 := vB false) (by kernel_rfl) ?_
  exact lb (by exact (decide_eq_false fun e => by subst e; omega).symm)
 ·
  refine At rfl ?_
  refine NR ⟨[(0, vL eP a), (1, vL eP b)], []⟩ (sb rfl rfl rfl) rfl ?_
  refine ag rfl ?_
  refine RN ?_
  refine Ap rfl ?_
  refine TK.loop (α := Nat) (fun x => ⟨[(0, vL eP a), (1, vL eP b), (5, vI x)], []⟩) (fun x => x ≤ a.length ∧ a.length = b.length ∧ ∀ j, j < x → List.getD a j (0, []) = List.getD b j (0, [])) (fun x => a.length - x) 0 ?_ (sb rfl rfl rfl) ?_
  · show 0 ≤ a.length ∧ a.length = b.length ∧ ∀ j, j < 0 → List.getD a j (0, []) = List.getD b j (0, [])
    exact ⟨Nat.zero_le _, by omega, fun j hj => by omega⟩
  rintro k hI0
  replace hI0 : k ≤ a.length ∧ a.length = b.length ∧ ∀ j, j < k → List.getD a j (0, []) = List.getD b j (0, []) := hI0
  show TK _ _ _ _ _ _ ⟨[(0, vL eP a), (1, vL eP b), (5, vI k)], []⟩
  refine At rfl ?_
  refine NR ⟨[(0, vL eP a), (1, vL eP b), (5, vI k)], []⟩ (sb rfl rfl rfl) rfl ?_
  refine mv rfl ?_
  refine mv rfl ?_
  refine RO (Body.lenL rfl un90) ?_
  refine RO (Body.lss rfl rfl) ?_
  refine RN ?_
  refine Ap rfl ?_
  refine TK.norm ⟨[(0, vL eP a), (1, vL eP b), (5, vI k), (14, vB (decide ((k : Int) < (a.length : Int))))], []⟩ (sb rfl rfl rfl) ?_
  refine TK.condP rfl (fun h2 => ?_) (fun h2 => ?_)
  ·
   refine At rfl ?_
   refine NR ⟨[(0, vL eP a), (1, vL eP b), (5, vI k)], []⟩ (sb rfl rfl rfl) rfl ?_
   refine mv rfl ?_
   refine mv rfl ?_
   refine RO (Body.idx (z := (0, [])) (i := k) rfl rfl un90 sz176 (fun _ => rfl) rfl (by omega)) ?_
   refine RO (Body.loadA (ds := [pI (List.getD a k (0, [])).1, pS (bsO (List.getD a k (0, [])).2)]) rfl ag176 sz176 (Nat.le_of_ble_eq_true rfl) rfl) ?_
   refine mv rfl ?_
   refine mv rfl ?_
   refine RO (Body.idx (z := (0, [])) (i := k) rfl rfl un90 sz176 (fun _ => rfl) rfl (by omega)) ?_
   refine RO (Body.loadA (ds := [pI (List.getD b k (0, [])).1, pS (bsO (List.getD b k (0, [])).2)]) rfl ag176 sz176 (Nat.le_of_ble_eq_true rfl) rfl) ?_
   refine RO (Body.stqN rfl rfl fq176 (eqv_cons eqv_i (eqv_last eqv_s))) ?_
   refine RG.nil (fun _ => by kernel_rfl) ?_
   refine Ap rfl ?_
   refine TK.norm ⟨[(0, vL eP a), (1, vL eP b), (5, vI k), (25, vB (!((decide ((List.getD a k (0, [])).1 = (List.getD b k (0, [])).1)) && (decide ((List.getD a k (0, [])).2 = (List.getD b k (0, [])).2)))))], []⟩ (sb rfl rfl rfl) ?_
   refine TK.cond rfl (fun h3 => ?_) (fun h3 => ?_)
   ·
    refine At rfl ?_
    refine NR ⟨[], []⟩ (sb rfl rfl rfl) rfl ?_
    refine ag rfl ?_
    refine RN ?_
    refine Ap rfl ?_
    refine TK.ret ?_
    refine PK.ret ?_
    refine leaf (val0 := vB false) (by kernel_rfl) ?_
    exact lb (by exact (decide_eq_false fun e => by subst e; exact stp_ne h3 rfl).symm)
   ·
    refine At rfl ?_
    refine NR ⟨[(0, vL eP a), (1, vL eP b), (5, vI k)], []⟩ (sb rfl rfl rfl) rfl ?_
    refine mv rfl ?_
    refine RO (Body.add rfl rfl (by unfold R64; omega)) ?_
    refine ag rfl ?_
    refine RN ?_
    refine Aq rfl ?_
    refine PK.lp ?_
    refine LP.mk (k + 1) ?_ ?_ (sb rfl rfl rfl)
    · show (k + 1) ≤ a.length ∧ a.length = b.length ∧ ∀ j, j < (k + 1) → List.getD a j (0, []) = List.getD b j (0, [])
      refine ⟨by omega, hI0.2.1, fun j hj => ?_⟩; rcases Nat.lt_succ_iff_lt_or_eq.1 hj with h | h; exact hI0.2.2 j h; subst h; exact stp_eq h3
    · show a.length - (k + 1) < a.length - k
      omega
  ·
   refine At rfl ?_
   refine TK.exit ?_
   refine PK.exit rfl ?_
   refine Ap rfl ?_
   refine NR ⟨[], []⟩ (sb rfl rfl rfl) rfl ?_
   refine ag rfl ?_
   refine RN ?_
   refine Ap rfl ?_
   refine TK.ret ?_
   refine PK.ret ?_
   refine leaf (val0 := vB true) (by kernel_rfl) ?_
   exact lb (by exact (decide_eq_true (eq_getD (0, []) hI0.2.1 fun j hj => hI0.2.2 j (by omega))).symm)
end Go.Lens.Tm
end
section
namespace Go.Lens.Tm
open Go.Lens.Tb Go.Proofs
set_option linter.unusedSectionVars false
set_option maxRecDepth 100000
variable [Lz]
def stD (s : LSt) : DV := .pv (.agg (stPV s))
def nmD (a : List UInt8) : DV := .pv (.lit (.string (bsO a)))
def rsD (r : LSt × Int) : DV := .tup [.pv (.agg (stPV r.1)), .pv (.lit (.int .i64 r.2))]
abbrev rowOk (f : FuncId) (s : LSt) : Prop := (actNs.map fun a => orc 60 f 0 [stD s, nmD a] []) = actNs.map fun a => some (rsD (actP s a), [])
theorem ar139_0 : rowOk 139 (mIdle, 0, false, false) := by unfold rowOk; kernel_rfl
theorem ar139_1 : rowOk 139 (mIdle, 0, false, true) := by unfold rowOk; kernel_rfl
theorem ar139_2 : rowOk 139 (mIdle, 0, true, false) := by unfold rowOk; kernel_rfl
theorem ar139_3 : rowOk 139 (mIdle, 0, true, true) := by unfold rowOk; kernel_rfl
theorem ar139_4 : rowOk 139 (mOpen, 0, false, false) := by unfold rowOk; kernel_rfl
theorem ar139_5 : rowOk 139 (mOpen, 0, true, false) := by unfold rowOk; kernel_rfl
theorem ar139_6 : rowOk 139 (mClosed, 0, false, false) := by unfold rowOk; kernel_rfl
theorem ar139_7 : rowOk 139 (mClosed, 1, false, false) := by unfold rowOk; kernel_rfl
theorem ar139_8 : rowOk 139 (mClosed, 2, false, false) := by unfold rowOk; kernel_rfl
theorem ar139_9 : rowOk 139 (mSafe, 0, false, false) := by unfold rowOk; kernel_rfl
theorem ar139_10 : rowOk 139 (mSafe, 0, false, true) := by unfold rowOk; kernel_rfl
theorem ar139_11 : rowOk 139 (mSafe, 0, true, false) := by unfold rowOk; kernel_rfl
theorem ar139_12 : rowOk 139 (mSafe, 0, true, true) := by unfold rowOk; kernel_rfl
theorem ar139 : ∀ s ∈ sts, rowOk 139 s := (List.forall_mem_cons.2 ⟨ar139_0, (List.forall_mem_cons.2 ⟨ar139_1, (List.forall_mem_cons.2 ⟨ar139_2, (List.forall_mem_cons.2 ⟨ar139_3, (List.forall_mem_cons.2 ⟨ar139_4, (List.forall_mem_cons.2 ⟨ar139_5, (List.forall_mem_cons.2 ⟨ar139_6, (List.forall_mem_cons.2 ⟨ar139_7, (List.forall_mem_cons.2 ⟨ar139_8, (List.forall_mem_cons.2 ⟨ar139_9, (List.forall_mem_cons.2 ⟨ar139_10, (List.forall_mem_cons.2 ⟨ar139_11, (List.forall_mem_cons.2 ⟨ar139_12, (fun _ h => nomatch h)⟩)⟩)⟩)⟩)⟩)⟩)⟩)⟩)⟩)⟩)⟩)⟩)⟩)
theorem ar184_0 : rowOk 184 (mIdle, 0, false, false) := by unfold rowOk; kernel_rfl
theorem ar184_1 : rowOk 184 (mIdle, 0, false, true) := by unfold rowOk; kernel_rfl
theorem ar184_2 : rowOk 184 (mIdle, 0, true, false) := by unfold rowOk; kernel_rfl
theorem ar184_3 : rowOk 184 (mIdle, 0, true, true) := by unfold rowOk; kernel_rfl
theorem ar184_4 : rowOk 184 (mOpen, 0, false, false) := by unfold rowOk; kernel_rfl
theorem ar184_5 : rowOk 184 (mOpen, 0, true, false) := by unfold rowOk; kernel_rfl
theorem ar184_6 : rowOk 184 (mClosed, 0, false, false) := by unfold rowOk; kernel_rfl
theorem ar184_7 : rowOk 184 (mClosed, 1, false, false) := by unfold rowOk; kernel_rfl
theorem ar184_8 : rowOk 184 (mClosed, 2, false, false) := by unfold rowOk; kernel_rfl
theorem ar184_9 : rowOk 184 (mSafe, 0, false, false) := by unfold rowOk; kernel_rfl
theorem ar184_10 : rowOk 184 (mSafe, 0, false, true) := by unfold rowOk; kernel_rfl
theorem ar184_11 : rowOk 184 (mSafe, 0, true, false) := by unfold rowOk; kernel_rfl
theorem ar184_12 : rowOk 184 (mSafe, 0, true, true) := by unfold rowOk; kernel_rfl
theorem ar184 : ∀ s ∈ sts, rowOk 184 s := (List.forall_mem_cons.2 ⟨ar184_0, (List.forall_mem_cons.2 ⟨ar184_1, (List.forall_mem_cons.2 ⟨ar184_2, (List.forall_mem_cons.2 ⟨ar184_3, (List.forall_mem_cons.2 ⟨ar184_4, (List.forall_mem_cons.2 ⟨ar184_5, (List.forall_mem_cons.2 ⟨ar184_6, (List.forall_mem_cons.2 ⟨ar184_7, (List.forall_mem_cons.2 ⟨ar184_8, (List.forall_mem_cons.2 ⟨ar184_9, (List.forall_mem_cons.2 ⟨ar184_10, (List.forall_mem_cons.2 ⟨ar184_11, (List.forall_mem_cons.2 ⟨ar184_12, (fun _ h => nomatch h)⟩)⟩)⟩)⟩)⟩)⟩)⟩)⟩)⟩)⟩)⟩)⟩)⟩)
theorem act_known (hp : PowLaid) (hm : OrcOk Tryz.prog (mergeO 121)) {s : LSt} {a : List UInt8} (hs : s ∈ sts) (ha : a ∈ actNs) : CallOk Tryz.prog 139 [stD s, nmD a] (lookM []) (rsD (actP s a)) [] :=
 orc_ok hp hm 60 139 0 _ _ _ _ (List.map_inj_left.1 (ar139 s hs) a ha)
theorem act_known2 (hp : PowLaid) (hm : OrcOk Tryz.prog (mergeO 121)) {s : LSt} {a : List UInt8} (hs : s ∈ sts) (ha : a ∈ actNs) : CallOk Tryz.prog 184 [stD s, nmD a] (lookM []) (rsD (actP s a)) [] :=
 orc_ok hp hm 60 184 0 _ _ _ _ (List.map_inj_left.1 (ar184 s hs) a ha)
abbrev ActE := List UInt8 × PV × PV
def eA (e : ActE) : List PV := [.lit (.string (bsO (Prod.fst e))), Prod.fst (Prod.snd e), Prod.snd (Prod.snd e)]
def zA : ActE := ([], .lit .nilFunc, .lit .nilFunc)
def fnA (f : FuncId) : PV := .fn (.func f) [] []
def toA (m : List UInt8) : PV := .fn (.func 282) [] [.box [.lit (.string (bsO m))]]
def actsL : List ActE := [(aStart, fnA 222, toA mOpen), (aClose, fnA 224, toA mClosed), (aOpen, fnA 225, toA mOpen), (aStop, fnA 226, toA mIdle), (aSat, fnA 227, fnA 228), (aClear, fnA 229, fnA 230), (aLose, fnA 231, fnA 232), (aFind, fnA 234, fnA 235), (aGust, fnA 236, fnA 237), (aCalm, fnA 238, fnA 239), (aReset, fnA 240, toA mIdle)]
theorem acts_run : orc 60 161 2000 [] [] = some (.aref 2018 0, [(2018, .arr 0 3 287 (List.map eA actsL))]) := by kernel_rfl
theorem w161 (hp : PowLaid) (hm : OrcOk Tryz.prog (mergeO 121)) : CallOk Tryz.prog 161 [] (lookM []) (.aref 2018 0) [(2018, .arr 0 3 287 (List.map eA actsL))] := orc_ok hp hm 60 161 2000 _ _ _ _ acts_run
theorem acts_names : actsL.map (fun e => e.1) = actNs := rfl
theorem act_none {a : List UInt8} (ha : a ∉ actNs) : findI (fun e => decide ((Prod.fst e) = a)) actsL = -1 :=
 findI_none (z := zA) fun j hj => decide_eq_false fun e => ha (by rw [← acts_names, ← e]; exact List.mem_map.2 ⟨_, getD_mem hj, rfl⟩)
end Go.Lens.Tm
end
section
namespace Go.Lens.Tm
open Go.Lens.Tb Go.Proofs
set_option linter.unusedSectionVars false
theorem act_no {s : LSt} {a : List UInt8} (ha : a ∉ actNs) : actP s a = (zSt, 13) := by rw [actP, if_neg ha]
theorem act_any {a : List UInt8} (ha : a ∉ actNs) : (List.any actNs (fun y => decide (y = a))) = false := by
 rw [List.any_eq_false]
 intro x hx
 simp only [decide_eq_true_eq]
 rintro rfl
 exact ha hx
abbrev xS (m : Mc) : List (Nat × MO) := [(11, .box 217 [.pv (.lit (.string (bsO (Prod.fst (Prod.fst m))))), .pv (.lit (.int .i64 (Prod.fst (Prod.snd (Prod.fst m))))), .pv (.lit (.bool (Prod.fst (Prod.snd (Prod.snd (Prod.fst m)))))), .pv (.lit (.bool (Prod.snd (Prod.snd (Prod.snd (Prod.fst m)))))), .pv (.lit (.int .i64 (Prod.fst (Prod.snd m)))), .pv (.lit (.int .i64 0)), .aref 900 (List.length (Prod.snd (Prod.snd m)))]), (900, .arr (List.length (Prod.snd (Prod.snd m))) 2 164 (List.map eP (Prod.snd (Prod.snd m))))]
abbrev xO (m : Mc) : List (Nat × MO) := [(900, .arr (List.length (Prod.snd (Prod.snd m))) 2 164 (List.map eP (Prod.snd (Prod.snd m)))), (11, .box 217 [.pv (.lit (.string (bsO (Prod.fst (Prod.fst m))))), .pv (.lit (.int .i64 (Prod.fst (Prod.snd (Prod.fst m))))), .pv (.lit (.bool (Prod.fst (Prod.snd (Prod.snd (Prod.fst m)))))), .pv (.lit (.bool (Prod.snd (Prod.snd (Prod.snd (Prod.fst m)))))), .pv (.lit (.int .i64 (Prod.fst (Prod.snd m)))), .pv (.lit (.int .i64 0)), .aref 900 (List.length (Prod.snd (Prod.snd m)))])]
theorem xO_snoc (s : LSt) (t : Int) (p : List Stp) (x : Stp) : ([(900, .arr (List.length p + 1) 2 164 (List.map eP (p ++ [x]))), (11, .box 217 [.pv (.lit (.string (bsO (Prod.fst s)))), .pv (.lit (.int .i64 (Prod.fst (Prod.snd s)))), .pv (.lit (.bool (Prod.fst (Prod.snd (Prod.snd s))))), .pv (.lit (.bool (Prod.snd (Prod.snd (Prod.snd s))))), .pv (.lit (.int .i64 t)), .pv (.lit (.int .i64 0)), .aref 900 (List.length p + 1)])] : List (Nat × MO)) = xO (s, t, p ++ [x]) := by
 have : List.length p + 1 = List.length (p ++ [x]) := by rw [List.length_append]; rfl
 rw [this]
section
variable {m : Mc} {c : Cmd}
theorem t_w3 (h1 : c.1 = kWait) (h2 : 999999999 - m.2.1 < c.2.2) : take1 m c = (m, 3) := by rw [take1, if_pos h1, if_pos (by omega)]
theorem t_w0 (h1 : c.1 = kWait) (h2 : ¬ 999999999 - m.2.1 < c.2.2) : take1 m c = ((m.1, m.2.1 + c.2.2, m.2.2), 0) := by rw [take1, if_pos h1, if_neg (by omega)]
theorem t_5 (h1 : ¬ c.1 = kWait) (h3 : 1000 ≤ 0 + ((List.length m.2.2 : Nat) : Int)) : take1 m c = (m, 5) := by rw [take1, if_neg h1, if_pos (by omega)]
theorem t_e (h1 : ¬ c.1 = kWait) (h3 : ¬ 1000 ≤ 0 + ((List.length m.2.2 : Nat) : Int)) (h4 : (actP m.1 c.2.1).2 ≠ 0) : take1 m c = (m, (actP m.1 c.2.1).2) := by rw [take1, if_neg h1, if_neg (by omega), if_pos h4]
theorem t_0 (h1 : ¬ c.1 = kWait) (h3 : ¬ 1000 ≤ 0 + ((List.length m.2.2 : Nat) : Int)) (h4 : ¬ (actP m.1 c.2.1).2 ≠ 0) : take1 m c = (((actP m.1 c.2.1).1, m.2.1, m.2.2 ++ [(m.2.1, c.2.1)]), 0) := by rw [take1, if_neg h1, if_neg (by omega), if_neg h4]
end
def MtI (l : List Cmd) (i k : Nat) (q : Int) : Prop := i + k ≤ l.length ∧ matGo 0 i (l.drop i) = matGo q (i + k) (l.drop (i + k)) ∧ ((k = 0 ∧ q = 0) ∨ (1 ≤ k ∧ 1 ≤ q)) ∧ q ≤ k
section
variable {l : List Cmd} {i k : Nat} {q : Int}
theorem mt_start (hi : i < l.length) : MtI l i 0 0 := ⟨by omega, rfl, .inl ⟨rfl, rfl⟩, Int.le_refl _⟩
theorem mt_drop (h : MtI l i k q) : i + k ≤ l.length ∧ 0 ≤ q ∧ q ≤ k ∧ List.length (List.drop i l) = List.length l - i := by
 obtain ⟨h1, _, h3, h4⟩ := h
 exact ⟨h1, by omega, h4, List.length_drop⟩
theorem getD_dropC (l : List Cmd) (i k : Nat) : (l.drop i).getD k z3 = l.getD (i + k) z3 := by
 rw [List.getD_eq_getElem?_getD, List.getElem?_drop, ← List.getD_eq_getElem?_getD]
theorem mt_rep (h : MtI l i k q) (hk : i + k < l.length) (h0 : ((l.drop i).getD k z3).1 = kRep) : MtI l i (k + 1) (q + 1) := by
 rw [getD_dropC] at h0
 obtain ⟨h1, h2, h3, h4⟩ := h
 exact ⟨by omega, h2.trans (mat_rep hk h0), .inr ⟨by omega, by omega⟩, by omega⟩
theorem mt_end (h : MtI l i k q) (hk : i + k < l.length) (h0 : ((l.drop i).getD k z3).1 = kEnd) (hr : (l.getD i z3).1 = kRep) (hq : ¬ q - 1 = 0) : MtI l i (k + 1) (q - 1) := by
 rw [getD_dropC] at h0
 obtain ⟨h1, h2, h3, h4⟩ := h
 have hk0 : k ≠ 0 := by
  rintro rfl
  exact absurd (hr.symm.trans h0) rep_end
 refine ⟨by omega, h2.trans ((mat_end hk h0).trans (if_neg hq)), .inr ⟨by omega, by omega⟩, by omega⟩
theorem mt_one (h : MtI l i k q) (hk : i + k < l.length) (h0 : ((l.drop i).getD k z3).1 ≠ kRep) (h5 : ((l.drop i).getD k z3).1 ≠ kEnd) (hr : (l.getD i z3).1 = kRep) : MtI l i (k + 1) q := by
 rw [getD_dropC] at h0 h5
 obtain ⟨h1, h2, h3, h4⟩ := h
 have hk0 : k ≠ 0 := by
  rintro rfl
  exact h0 hr
 exact ⟨by omega, h2.trans (mat_one hk h0 h5), by omega, by omega⟩
theorem mt_found (h : MtI l i k q) (hk : i + k < l.length) (h0 : ((l.drop i).getD k z3).1 = kEnd) (hq : q - 1 = 0) : matGo 0 i (l.drop i) = i + k := by
 rw [getD_dropC] at h0
 obtain ⟨h1, h2, h3, h4⟩ := h
 exact h2.trans ((mat_end hk h0).trans (if_pos hq))
theorem mt_no (h : MtI l i k q) (hq : q = 0) (h0 : ¬ ((l.drop i).getD k z3).1 = kRep) (hr : (l.getD i z3).1 = kRep) : False := by
 obtain ⟨_, _, h3, _⟩ := h
 have hk : k = 0 := by omega
 subst hk
 rw [getD_dropC] at h0
 exact h0 hr
theorem mt_stop {d : Nat} (hw : Wf d (l.drop i)) (hi : i < l.length) (hr : (l.getD i z3).1 = kRep) (h : MtI l i k q) : ((k : Nat) : Int) < ((List.length (l.drop i) : Nat) : Int) := by
 obtain ⟨d1, e, _, he, he1, he2, _⟩ := wf_at hw hi hr
 obtain ⟨h1, h2, h3, h4⟩ := h
 by_cases hk : i + k < l.length
 ·rw [List.length_drop]; omega
 ·have h5 := h2.trans (mat_nil (by omega))
  omega
end
theorem tms_next {a b : Mc} {u : List Cmd} {j : Nat} (h : takes a (tms j u) = (b, 0)) (h0 : (takes b u).2 = 0) : takes a (tms (j + 1) u) = ((takes b u).1, 0) := by
 rw [tms_succ, takes_app, h, if_neg (by simp)]
 show takes b u = _
 rw [← h0]
theorem tms_split {n j : Nat} (u : List Cmd) (h : j ≤ n) : tms n u = tms j u ++ tms (n - j) u := by
 obtain ⟨k, rfl⟩ : ∃ k, n = j + k := ⟨n - j, by omega⟩
 rw [show j + k - j = k by omega]
 clear h
 induction k with
 | zero => rw [Nat.add_zero, tms_zero, List.append_nil]
 | succ k ih => rw [← Nat.add_assoc, tms_succ, tms_succ, ih, List.append_assoc]
theorem r_rep {a b m : Mc} {u v w x : List Cmd} {n j : Nat} (h1 : takes m x = takes a w) (h2 : w = tms n u ++ v) (h3 : takes a (tms j u) = (b, 0)) (hj : j = n) : takes m x = takes b v := by
 subst hj
 rw [h1, h2, takes_app, h3, if_neg (by simp)]
theorem r_bad2 {a b m : Mc} {u v w x : List Cmd} {n j : Nat} (h1 : takes m x = takes a w) (h2 : w = tms n u ++ v) (h3 : takes a (tms j u) = (b, 0)) (hj : j < n) (h4 : (takes b u).2 ≠ 0) : takes m x = takes b u := by
 have e : tms n u ++ v = tms j u ++ (u ++ (tms (n - j - 1) u ++ v)) := by
  rw [tms_split u (show j ≤ n by omega), show n - j = (n - j - 1) + 1 by omega]
  rw [show tms (n - j - 1 + 1) u = u ++ tms (n - j - 1) u by unfold tms; rw [List.replicate_succ, List.flatten_cons]]
  simp only [List.append_assoc, Nat.add_sub_cancel]
 rw [h1, h2, e, takes_app, h3, if_neg (by simp)]
 show takes b (u ++ _) = _
 rw [takes_app, if_pos h4]
section
variable {l x : List Cmd} {i d : Nat} {a m : Mc}
theorem r_bad (h : Wf d (l.drop i) ∧ OkM a ∧ takes m x = takes a (unrP (l.drop i))) (hi : i < l.length) (h0 : (l.getD i z3).1 ≠ kRep) (h1 : (take1 a (l.getD i z3)).2 ≠ 0) : takes m x = take1 a (l.getD i z3) := by
 rw [h.2.2, wf_next_unr h.1 hi h0, takes_bad h1]
theorem r_next (h : Wf d (l.drop i) ∧ OkM a ∧ takes m x = takes a (unrP (l.drop i))) (hc : ∀ c ∈ l, chkC c = 0) (hi : i < l.length) (h0 : (l.getD i z3).1 ≠ kRep) (h1 : (take1 a (l.getD i z3)).2 = 0) :
  i + 1 ≤ l.length ∧ Wf d (l.drop (i + 1)) ∧ OkM (take1 a (l.getD i z3)).1 ∧ takes m x = takes (take1 a (l.getD i z3)).1 (unrP (l.drop (i + 1))) := by
 refine ⟨by omega, (wf_next h.1 hi h0).2.1, take1_ok h.2.1 (hc _ (getD_mem hi)), ?_⟩
 rw [h.2.2, wf_next_unr h.1 hi h0, takes_ok h1]
theorem r_end (h : takes m x = takes a (unrP (l.drop i))) (hi : ¬ i < l.length) : takes m x = (a, 0) := by
 rw [h, List.drop_of_length_le (by omega), unrP_nil, takes_nil]
end
theorem unr_chk {d : Nat} {b : List Cmd} (hw : Wf d b) (hc : ∀ c ∈ b, chkC c = 0) : ∀ c ∈ unrP b, chkC c = 0 := fun c h => hc c ((wf_unr_len hw hc).2 c h).1
end Go.Lens.Tm
end
section
namespace Go.Lens.Tm
open Go.Lens.Tb Go.Proofs
variable [Lz]
set_option linter.unusedSectionVars false
set_option maxRecDepth 100000
attribute [local irreducible] TK PK T RG EfR Body
theorem ag287 : aggT tab 287 = some true := by kernel_rfl
theorem ag81 : aggT tab 81 = some true := by kernel_rfl
theorem fa287_0 : fadQ tab 287 0 = some 0 := by kernel_rfl
theorem sz287 : szT tab 287 = some 3 := by kernel_rfl
theorem sz81 : szT tab 81 = some 4 := by kernel_rfl
theorem un282 : tab.underlying 282 = some (.slice 287) := by kernel_rfl
set_option maxHeartbeats 4000000 in
theorem w189 (e : ActE) (a : List UInt8) : CallOk Tryz.prog 189 [.pv (.agg [pS (bsO (Prod.fst e)), (Prod.fst (Prod.snd e)), (Prod.snd (Prod.snd e))]), .pv (.box [pS (bsO a)])] (lookM []) (vB (decide ((Prod.fst e) = a))) [] := by
 haveI := tab_ok
 obtain ⟨fn, f1, f2, f3, f4, _, f6⟩ := qf189
 refine callOk_of (Y := tab) (F := fn189) f1 (f2.trans rfl) f3 f4 f6 (Nat.le_of_ble_eq_true rfl) rfl ?_
 clear f1 f2 f3 f4 f6
 show TK _ _ _ _ _ _ ⟨[(0, .pv (.agg [pS (bsO (Prod.fst e)), (Prod.fst (Prod.snd e)), (Prod.snd (Prod.snd e))])), (1, .pv (.box [pS (bsO a)]))], []⟩
 refine At rfl ?_
 refine NR ⟨[(0, .pv (.agg [pS (bsO (Prod.fst e)), (Prod.fst (Prod.snd e)), (Prod.snd (Prod.snd e))])), (1, .pv (.box [pS (bsO a)]))], []⟩ (sb rfl rfl rfl) rfl ?_
 refine rn rfl ?_
 refine ag rfl ?_
 refine RN ?_
 refine Ap rfl ?_
 refine NR ⟨[(1, .pv (.box [pS (bsO a)])), (2, .bref 3 0)], [(3, .box 287 [vS (bsO (Prod.fst e)), .pv ((Prod.fst (Prod.snd e))), .pv ((Prod.snd (Prod.snd e)))])]⟩ (sb rfl rfl rfl) rfl ?_
 refine RO (Body.fadB rfl fa287_0 rfl) ?_
 refine RO (Body.loadB rfl rfl rfl ag9 sz9 rfl) ?_
 refine RO (Body.loadP rfl ag9 sz9) ?_
 refine RO (Body.seqB (a := (Prod.fst e)) (b := a) rfl rfl) ?_
 refine ag rfl ?_
 refine RN ?_
 refine Ap rfl ?_
 refine TK.ret ?_
 refine PK.ret ?_
 refine leaf (val0 := vB (decide ((Prod.fst e) = a))) (by kernel_rfl) ?_
 exact rfl
set_option maxHeartbeats 4000000 in
theorem w188 (l : List ActE) (a : List UInt8) (hl : l.length ≤ 1000000000000000) : CallOk Tryz.prog 188 [vL eA l, .pv (.fn (.func 189) [] [.box [pS (bsO a)]])] (lookM []) (vI (findI (fun e => decide ((Prod.fst e) = a)) l)) [] := by
 haveI := tab_ok
 obtain ⟨fn, f1, f2, f3, f4, _, f6⟩ := qf188
 refine callOk_of (Y := tab) (F := fn188) f1 (f2.trans rfl) f3 f4 f6 (Nat.le_of_ble_eq_true rfl) rfl ?_
 clear f1 f2 f3 f4 f6
 show TK _ _ _ _ _ _ ⟨[(0, vL eA l), (1, .pv (.fn (.func 189) [] [.box [pS (bsO a)]]))], []⟩
 refine At rfl ?_
 refine NR ⟨[(0, vL eA l), (1, .pv (.fn (.func 189) [] [.box [pS (bsO a)]]))], []⟩ (sb rfl rfl rfl) rfl ?_
 refine ag rfl ?_
 refine RN ?_
 refine Ap rfl ?_
 refine NR ⟨[(0, vL eA l), (1, .pv (.fn (.func 189) [] [.box [pS (bsO a)]]))], []⟩ (sb rfl rfl rfl) rfl ?_
 refine mv rfl ?_
 refine RO (Body.lenL rfl un282) ?_
 refine mv rfl ?_
 refine RN ?_
 refine Ap rfl ?_
 refine TK.loop (α := Nat) (fun x => ⟨[(0, vL eA l), (1, .pv (.fn (.func 189) [] [.box [pS (bsO a)]])), (7, vI ((List.length l : Nat) : Int)), (8, vI ((x : Nat) : Int))], []⟩) (fun x => x ≤ List.length l ∧ ∀ j, j < x → decide ((Prod.fst (List.getD l j zA)) = a) = false) (fun x => List.length l - x) 0 ?_ (sb rfl rfl rfl) ?_
 · show 0 ≤ List.length l ∧ ∀ j, j < 0 → decide ((Prod.fst (List.getD l j zA)) = a) = false
   exact ⟨Nat.zero_le _, fun j hj => by omega⟩
 rintro k hI0
 replace hI0 : k ≤ List.length l ∧ ∀ j, j < k → decide ((Prod.fst (List.getD l j zA)) = a) = false := hI0
 show TK _ _ _ _ _ _ ⟨[(0, vL eA l), (1, .pv (.fn (.func 189) [] [.box [pS (bsO a)]])), (7, vI ((List.length l : Nat) : Int)), (8, vI ((k : Nat) : Int))], []⟩
 refine At rfl ?_
 refine NR ⟨[(0, vL eA l), (1, .pv (.fn (.func 189) [] [.box [pS (bsO a)]])), (7, vI ((List.length l : Nat) : Int)), (8, vI ((k : Nat) : Int))], []⟩ (sb rfl rfl rfl) rfl ?_
 refine RO (Body.lss rfl rfl) ?_
 refine RN ?_
 refine Ap rfl ?_
 refine TK.norm ⟨[(0, vL eA l), (1, .pv (.fn (.func 189) [] [.box [pS (bsO a)]])), (7, vI ((List.length l : Nat) : Int)), (8, vI ((k : Nat) : Int)), (9, vB (decide (((k : Nat) : Int) < ((List.length l : Nat) : Int))))], []⟩ (sb rfl rfl rfl) ?_
 refine TK.condP rfl (fun h1 => ?_) (fun h1 => ?_)
 ·
  refine At rfl ?_
  refine NR ⟨[(0, vL eA l), (1, .pv (.fn (.func 189) [] [.box [pS (bsO a)]])), (7, vI ((List.length l : Nat) : Int)), (8, vI ((k : Nat) : Int))], []⟩ (sb rfl rfl rfl) rfl ?_
  refine mv rfl ?_
  refine ag rfl ?_
  refine RN ?_
  refine Ap rfl ?_
  refine NR ⟨[(0, vL eA l), (1, .pv (.fn (.func 189) [] [.box [pS (bsO a)]])), (5, vI ((k : Nat) : Int)), (7, vI ((List.length l : Nat) : Int)), (8, vI ((k : Nat) : Int))], []⟩ (sb rfl rfl rfl) rfl ?_
  refine mv rfl ?_
  refine mv rfl ?_
  refine mv rfl ?_
  refine RO (Body.idx (z := zA) (i := k) rfl rfl un282 sz287 (fun _ => rfl) rfl (by omega)) ?_
  refine RO (Body.loadA (ds := [pS (bsO (Prod.fst (List.getD l k zA))), (Prod.fst (Prod.snd (List.getD l k zA))), (Prod.snd (Prod.snd (List.getD l k zA)))]) rfl ag287 sz287 (Nat.le_of_ble_eq_true rfl) rfl) ?_
  refine RO (Body.call (w189 (List.getD l k zA) a) rfl rfl rfl) ?_
  refine RN ?_
  refine Ap rfl ?_
  refine TK.norm ⟨[(0, vL eA l), (1, .pv (.fn (.func 189) [] [.box [pS (bsO a)]])), (5, vI ((k : Nat) : Int)), (7, vI ((List.length l : Nat) : Int)), (8, vI ((k : Nat) : Int)), (16, vB (decide ((Prod.fst (List.getD l k zA)) = a)))], []⟩ (sb rfl rfl rfl) ?_
  refine TK.condP rfl (fun h2 => ?_) (fun h2 => ?_)
  ·
   refine At rfl ?_
   refine NR ⟨[(5, vI ((k : Nat) : Int))], []⟩ (sb rfl rfl rfl) rfl ?_
   refine mv rfl ?_
   refine ag rfl ?_
   refine RN ?_
   refine Ap rfl ?_
   refine TK.ret ?_
   refine PK.ret ?_
   refine leaf (val0 := vI ((k : Nat) : Int)) (by kernel_rfl) ?_
   exact li (by exact (findI_some (p := (fun e => decide ((Prod.fst e) = a))) (l := l) (z := zA) k (by omega) hI0.2 (decide_eq_true h2)).symm)
  ·
   refine At rfl ?_
   refine NR ⟨[(0, vL eA l), (1, .pv (.fn (.func 189) [] [.box [pS (bsO a)]])), (7, vI ((List.length l : Nat) : Int)), (8, vI ((k : Nat) : Int))], []⟩ (sb rfl rfl rfl) rfl ?_
   refine RO (Body.add rfl rfl (by unfold R64; omega)) ?_
   refine mv rfl ?_
   refine RN ?_
   refine Aq rfl ?_
   refine PK.lp ?_
   refine LP.mk (k + 1) ?_ ?_ (sb rfl rfl rfl)
   · show (k + 1) ≤ List.length l ∧ ∀ j, j < (k + 1) → decide ((Prod.fst (List.getD l j zA)) = a) = false
     refine ⟨by omega, fun j hj => ?_⟩; rcases Nat.lt_succ_iff_lt_or_eq.1 hj with h | h; exact hI0.2 j h; subst h; exact decide_eq_false h2
   · show List.length l - (k + 1) < List.length l - k
     omega
 ·
  refine At rfl ?_
  refine TK.exit ?_
  refine PK.exit rfl ?_
  refine Ap rfl ?_
  refine NR ⟨[], []⟩ (sb rfl rfl rfl) rfl ?_
  refine ag rfl ?_
  refine RN ?_
  refine Ap rfl ?_
  refine TK.ret ?_
  refine PK.ret ?_
  refine leaf (val0 := vI (-1)) (by kernel_rfl) ?_
  exact li (by exact (findI_none (p := (fun e => decide ((Prod.fst e) = a))) (l := l) (z := zA) fun j hj => hI0.2 j (by omega)).symm)
set_option maxHeartbeats 4000000 in
theorem w139n (hp : PowLaid) (hm : OrcOk Tryz.prog (mergeO 121)) (s : LSt) (a : List UInt8) (hs : s ∈ sts) (ha : a ∉ actNs) : CallOk Tryz.prog 139 [.pv (.agg [pS (bsO (Prod.fst s)), pI (Prod.fst (Prod.snd s)), pB (Prod.fst (Prod.snd (Prod.snd s))), pB (Prod.snd (Prod.snd (Prod.snd s)))]), vS (bsO a)] (lookM []) (.tup [.pv (.agg [pS (bsO (Prod.fst (Prod.fst (actP s a)))), pI (Prod.fst (Prod.snd (Prod.fst (actP s a)))), pB (Prod.fst (Prod.snd (Prod.snd (Prod.fst (actP s a))))), pB (Prod.snd (Prod.snd (Prod.snd (Prod.fst (actP s a)))))]), vI (Prod.snd (actP s a))]) [] := by
 haveI := tab_ok
 obtain ⟨fn, f1, f2, f3, f4, _, f6⟩ := qf139
 refine callOk_of (Y := tab) (F := fn139) f1 (f2.trans rfl) f3 f4 f6 (Nat.le_of_ble_eq_true rfl) rfl ?_
 clear f1 f2 f3 f4 f6
 show TK _ _ _ _ _ _ ⟨[(0, .pv (.agg [pS (bsO (Prod.fst s)), pI (Prod.fst (Prod.snd s)), pB (Prod.fst (Prod.snd (Prod.snd s))), pB (Prod.snd (Prod.snd (Prod.snd s)))])), (1, vS (bsO a))], []⟩
 refine At rfl ?_
 refine NR ⟨[(0, .pv (.agg [pS (bsO (Prod.fst s)), pI (Prod.fst (Prod.snd s)), pB (Prod.fst (Prod.snd (Prod.snd s))), pB (Prod.snd (Prod.snd (Prod.snd s)))])), (1, vS (bsO a))], []⟩ (sb rfl rfl rfl) rfl ?_
 refine rn rfl ?_
 refine rn rfl ?_
 refine rn rfl ?_
 refine ag rfl ?_
 refine RN ?_
 refine Ap rfl ?_
 refine NR ⟨[(2, .bref 3 0), (3, .bref 4 0), (4, .bref 5 0)], [(3, .box 81 [vS (bsO (Prod.fst s)), vI (Prod.fst (Prod.snd s)), vB (Prod.fst (Prod.snd (Prod.snd s))), vB (Prod.snd (Prod.snd (Prod.snd s)))]), (4, .box 9 [vS (bsO a)]), (5, .box 81 [vS ⟨#[]⟩, vI 0, vB false, vB false])]⟩ (sb rfl rfl rfl) rfl ?_
 refine RO (Body.loadBA rfl rfl rfl ag81 sz81 rfl rfl) ?_
 refine RO (Body.call (w123 s) rfl rfl rfl) ?_
 refine ag rfl ?_
 refine RN ?_
 refine Ap rfl ?_
 refine NR ⟨[(2, .bref 3 0), (3, .bref 4 0), (4, .bref 5 0), (6, vI (chkSt s))], [(3, .box 81 [vS (bsO (Prod.fst s)), vI (Prod.fst (Prod.snd s)), vB (Prod.fst (Prod.snd (Prod.snd s))), vB (Prod.snd (Prod.snd (Prod.snd s)))]), (4, .box 9 [vS (bsO a)]), (5, .box 81 [vS ⟨#[]⟩, vI 0, vB false, vB false])]⟩ (sb rfl rfl rfl) rfl ?_
 refine mv rfl ?_
 refine RO (Body.neq rfl rfl) ?_
 refine RN ?_
 refine Ap rfl ?_
 refine TK.norm ⟨[(2, .bref 3 0), (3, .bref 4 0), (4, .bref 5 0), (6, vI (chkSt s)), (12, vB (decide ((chkSt s) ≠ 0)))], [(3, .box 81 [vS (bsO (Prod.fst s)), vI (Prod.fst (Prod.snd s)), vB (Prod.fst (Prod.snd (Prod.snd s))), vB (Prod.snd (Prod.snd (Prod.snd s)))]), (4, .box 9 [vS (bsO a)]), (5, .box 81 [vS ⟨#[]⟩, vI 0, vB false, vB false])]⟩ (sb rfl rfl rfl) ?_
 refine TK.condP rfl (fun h1 => ?_) (fun h1 => ?_)
 ·
  exact absurd (st_chk s hs) h1
 ·
  refine At rfl ?_
  refine NR ⟨[(2, .bref 3 0), (3, .bref 4 0), (4, .bref 5 0)], [(3, .box 81 [vS (bsO (Prod.fst s)), vI (Prod.fst (Prod.snd s)), vB (Prod.fst (Prod.snd (Prod.snd s))), vB (Prod.snd (Prod.snd (Prod.snd s)))]), (4, .box 9 [vS (bsO a)]), (5, .box 81 [vS ⟨#[]⟩, vI 0, vB false, vB false])]⟩ (sb rfl rfl rfl) rfl ?_
  refine RO (Body.callS (l := []) (w161 hp hm) rfl rfl trivial rfl rfl) ?_
  refine rn rfl ?_
  refine RN ?_
  refine Ap rfl ?_
  refine TK.norm ⟨[(2, .bref 3 0), (3, .bref 4 0), (4, .bref 5 0), (7, .aref 2018 0)], [(3, .box 81 [vS (bsO (Prod.fst s)), vI (Prod.fst (Prod.snd s)), vB (Prod.fst (Prod.snd (Prod.snd s))), vB (Prod.snd (Prod.snd (Prod.snd s)))]), (4, .box 9 [vS (bsO a)]), (5, .box 81 [vS ⟨#[]⟩, vI 0, vB false, vB false]), (2018, .arr 0 3 287 (List.map eA actsL))]⟩ (sb rfl rfl rfl) ?_
  refine TK.frzB (t := 3) rfl rfl rfl ?_
  refine TK.norm ⟨[(2, .bref 3 0), (3, .pv (.box [pS (bsO a)])), (4, .bref 5 0), (7, .aref 2018 0)], [(3, .box 81 [vS (bsO (Prod.fst s)), vI (Prod.fst (Prod.snd s)), vB (Prod.fst (Prod.snd (Prod.snd s))), vB (Prod.snd (Prod.snd (Prod.snd s)))]), (5, .box 81 [vS ⟨#[]⟩, vI 0, vB false, vB false]), (2018, .arr 0 3 287 (List.map eA actsL))]⟩ (sb rfl rfl rfl) ?_
  refine TK.frz (t := 7) rfl rfl ?_
  refine NR ⟨[(2, .bref 3 0), (3, .pv (.box [pS (bsO a)])), (4, .bref 5 0), (7, vL eA actsL)], [(3, .box 81 [vS (bsO (Prod.fst s)), vI (Prod.fst (Prod.snd s)), vB (Prod.fst (Prod.snd (Prod.snd s))), vB (Prod.snd (Prod.snd (Prod.snd s)))]), (5, .box 81 [vS ⟨#[]⟩, vI 0, vB false, vB false])]⟩ (sb rfl rfl rfl) rfl ?_
  refine mv rfl ?_
  refine rn rfl ?_
  refine RO (Body.call (w188 actsL a (Nat.le_of_ble_eq_true rfl)) rfl rfl rfl) ?_
  refine ag rfl ?_
  refine RN ?_
  refine Ap rfl ?_
  refine NR ⟨[(2, .bref 3 0), (4, .bref 5 0), (7, vL eA actsL), (8, vI (findI (fun e => decide ((Prod.fst e) = a)) actsL))], [(3, .box 81 [vS (bsO (Prod.fst s)), vI (Prod.fst (Prod.snd s)), vB (Prod.fst (Prod.snd (Prod.snd s))), vB (Prod.snd (Prod.snd (Prod.snd s)))]), (5, .box 81 [vS ⟨#[]⟩, vI 0, vB false, vB false])]⟩ (sb rfl rfl rfl) rfl ?_
  refine mv rfl ?_
  refine RO (Body.lss rfl rfl) ?_
  refine RN ?_
  refine Ap rfl ?_
  refine TK.norm ⟨[(2, .bref 3 0), (4, .bref 5 0), (7, vL eA actsL), (8, vI (findI (fun e => decide ((Prod.fst e) = a)) actsL)), (20, vB (decide ((findI (fun e => decide ((Prod.fst e) = a)) actsL) < 0)))], [(3, .box 81 [vS (bsO (Prod.fst s)), vI (Prod.fst (Prod.snd s)), vB (Prod.fst (Prod.snd (Prod.snd s))), vB (Prod.snd (Prod.snd (Prod.snd s)))]), (5, .box 81 [vS ⟨#[]⟩, vI 0, vB false, vB false])]⟩ (sb rfl rfl rfl) ?_
  refine TK.condP rfl (fun h2 => ?_) (fun h2 => ?_)
  ·
   refine At rfl ?_
   refine NR ⟨[(4, .bref 5 0)], [(5, .box 81 [vS ⟨#[]⟩, vI 0, vB false, vB false])]⟩ (sb rfl rfl rfl) rfl ?_
   refine rn rfl ?_
   refine rn rfl ?_
   refine ag rfl ?_
   refine RN ?_
   refine Ap rfl ?_
   refine TK.ret ?_
   refine PK.ret ?_
   refine leaf (val0 := .tup [.pv (.agg [pS ⟨#[]⟩, pI 0, pB false, pB false]), vI 13]) (by kernel_rfl) ?_
   exact tup2 (lag (lcons (pls (by (rw [act_no ha]; rfl))) (lcons (pli (by (rw [act_no ha]; rfl))) (lcons (plb (by (rw [act_no ha]; rfl))) (lcons (plb (by (rw [act_no ha]; rfl))) rfl))))) (li (by (rw [act_no ha])))
  ·
   exact absurd (act_none ha) (by omega)
set_option maxHeartbeats 4000000 in
theorem w272  : CallOk Tryz.prog 272 [] (lookM []) (vL eN actNs) [] := by
 haveI := tab_ok
 obtain ⟨fn, f1, f2, f3, f4, _, f6⟩ := qf272
 refine callOk_of (Y := tab) (F := fn272) f1 (f2.trans rfl) f3 f4 f6 (Nat.le_of_ble_eq_true rfl) rfl ?_
 clear f1 f2 f3 f4 f6
 show TK _ _ _ _ _ _ ⟨[], []⟩
 refine At rfl ?_
 refine NR ⟨[], []⟩ (sb rfl rfl rfl) rfl ?_
 refine RO (Body.nilS (enc := eN) rfl) ?_
 refine RN ?_
 refine Ap rfl ?_
 refine NR ⟨[], []⟩ (sb rfl rfl rfl) rfl ?_
 refine RO (Body.runZ (val := .pv (.slice (List.map eN [[115, 116, 97, 114, 116], [99, 108, 111, 115, 101], [111, 112, 101, 110], [115, 116, 111, 112], [115, 97, 116, 117, 114, 97, 116, 101], [99, 108, 101, 97, 114], [108, 111, 115, 101], [102, 105, 110, 100], [103, 117, 115, 116], [99, 97, 108, 109], [114, 101, 115, 101, 116]]))) rfl (fun l => Frz.arr l _ _ _ _ _) rfl) ?_
 refine ag rfl ?_
 refine RN ?_
 refine Ap rfl ?_
 refine TK.ret ?_
 refine PK.ret ?_
 refine leaf (val0 := vL eN [[115, 116, 97, 114, 116], [99, 108, 111, 115, 101], [111, 112, 101, 110], [115, 116, 111, 112], [115, 97, 116, 117, 114, 97, 116, 101], [99, 108, 101, 97, 114], [108, 111, 115, 101], [102, 105, 110, 100], [103, 117, 115, 116], [99, 97, 108, 109], [114, 101, 115, 101, 116]]) (by kernel_rfl) ?_
 exact lsl (by rfl)
set_option maxHeartbeats 4000000 in
theorem w252 (a : List UInt8) : CallOk Tryz.prog 252 [vS (bsO a)] (lookM []) (vB (List.any actNs (fun y => decide (y = a)))) [] := by
 haveI := tab_ok
 obtain ⟨fn, f1, f2, f3, f4, _, f6⟩ := qf252
 refine callOk_of (Y := tab) (F := fn252) f1 (f2.trans rfl) f3 f4 f6 (Nat.le_of_ble_eq_true rfl) rfl ?_
 clear f1 f2 f3 f4 f6
 show TK _ _ _ _ _ _ ⟨[(0, vS (bsO a))], []⟩
 refine At rfl ?_
 refine NR ⟨[(0, vS (bsO a))], []⟩ (sb rfl rfl rfl) rfl ?_
 refine ag rfl ?_
 refine RN ?_
 refine Ap rfl ?_
 refine NR ⟨[(0, vS (bsO a))], []⟩ (sb rfl rfl rfl) rfl ?_
 refine RO (Body.call (w272) rfl rfl rfl) ?_
 refine ag rfl ?_
 refine RN ?_
 refine Ap rfl ?_
 refine NR ⟨[(0, vS (bsO a)), (3, vL eN actNs)], []⟩ (sb rfl rfl rfl) rfl ?_
 refine ag rfl ?_
 refine RN ?_
 refine Ap rfl ?_
 refine TK.loop (α := Nat) (fun x => ⟨[(0, vS (bsO a)), (3, vL eN actNs), (4, vI ((x : Nat) : Int))], []⟩) (fun x => x ≤ List.length actNs ∧ ∀ j, j < x → ¬ (List.getD actNs j [] = a)) (fun x => List.length actNs - x) 0 ?_ (sb rfl rfl rfl) ?_
 · show 0 ≤ List.length actNs ∧ ∀ j, j < 0 → ¬ (List.getD actNs j [] = a)
   exact ⟨Nat.zero_le _, fun j hj => by omega⟩
 rintro k hI0
 replace hI0 : k ≤ List.length actNs ∧ ∀ j, j < k → ¬ (List.getD actNs j [] = a) := hI0
 show TK _ _ _ _ _ _ ⟨[(0, vS (bsO a)), (3, vL eN actNs), (4, vI ((k : Nat) : Int))], []⟩
 refine At rfl ?_
 refine NR ⟨[(0, vS (bsO a)), (3, vL eN actNs), (4, vI ((k : Nat) : Int))], []⟩ (sb rfl rfl rfl) rfl ?_
 refine mv rfl ?_
 refine mv rfl ?_
 refine RO (Body.lenL rfl un73) ?_
 refine RO (Body.lss rfl rfl) ?_
 refine RN ?_
 refine Ap rfl ?_
 refine TK.norm ⟨[(0, vS (bsO a)), (3, vL eN actNs), (4, vI ((k : Nat) : Int)), (9, vB (decide (((k : Nat) : Int) < ((List.length actNs : Nat) : Int))))], []⟩ (sb rfl rfl rfl) ?_
 refine TK.condP rfl (fun h1 => ?_) (fun h1 => ?_)
 ·
  refine At rfl ?_
  refine NR ⟨[(0, vS (bsO a)), (3, vL eN actNs), (4, vI ((k : Nat) : Int))], []⟩ (sb rfl rfl rfl) rfl ?_
  refine mv rfl ?_
  refine mv rfl ?_
  refine RO (Body.idx (z := []) (i := k) rfl rfl un73 sz9 (fun _ => rfl) rfl (by omega)) ?_
  refine RO (Body.loadP rfl ag9 sz9) ?_
  refine mv rfl ?_
  refine RO (Body.seqB (a := (List.getD actNs k [])) (b := a) rfl rfl) ?_
  refine RN ?_
  refine Ap rfl ?_
  refine TK.norm ⟨[(0, vS (bsO a)), (3, vL eN actNs), (4, vI ((k : Nat) : Int)), (17, vB (decide ((List.getD actNs k []) = a)))], []⟩ (sb rfl rfl rfl) ?_
  refine TK.condP rfl (fun h2 => ?_) (fun h2 => ?_)
  ·
   refine At rfl ?_
   refine NR ⟨[], []⟩ (sb rfl rfl rfl) rfl ?_
   refine ag rfl ?_
   refine RN ?_
   refine Ap rfl ?_
   refine TK.ret ?_
   refine PK.ret ?_
   refine leaf (val0 := vB true) (by kernel_rfl) ?_
   exact lb (by (exact (List.any_eq_true.2 ⟨_, getD_mem (z := []) (show k < List.length actNs by omega), decide_eq_true h2⟩).symm))
  ·
   refine At rfl ?_
   refine NR ⟨[(0, vS (bsO a)), (3, vL eN actNs), (4, vI ((k : Nat) : Int))], []⟩ (sb rfl rfl rfl) rfl ?_
   refine mv rfl ?_
   refine RO (Body.add rfl rfl (by have hz : List.length actNs = 11 := rfl; unfold R64; omega)) ?_
   refine ag rfl ?_
   refine RN ?_
   refine Aq rfl ?_
   refine PK.lp ?_
   refine LP.mk (k + 1) ?_ ?_ (sb rfl rfl rfl)
   · show (k + 1) ≤ List.length actNs ∧ ∀ j, j < (k + 1) → ¬ (List.getD actNs j [] = a)
     refine ⟨by omega, fun j hj => ?_⟩; rcases Nat.lt_succ_iff_lt_or_eq.1 hj with h | h; exact hI0.2 j h; subst h; exact h2
   · show List.length actNs - (k + 1) < List.length actNs - k
     omega
 ·
  refine At rfl ?_
  refine TK.exit ?_
  refine PK.exit rfl ?_
  refine Ap rfl ?_
  refine NR ⟨[], []⟩ (sb rfl rfl rfl) rfl ?_
  refine ag rfl ?_
  refine RN ?_
  refine Ap rfl ?_
  refine TK.ret ?_
  refine PK.ret ?_
  refine leaf (val0 := vB false) (by kernel_rfl) ?_
  exact lb (by (exact (any_getD_none [] (fun j hj => decide_eq_false (hI0.2 j (by omega)))).symm))
set_option maxHeartbeats 4000000 in
theorem w184n (s : LSt) (a : List UInt8) (ha : a ∉ actNs) : CallOk Tryz.prog 184 [.pv (.agg [pS (bsO (Prod.fst s)), pI (Prod.fst (Prod.snd s)), pB (Prod.fst (Prod.snd (Prod.snd s))), pB (Prod.snd (Prod.snd (Prod.snd s)))]), vS (bsO a)] (lookM []) (.tup [.pv (.agg [pS (bsO (Prod.fst (Prod.fst (actP s a)))), pI (Prod.fst (Prod.snd (Prod.fst (actP s a)))), pB (Prod.fst (Prod.snd (Prod.snd (Prod.fst (actP s a))))), pB (Prod.snd (Prod.snd (Prod.snd (Prod.fst (actP s a)))))]), vI (Prod.snd (actP s a))]) [] := by
 haveI := tab_ok
 obtain ⟨fn, f1, f2, f3, f4, _, f6⟩ := qf184
 refine callOk_of (Y := tab) (F := fn184) f1 (f2.trans rfl) f3 f4 f6 (Nat.le_of_ble_eq_true rfl) rfl ?_
 clear f1 f2 f3 f4 f6
 show TK _ _ _ _ _ _ ⟨[(0, .pv (.agg [pS (bsO (Prod.fst s)), pI (Prod.fst (Prod.snd s)), pB (Prod.fst (Prod.snd (Prod.snd s))), pB (Prod.snd (Prod.snd (Prod.snd s)))])), (1, vS (bsO a))], []⟩
 refine At rfl ?_
 refine NR ⟨[(0, .pv (.agg [pS (bsO (Prod.fst s)), pI (Prod.fst (Prod.snd s)), pB (Prod.fst (Prod.snd (Prod.snd s))), pB (Prod.snd (Prod.snd (Prod.snd s)))])), (1, vS (bsO a))], []⟩ (sb rfl rfl rfl) rfl ?_
 refine rn rfl ?_
 refine rn rfl ?_
 refine ag rfl ?_
 refine RN ?_
 refine Ap rfl ?_
 refine NR ⟨[(1, vS (bsO a)), (2, .bref 3 0), (4, .bref 5 0)], [(3, .box 89 [vS (bsO (Prod.fst s)), vI (Prod.fst (Prod.snd s)), vB (Prod.fst (Prod.snd (Prod.snd s))), vB (Prod.snd (Prod.snd (Prod.snd s)))]), (5, .box 89 [vS ⟨#[]⟩, vI 0, vB false, vB false])]⟩ (sb rfl rfl rfl) rfl ?_
 refine mv rfl ?_
 refine RO (Body.call (w252 a) rfl rfl rfl) ?_
 refine RO (Body.not rfl) ?_
 refine RN ?_
 refine Ap rfl ?_
 refine TK.norm ⟨[(1, vS (bsO a)), (2, .bref 3 0), (4, .bref 5 0), (8, vB (!(List.any actNs (fun y => decide (y = a)))))], [(3, .box 89 [vS (bsO (Prod.fst s)), vI (Prod.fst (Prod.snd s)), vB (Prod.fst (Prod.snd (Prod.snd s))), vB (Prod.snd (Prod.snd (Prod.snd s)))]), (5, .box 89 [vS ⟨#[]⟩, vI 0, vB false, vB false])]⟩ (sb rfl rfl rfl) ?_
 refine TK.cond rfl (fun h1 => ?_) (fun h1 => ?_)
 ·
  refine At rfl ?_
  refine NR ⟨[(4, .bref 5 0)], [(5, .box 89 [vS ⟨#[]⟩, vI 0, vB false, vB false])]⟩ (sb rfl rfl rfl) rfl ?_
  refine rn rfl ?_
  refine rn rfl ?_
  refine ag rfl ?_
  refine RN ?_
  refine Ap rfl ?_
  refine TK.ret ?_
  refine PK.ret ?_
  refine leaf (val0 := .tup [.pv (.agg [pS ⟨#[]⟩, pI 0, pB false, pB false]), vI 13]) (by kernel_rfl) ?_
  exact tup2 (lag (lcons (pls (by (rw [act_no ha]; rfl))) (lcons (pli (by (rw [act_no ha]; rfl))) (lcons (plb (by (rw [act_no ha]; rfl))) (lcons (plb (by (rw [act_no ha]; rfl))) rfl))))) (li (by (rw [act_no ha])))
 ·
  exact absurd h1 (by rw [act_any ha]; simp)
theorem w139 (hp : PowLaid) (hm : OrcOk Tryz.prog (mergeO 121)) {s : LSt} (hs : s ∈ sts) (a : List UInt8) : CallOk Tryz.prog 139 [.pv (.agg [pS (bsO (Prod.fst s)), pI (Prod.fst (Prod.snd s)), pB (Prod.fst (Prod.snd (Prod.snd s))), pB (Prod.snd (Prod.snd (Prod.snd s)))]), vS (bsO a)] (lookM []) (.tup [.pv (.agg [pS (bsO (Prod.fst (Prod.fst (actP s a)))), pI (Prod.fst (Prod.snd (Prod.fst (actP s a)))), pB (Prod.fst (Prod.snd (Prod.snd (Prod.fst (actP s a))))), pB (Prod.snd (Prod.snd (Prod.snd (Prod.fst (actP s a)))))]), vI (Prod.snd (actP s a))]) [] := by
 by_cases h : a ∈ actNs
 ·exact act_known hp hm hs h
 ·exact w139n hp hm s a hs h
theorem w184 (hp : PowLaid) (hm : OrcOk Tryz.prog (mergeO 121)) {s : LSt} (hs : s ∈ sts) (a : List UInt8) : CallOk Tryz.prog 184 [.pv (.agg [pS (bsO (Prod.fst s)), pI (Prod.fst (Prod.snd s)), pB (Prod.fst (Prod.snd (Prod.snd s))), pB (Prod.snd (Prod.snd (Prod.snd s)))]), vS (bsO a)] (lookM []) (.tup [.pv (.agg [pS (bsO (Prod.fst (Prod.fst (actP s a)))), pI (Prod.fst (Prod.snd (Prod.fst (actP s a)))), pB (Prod.fst (Prod.snd (Prod.snd (Prod.fst (actP s a))))), pB (Prod.snd (Prod.snd (Prod.snd (Prod.fst (actP s a)))))]), vI (Prod.snd (actP s a))]) [] := by
 by_cases h : a ∈ actNs
 ·exact act_known2 hp hm hs h
 ·exact w184n s a h
end Go.Lens.Tm
end
section
namespace Go.Lens
set_option linter.unusedSectionVars false
variable [Lz]
section
variable {P : Program} {Y : Tab} [TabOk P Y] {nb : Nat} {s : St} {dst : Option Tmp} {ty u : TypeId} {pos : String} {af : Array Edge} {gd : Option (Nat × Bool)} {t : TypeId} {x y : Operand}
theorem Body.storeR {h c v sz hh : Nat} {T T2 : TypeId} {ds ds2 : List DV} {es : List (List PV)} (hx : ev1 s x = .bref h c) (hm : lookM s.ms h = some (.box T ds)) (hy : ev1 s y = .aref hh v) (hm2 : lookM s.ms hh = some (.arr v sz T2 es))
  (hs : szT Y t = some 1) (hle : Nat.ble (c + 1) ds.length = true) (hd : ds.take c ++ [.aref hh v] ++ ds.drop (c + 1) = ds2) : Body P Y nb s ⟨dst, .store t x y, ty, pos, af, gd⟩ .dead [(h, .box T ds2)] [h, hh] := by
 subst hd
 refine .inr (SBody.of fun σ G a w hv hl I => ?_)
 have hX := hv x (by simp [Op.operands])
 have hY := hv y (by simp [Op.operands])
 rw [hx] at hX; rw [hy] at hY
 have hlk : lookM σ.ms h = some (.box T ds) := by rw [hl h (.inl (by simp))]; exact hm
 have hlk2 : lookM σ.ms hh = some (.arr v sz T2 es) := by rw [hl hh (.inl (by simp))]; exact hm2
 have C : Ctx G w (fun z => match z with | .tmp 0 => a.eval x | .tmp 1 => a.eval y | _ => undef) (fun z => match z with | .tmp 0 => .bref h c | .tmp 1 => .aref hh v | _ => .dead) (lookM σ.ms) (lookM σ.ms) := by
  refine I.mem.ctx2 (fun z => ?_) (fun z k hk => ?_)
  ·split
   ·exact hX
   ·exact hY
   ·simp only [RelDV]
  ·split at hk
   ·simp only [DV.refs, List.mem_singleton] at hk; subst hk; exact ⟨_, hlk⟩
   ·simp only [DV.refs, List.mem_singleton] at hk; subst hk; exact ⟨_, hlk2⟩
   ·simp [DV.refs] at hk
 have hcv : storeV Y t (.bref h c) (.aref hh v) (lookM σ.ms) = some ⟨true, .dead, [(h, .box T (ds.take c ++ [.aref hh v] ++ ds.drop (c + 1)))]⟩ := by
  unfold storeV
  have hok : okCells (lookM σ.ms) (.aref hh v) = true := by simp [okCells, hlk2]
  have hcl : cellsDV (.aref hh v) = [.aref hh v] := rfl
  have hdec : decide (c + 1 ≤ ds.length) = true := decide_eq_true (Nat.le_of_ble_eq_true hle)
  simp only [hs, hlk, hok, hcl, List.length_cons, List.length_nil, Nat.zero_add, beq_self_eq_true, Bool.and_self, if_true, hdec]
 obtain ⟨w', G', h1, h2⟩ := storeV_sound (P := P) C (t := t) (a := .tmp 0) (x := .tmp 1) hcv rfl
 refine ⟨undef, w', G', .inr ⟨?_, rfl⟩, h2⟩
 have lift : ∀ {q : Sem Unit} {w' : World}, q.run P w = .ok () w' → (do q; Pure.pure Next.skip : Sem Next).run P w = .ok .skip w' := by
  intro q w' h
  simp only [Sem.run_bind, h, Result.andThen_ok, Sem.run_pure]
 exact lift (q := Instr.storeAt _ _ _) h1
end
end Go.Lens
end
section
namespace Go.Lens.Tm
open Go.Lens.Tb Go.Proofs
variable [Lz]
set_option linter.unusedSectionVars false
set_option maxRecDepth 100000
attribute [local irreducible] TK PK T RG EfR Body
theorem by164 : ty164.info.bytes = 24 := by kernel_rfl
theorem fa217_0 : fadQ tab 217 0 = some 0 := by kernel_rfl
theorem fa217_1 : fadQ tab 217 1 = some 4 := by kernel_rfl
theorem fa217_2 : fadQ tab 217 2 = some 5 := by kernel_rfl
theorem fa217_3 : fadQ tab 217 3 = some 6 := by kernel_rfl
theorem in164 : tab.info? 164 = some ty164.info := by kernel_rfl
theorem sz86 : szT tab 86 = some 1 := by kernel_rfl
set_option maxHeartbeats 4000000 in
theorem w183 (hp : PowLaid) (hm : OrcOk Tryz.prog (mergeO 121)) (m : Mc) (c : Cmd) (hok : OkM m) (hcc : chkC c = 0) : CallOk Tryz.prog 183 [.bref 11 0, .pv (gC c)] (lookM (xS m)) (vI (take1 m c).2) (xO (take1 m c).1) := by
 haveI := tab_ok
 obtain ⟨fn, f1, f2, f3, f4, _, f6⟩ := qf183
 refine callOk_ofL (Y := tab) (F := fn183) 1001 (xS m) f1 (f2.trans rfl) f3 f4 f6 (Nat.le_of_ble_eq_true rfl) rfl rfl ?_
 clear f1 f2 f3 f4 f6
 show TK _ _ _ _ _ _ ⟨[(0, .bref 11 0), (1, .pv (gC c))], [(11, bM m), (900, aM m)]⟩
 refine At rfl ?_
 refine NR ⟨[(0, .bref 11 0), (1, .pv (gC c))], [(11, bM m), (900, aM m)]⟩ (sb rfl rfl rfl) rfl ?_
 refine rn rfl ?_
 refine ag rfl ?_
 refine RN ?_
 refine Ap rfl ?_
 refine NR ⟨[(0, .bref 11 0), (3, .bref 1004 0)], [(11, bM m), (900, aM m), (1004, bC 116 c)]⟩ (sb rfl rfl rfl) rfl ?_
 refine RO (Body.fadB rfl fa116_0 rfl) ?_
 refine RO (Body.loadB rfl rfl rfl ag9 sz9 rfl) ?_
 refine RO (Body.seqB (a := c.1) (b := [119, 97, 105, 116]) rfl rfl) ?_
 refine RN ?_
 refine Ap rfl ?_
 refine TK.norm ⟨[(0, .bref 11 0), (3, .bref 1004 0), (9, vB (decide (c.1 = [119, 97, 105, 116])))], [(11, bM m), (900, aM m), (1004, bC 116 c)]⟩ (sb rfl rfl rfl) ?_
 refine TK.condP rfl (fun h1 => ?_) (fun h1 => ?_)
 ·
  refine At rfl ?_
  refine NR ⟨[(0, .bref 11 0), (3, .bref 1004 0)], [(11, bM m), (900, aM m), (1004, bC 116 c)]⟩ (sb rfl rfl rfl) rfl ?_
  refine RO (Body.fadB rfl fa116_2 rfl) ?_
  refine RO (Body.loadB rfl rfl rfl ag3 sz3 rfl) ?_
  refine rn rfl ?_
  refine rn rfl ?_
  refine RO (Body.fadB rfl fa217_1 rfl) ?_
  refine rn rfl ?_
  refine RO (Body.sub rfl rfl (by have h1 := hok.2.1; have h2 := hok.2.2.1; have h3 := hok.2.2.2; unfold R64; omega)) ?_
  refine RO (Body.gtr rfl rfl) ?_
  refine RG.nil (fun _ => by kernel_rfl) ?_
  refine Ap rfl ?_
  refine TK.norm ⟨[(0, .bref 11 0), (3, .bref 1004 0), (17, vB (decide ((999999999 - m.2.1) < c.2.2)))], [(11, bM m), (900, aM m), (1004, bC 116 c)]⟩ (sb rfl rfl rfl) ?_
  refine TK.condP rfl (fun h2 => ?_) (fun h2 => ?_)
  ·
   refine At rfl ?_
   refine NR ⟨[(0, .bref 11 0)], [(11, bM m), (900, aM m)]⟩ (sb rfl rfl rfl) rfl ?_
   refine ag rfl ?_
   refine RN ?_
   refine Ap rfl ?_
   refine TK.ret ?_
   refine PK.ret ?_
   exact leafL (val0 := vI 3) (out0 := [(900, aM m), (11, bM m)]) (.inr rfl) (by kernel_rfl) (by rw [t_w3 h1 h2]) (by rw [t_w3 h1 h2] <;> rfl)
  ·
   refine At rfl ?_
   refine TK.norm ⟨[(0, .bref 11 0), (3, .bref 1004 0)], [(11, bM m), (900, aM m), (1004, bC 116 c)]⟩ (sb rfl rfl rfl) ?_
   have hcw := cnt_wait hcc h1
   refine TK.rg (Y := tab) mixed rfl ?_
   refine rn rfl ?_
   refine rn rfl ?_
   refine RO (Body.fadB rfl fa217_1 rfl) ?_
   refine rn rfl ?_
   refine RO (Body.fadB rfl fa116_2 rfl) ?_
   refine RO (Body.loadB rfl rfl rfl ag3 sz3 rfl) ?_
   refine RO (Body.add rfl rfl (by have h1 := hok.2.1; have h2 := hok.2.2.1; have h3 := hok.2.2.2; unfold R64; omega)) ?_
   refine rn rfl ?_
   refine RO (Body.fadB rfl fa217_1 rfl) ?_
   refine rn rfl ?_
   refine RG.nil (fun _ => by kernel_rfl) ?_
   refine Ap rfl ?_
   refine NR ⟨[(0, .bref 11 0)], [(11, .box 217 [vS (bsO m.1.1), vI m.1.2.1, vB m.1.2.2.1, vB m.1.2.2.2, vI (m.2.1 + c.2.2), vI 0, .aref 900 (m.2.2.length)]), (900, aM m)]⟩ (sb rfl rfl rfl) rfl ?_
   refine ag rfl ?_
   refine RN ?_
   refine Ap rfl ?_
   refine TK.ret ?_
   refine PK.ret ?_
   exact leafL (val0 := vI 0) (out0 := [(900, aM m), (11, .box 217 [vS (bsO m.1.1), vI m.1.2.1, vB m.1.2.2.1, vB m.1.2.2.2, vI (m.2.1 + c.2.2), vI 0, .aref 900 (m.2.2.length)])]) (.inr rfl) (by kernel_rfl) (by rw [t_w0 h1 h2]) (by rw [t_w0 h1 h2] <;> rfl)
 ·
  refine At rfl ?_
  refine NR ⟨[(0, .bref 11 0), (3, .bref 1004 0)], [(11, bM m), (900, aM m), (1004, bC 116 c)]⟩ (sb rfl rfl rfl) rfl ?_
  refine rn rfl ?_
  refine rn rfl ?_
  refine RO (Body.fadB rfl fa217_2 rfl) ?_
  refine rn rfl ?_
  refine rn rfl ?_
  refine rn rfl ?_
  refine RO (Body.fadB rfl fa217_3 rfl) ?_
  refine rn rfl ?_
  refine RO (Body.lenA rfl rfl un86) ?_
  refine RO (Body.add rfl rfl (by have h1 := hok.2.1; have h2 := hok.2.2.1; have h3 := hok.2.2.2; unfold R64; omega)) ?_
  refine RO (Body.geq rfl rfl) ?_
  refine RG.nil (fun _ => by kernel_rfl) ?_
  refine Ap rfl ?_
  refine TK.norm ⟨[(0, .bref 11 0), (3, .bref 1004 0), (37, vB (decide (1000 ≤ (0 + (m.2.2.length : Int)))))], [(11, bM m), (900, aM m), (1004, bC 116 c)]⟩ (sb rfl rfl rfl) ?_
  refine TK.condP rfl (fun h3 => ?_) (fun h3 => ?_)
  ·
   refine At rfl ?_
   refine NR ⟨[(0, .bref 11 0)], [(11, bM m), (900, aM m)]⟩ (sb rfl rfl rfl) rfl ?_
   refine ag rfl ?_
   refine RN ?_
   refine Ap rfl ?_
   refine TK.ret ?_
   refine PK.ret ?_
   exact leafL (val0 := vI 5) (out0 := [(900, aM m), (11, bM m)]) (.inr rfl) (by kernel_rfl) (by rw [t_5 h1 h3]) (by rw [t_5 h1 h3] <;> rfl)
  ·
   refine At rfl ?_
   refine NR ⟨[(0, .bref 11 0), (3, .bref 1004 0)], [(11, bM m), (900, aM m), (1004, bC 116 c)]⟩ (sb rfl rfl rfl) rfl ?_
   refine rn rfl ?_
   refine rn rfl ?_
   refine RO (Body.fadB rfl fa217_0 rfl) ?_
   refine rn rfl ?_
   refine RO (Body.fadB rfl fa116_1 rfl) ?_
   refine RO (Body.loadB rfl rfl rfl ag9 sz9 rfl) ?_
   refine RO (Body.call (w139 hp hm hok.1 c.2.1) rfl rfl rfl) ?_
   refine rn rfl ?_
   refine rn rfl ?_
   refine rn rfl ?_
   refine rn rfl ?_
   refine rn rfl ?_
   refine ag rfl ?_
   refine RG.nil (fun _ => by kernel_rfl) ?_
   refine Ap rfl ?_
   refine NR ⟨[(0, .bref 11 0), (3, .bref 1004 0), (5, .bref 1006 0), (6, vI (actP m.1 c.2.1).2)], [(11, bM m), (900, aM m), (1004, bC 116 c), (1006, .box 81 [vS (bsO (Prod.fst (Prod.fst (actP m.1 c.2.1)))), vI (Prod.fst (Prod.snd (actP m.1 c.2.1).1)), vB (Prod.fst (Prod.snd (Prod.snd (Prod.fst (actP m.1 c.2.1))))), vB (Prod.snd (Prod.snd (Prod.snd (Prod.fst (actP m.1 c.2.1)))))])]⟩ (sb rfl rfl rfl) rfl ?_
   refine mv rfl ?_
   refine RO (Body.neq rfl rfl) ?_
   refine RN ?_
   refine Ap rfl ?_
   refine TK.norm ⟨[(0, .bref 11 0), (3, .bref 1004 0), (5, .bref 1006 0), (6, vI (actP m.1 c.2.1).2), (49, vB (decide ((actP m.1 c.2.1).2 ≠ 0)))], [(11, bM m), (900, aM m), (1004, bC 116 c), (1006, .box 81 [vS (bsO (Prod.fst (Prod.fst (actP m.1 c.2.1)))), vI (Prod.fst (Prod.snd (actP m.1 c.2.1).1)), vB (Prod.fst (Prod.snd (Prod.snd (Prod.fst (actP m.1 c.2.1))))), vB (Prod.snd (Prod.snd (Prod.snd (Prod.fst (actP m.1 c.2.1)))))])]⟩ (sb rfl rfl rfl) ?_
   refine TK.condP rfl (fun h4 => ?_) (fun h4 => ?_)
   ·
    refine At rfl ?_
    refine NR ⟨[(0, .bref 11 0), (6, vI (actP m.1 c.2.1).2)], [(11, bM m), (900, aM m)]⟩ (sb rfl rfl rfl) rfl ?_
    refine mv rfl ?_
    refine ag rfl ?_
    refine RN ?_
    refine Ap rfl ?_
    refine TK.ret ?_
    refine PK.ret ?_
    exact leafL (val0 := vI (actP m.1 c.2.1).2) (out0 := [(900, aM m), (11, bM m)]) (.inr rfl) (by kernel_rfl) (by rw [t_e h1 h3 h4]) (by rw [t_e h1 h3 h4] <;> rfl)
   ·
    refine At rfl ?_
    refine NR ⟨[(0, .bref 11 0), (3, .bref 1004 0), (5, .bref 1006 0)], [(11, bM m), (900, aM m), (1004, bC 116 c), (1006, .box 81 [vS (bsO (Prod.fst (Prod.fst (actP m.1 c.2.1)))), vI (Prod.fst (Prod.snd (actP m.1 c.2.1).1)), vB (Prod.fst (Prod.snd (Prod.snd (Prod.fst (actP m.1 c.2.1))))), vB (Prod.snd (Prod.snd (Prod.snd (Prod.fst (actP m.1 c.2.1)))))])]⟩ (sb rfl rfl rfl) rfl ?_
    refine rn rfl ?_
    refine rn rfl ?_
    refine RO (Body.loadBA rfl rfl rfl ag81 sz81 rfl rfl) ?_
    refine rn rfl ?_
    refine rn rfl ?_
    refine RO (Body.fadB rfl fa217_3 rfl) ?_
    refine rn rfl ?_
    refine rn rfl ?_
    refine rn rfl ?_
    refine RO (Body.fadB rfl fa217_1 rfl) ?_
    refine rn rfl ?_
    refine RO (Body.fadB rfl fa116_1 rfl) ?_
    refine RO (Body.loadB rfl rfl rfl ag9 sz9 rfl) ?_
    refine rn rfl ?_
    refine RO (Body.runZ (val := .pv (.slice (List.map eP [(m.2.1, c.2.1)]))) (val0 := .aref 1066 0) (m0 := [(1066, .arr 0 2 164 [[pI (m.2.1, c.2.1).1, pS (bsO (m.2.1, c.2.1).2)]])]) (rd := []) (by kernel_rfl) (fun l => Frz.arr l _ _ _ _ _) rfl) ?_
    refine RO (Body.append rfl rfl rfl un86 in164 rfl (fun _ => rfl) by164 (by have h1 := hok.2.1; have h2 := hok.2.2.1; have h3 := hok.2.2.2; (simp only [List.length_append, List.length_cons, List.length_nil]; omega))) ?_
    refine rn rfl ?_
    refine RO (Body.fadB rfl fa217_0 rfl) ?_
    refine rn rfl ?_
    refine rn rfl ?_
    refine RO (Body.fadB rfl fa217_3 rfl) ?_
    refine RO (Body.storeR rfl rfl rfl rfl sz86 rfl rfl) ?_
    refine RG.nil (fun _ => by kernel_rfl) ?_
    refine Ap rfl ?_
    refine NR ⟨[(0, .bref 11 0)], [(11, .box 217 [vS (bsO (Prod.fst (Prod.fst (actP m.1 c.2.1)))), vI (Prod.fst (Prod.snd (actP m.1 c.2.1).1)), vB (Prod.fst (Prod.snd (Prod.snd (Prod.fst (actP m.1 c.2.1))))), vB (Prod.snd (Prod.snd (Prod.snd (Prod.fst (actP m.1 c.2.1))))), vI m.2.1, vI 0, .aref 900 ((m.2.2.length) + 1)]), (900, .arr ((m.2.2.length) + 1) 2 164 (List.map eP (m.2.2 ++ [(m.2.1, c.2.1)])))]⟩ (sb rfl rfl rfl) rfl ?_
    refine ag rfl ?_
    refine RN ?_
    refine Ap rfl ?_
    refine TK.ret ?_
    refine PK.ret ?_
    exact leafL (val0 := vI 0) (out0 := [(900, .arr ((m.2.2.length) + 1) 2 164 (List.map eP (m.2.2 ++ [(m.2.1, c.2.1)]))), (11, .box 217 [vS (bsO (Prod.fst (Prod.fst (actP m.1 c.2.1)))), vI (Prod.fst (Prod.snd (actP m.1 c.2.1).1)), vB (Prod.fst (Prod.snd (Prod.snd (Prod.fst (actP m.1 c.2.1))))), vB (Prod.snd (Prod.snd (Prod.snd (Prod.fst (actP m.1 c.2.1))))), vI m.2.1, vI 0, .aref 900 ((m.2.2.length) + 1)])]) (.inr rfl) (by kernel_rfl) (by rw [t_0 h1 h3 h4]) (by rw [t_0 h1 h3 h4] <;> exact xO_snoc _ _ _ _)
set_option maxHeartbeats 4000000 in
theorem w124 (hp : PowLaid) (hm : OrcOk Tryz.prog (mergeO 121)) (m : Mc) (l : List Cmd) (d : Nat) (hok : OkM m) (hw : Wf d l) (hc : ∀ c ∈ l, chkC c = 0) (hl : l.length ≤ 64) (hd : d ≤ 4)
 (hrec : ∀ (b : List Cmd) (d1 : Nat) (m : Mc), b.length < l.length → Wf d1 b → (∀ c ∈ b, chkC c = 0) → d1 ≤ 4 → OkM m → CallOk Tryz.prog 124 [.bref 11 0, vL eC b] (lookM (xS m)) (vI (takes m (unrP b)).2) (xO (takes m (unrP b)).1)) : CallOk Tryz.prog 124 [.bref 11 0, vL eC l] (lookM (xS m)) (vI (takes m (unrP l)).2) (xO (takes m (unrP l)).1) := by
 haveI := tab_ok
 obtain ⟨fn, f1, f2, f3, f4, _, f6⟩ := qf124
 refine callOk_ofL (Y := tab) (F := fn124) 1001 (xS m) f1 (f2.trans rfl) f3 f4 f6 (Nat.le_of_ble_eq_true rfl) rfl rfl ?_
 clear f1 f2 f3 f4 f6
 show TK _ _ _ _ _ _ ⟨[(0, .bref 11 0), (1, vL eC l)], [(11, bM m), (900, aM m)]⟩
 refine At rfl ?_
 refine NR ⟨[(0, .bref 11 0), (1, vL eC l)], [(11, bM m), (900, aM m)]⟩ (sb rfl rfl rfl) rfl ?_
 refine ag rfl ?_
 refine RN ?_
 refine Ap rfl ?_
 refine NR ⟨[(0, .bref 11 0), (1, vL eC l)], [(11, bM m), (900, aM m)]⟩ (sb rfl rfl rfl) rfl ?_
 refine ag rfl ?_
 refine RN ?_
 refine Ap rfl ?_
 refine TK.loop (α := Nat × Mc) (fun x => ⟨[(0, .bref 11 0), (1, vL eC l), (5, vI ((x.1 : Nat) : Int))], [(11, bM x.2), (900, aM x.2)]⟩) (fun x => x.1 ≤ l.length ∧ Wf d (List.drop x.1 l) ∧ OkM x.2 ∧ takes m (unrP l) = takes x.2 (unrP (List.drop x.1 l))) (fun x => l.length - x.1) (0, m) ?_ (sb rfl rfl rfl) ?_
 · show 0 ≤ l.length ∧ Wf d (List.drop 0 l) ∧ OkM m ∧ takes m (unrP l) = takes m (unrP (List.drop 0 l))
   exact ⟨Nat.zero_le _, hw, hok, rfl⟩
 rintro ⟨i, a⟩ hI0
 replace hI0 : i ≤ l.length ∧ Wf d (List.drop i l) ∧ OkM a ∧ takes m (unrP l) = takes a (unrP (List.drop i l)) := hI0
 show TK _ _ _ _ _ _ ⟨[(0, .bref 11 0), (1, vL eC l), (5, vI i)], [(11, bM a), (900, aM a)]⟩
 refine At rfl ?_
 refine NR ⟨[(0, .bref 11 0), (1, vL eC l), (5, vI i)], [(11, bM a), (900, aM a)]⟩ (sb rfl rfl rfl) rfl ?_
 refine mv rfl ?_
 refine mv rfl ?_
 refine RO (Body.lenL rfl un82) ?_
 refine RO (Body.lss rfl rfl) ?_
 refine RN ?_
 refine Ap rfl ?_
 refine TK.norm ⟨[(0, .bref 11 0), (1, vL eC l), (5, vI i), (15, vB (decide ((i : Int) < (l.length : Int))))], [(11, bM a), (900, aM a)]⟩ (sb rfl rfl rfl) ?_
 refine TK.condP rfl (fun h1 => ?_) (fun h1 => ?_)
 ·
  refine At rfl ?_
  refine TK.scope (fun _ _ h => by rcases h.1 with h | h <;> cases h) ?_
  refine At rfl ?_
  refine NR ⟨[(0, .bref 11 0), (1, vL eC l), (5, vI i)], [(11, bM a), (900, aM a)]⟩ (sb rfl rfl rfl) rfl ?_
  refine mv rfl ?_
  refine mv rfl ?_
  refine RO (Body.idx (z := z3) (i := i) rfl rfl un82 sz116 (fun _ => rfl) rfl (by omega)) ?_
  refine RO (Body.fadP rfl fa116_0 rfl) ?_
  refine RO (Body.loadP rfl ag9 sz9) ?_
  refine RO (Body.sneB (a := (List.getD l i z3).1) (b := [114, 101, 112, 101, 97, 116]) rfl rfl) ?_
  refine RN ?_
  refine Ap rfl ?_
  refine TK.norm ⟨[(0, .bref 11 0), (1, vL eC l), (5, vI i), (23, vB (decide ((List.getD l i z3).1 ≠ [114, 101, 112, 101, 97, 116])))], [(11, bM a), (900, aM a)]⟩ (sb rfl rfl rfl) ?_
  refine TK.condP rfl (fun h2 => ?_) (fun h2 => ?_)
  ·
   refine At rfl ?_
   refine TK.norm ⟨[(0, .bref 11 0), (1, vL eC l), (5, vI i)], [(11, bM a), (900, aM a)]⟩ (sb rfl rfl rfl) ?_
   have hci := hc _ (getD_mem (z := z3) (k := i) (by omega))
   refine TK.rg (Y := tab) mixed rfl ?_
   refine rn rfl ?_
   refine mv rfl ?_
   refine mv rfl ?_
   refine RO (Body.idx (z := z3) (i := i) rfl rfl un82 sz116 (fun _ => rfl) rfl (by omega)) ?_
   refine RO (Body.loadA (ds := [pS (bsO (List.getD l i z3).1), pS (bsO (Prod.fst (Prod.snd (List.getD l i z3)))), pI (Prod.snd (Prod.snd (List.getD l i z3)))]) rfl ag116 sz116 (Nat.le_of_ble_eq_true rfl) rfl) ?_
   refine RO (Body.callS (l := xS a) (w183 hp hm a (List.getD l i z3) hI0.2.2.1 hci) rfl rfl ⟨rfl, rfl, trivial⟩ rfl rfl) ?_
   refine ag rfl ?_
   refine RN ?_
   refine Ap rfl ?_
   refine NR ⟨[(0, .bref 11 0), (1, vL eC l), (5, vI i), (6, vI (take1 a (List.getD l i z3)).2)], [(11, .box 217 [vS (bsO (Prod.fst (Prod.fst (take1 a (List.getD l i z3)).1))), vI (Prod.fst (Prod.snd (Prod.fst (Prod.fst (take1 a (List.getD l i z3)))))), vB (Prod.fst (Prod.snd (Prod.snd (Prod.fst (take1 a (List.getD l i z3)).1)))), vB (Prod.snd (Prod.snd (Prod.snd (Prod.fst (take1 a (List.getD l i z3)).1)))), vI (Prod.fst (Prod.snd (take1 a (List.getD l i z3)).1)), vI 0, .aref 900 (List.length (Prod.snd (Prod.snd (take1 a (List.getD l i z3)).1)))]), (900, .arr (List.length (Prod.snd (Prod.snd (take1 a (List.getD l i z3)).1))) 2 164 (List.map eP (Prod.snd (Prod.snd (take1 a (List.getD l i z3)).1))))]⟩ (sb rfl rfl rfl) rfl ?_
   refine mv rfl ?_
   refine RO (Body.neq rfl rfl) ?_
   refine RN ?_
   refine Ap rfl ?_
   refine TK.norm ⟨[(0, .bref 11 0), (1, vL eC l), (5, vI i), (6, vI (take1 a (List.getD l i z3)).2), (31, vB (decide ((take1 a (List.getD l i z3)).2 ≠ 0)))], [(11, .box 217 [vS (bsO (Prod.fst (Prod.fst (take1 a (List.getD l i z3)).1))), vI (Prod.fst (Prod.snd (Prod.fst (Prod.fst (take1 a (List.getD l i z3)))))), vB (Prod.fst (Prod.snd (Prod.snd (Prod.fst (take1 a (List.getD l i z3)).1)))), vB (Prod.snd (Prod.snd (Prod.snd (Prod.fst (take1 a (List.getD l i z3)).1)))), vI (Prod.fst (Prod.snd (take1 a (List.getD l i z3)).1)), vI 0, .aref 900 (List.length (Prod.snd (Prod.snd (take1 a (List.getD l i z3)).1)))]), (900, .arr (List.length (Prod.snd (Prod.snd (take1 a (List.getD l i z3)).1))) 2 164 (List.map eP (Prod.snd (Prod.snd (take1 a (List.getD l i z3)).1))))]⟩ (sb rfl rfl rfl) ?_
   refine TK.condP rfl (fun h3 => ?_) (fun h3 => ?_)
   ·
    refine At rfl ?_
    refine NR ⟨[(0, .bref 11 0), (6, vI (take1 a (List.getD l i z3)).2)], [(11, .box 217 [vS (bsO (Prod.fst (Prod.fst (take1 a (List.getD l i z3)).1))), vI (Prod.fst (Prod.snd (Prod.fst (Prod.fst (take1 a (List.getD l i z3)))))), vB (Prod.fst (Prod.snd (Prod.snd (Prod.fst (take1 a (List.getD l i z3)).1)))), vB (Prod.snd (Prod.snd (Prod.snd (Prod.fst (take1 a (List.getD l i z3)).1)))), vI (Prod.fst (Prod.snd (take1 a (List.getD l i z3)).1)), vI 0, .aref 900 (List.length (Prod.snd (Prod.snd (take1 a (List.getD l i z3)).1)))]), (900, .arr (List.length (Prod.snd (Prod.snd (take1 a (List.getD l i z3)).1))) 2 164 (List.map eP (Prod.snd (Prod.snd (take1 a (List.getD l i z3)).1))))]⟩ (sb rfl rfl rfl) rfl ?_
    refine mv rfl ?_
    refine ag rfl ?_
    refine RN ?_
    refine Ap rfl ?_
    refine TK.ret ?_
    refine PK.ret ?_
    exact leafL (val0 := vI (take1 a (List.getD l i z3)).2) (out0 := [(900, .arr (List.length (Prod.snd (Prod.snd (take1 a (List.getD l i z3)).1))) 2 164 (List.map eP (Prod.snd (Prod.snd (take1 a (List.getD l i z3)).1)))), (11, .box 217 [vS (bsO (Prod.fst (Prod.fst (take1 a (List.getD l i z3)).1))), vI (Prod.fst (Prod.snd (Prod.fst (Prod.fst (take1 a (List.getD l i z3)))))), vB (Prod.fst (Prod.snd (Prod.snd (Prod.fst (take1 a (List.getD l i z3)).1)))), vB (Prod.snd (Prod.snd (Prod.snd (Prod.fst (take1 a (List.getD l i z3)).1)))), vI (Prod.fst (Prod.snd (take1 a (List.getD l i z3)).1)), vI 0, .aref 900 (List.length (Prod.snd (Prod.snd (take1 a (List.getD l i z3)).1)))])]) (.inr rfl) (by kernel_rfl) (by rw [r_bad hI0.2 (by omega) h2 h3]) (by rw [r_bad hI0.2 (by omega) h2 h3])
   ·
    refine At rfl ?_
    refine TK.exit ?_
    refine PK.exit rfl ?_
    refine Ap rfl ?_
    refine NR ⟨[(0, .bref 11 0), (1, vL eC l), (5, vI i)], [(11, .box 217 [vS (bsO (Prod.fst (Prod.fst (take1 a (List.getD l i z3)).1))), vI (Prod.fst (Prod.snd (Prod.fst (Prod.fst (take1 a (List.getD l i z3)))))), vB (Prod.fst (Prod.snd (Prod.snd (Prod.fst (take1 a (List.getD l i z3)).1)))), vB (Prod.snd (Prod.snd (Prod.snd (Prod.fst (take1 a (List.getD l i z3)).1)))), vI (Prod.fst (Prod.snd (take1 a (List.getD l i z3)).1)), vI 0, .aref 900 (List.length (Prod.snd (Prod.snd (take1 a (List.getD l i z3)).1)))]), (900, .arr (List.length (Prod.snd (Prod.snd (take1 a (List.getD l i z3)).1))) 2 164 (List.map eP (Prod.snd (Prod.snd (take1 a (List.getD l i z3)).1))))]⟩ (sb rfl rfl rfl) rfl ?_
    refine mv rfl ?_
    refine RO (Body.add rfl rfl (by unfold R64; omega)) ?_
    refine ag rfl ?_
    refine RN ?_
    refine Aq rfl ?_
    refine PK.lp ?_
    refine LP.mk ((i + 1), (take1 a (List.getD l i z3)).1) ?_ ?_ (sb rfl rfl rfl)
    · show (i + 1) ≤ l.length ∧ Wf d (List.drop (i + 1) l) ∧ OkM (take1 a (List.getD l i z3)).1 ∧ takes m (unrP l) = takes (take1 a (List.getD l i z3)).1 (unrP (List.drop (i + 1) l))
      exact r_next hI0.2 hc (by omega) h2 (Decidable.not_not.1 h3)
    · show l.length - (i + 1) < l.length - i
      omega
  ·
   refine At rfl ?_
   refine TK.norm ⟨[(0, .bref 11 0), (1, vL eC l), (5, vI i)], [(11, bM a), (900, aM a)]⟩ (sb rfl rfl rfl) ?_
   have hci := hc _ (getD_mem (z := z3) (k := i) (by omega))
   refine TK.rg (Y := tab) mixed rfl ?_
   refine mv rfl ?_
   refine ag rfl ?_
   refine ag rfl ?_
   refine RN ?_
   refine Ap rfl ?_
   refine TK.label ?_
   refine Ap rfl ?_
   refine NR ⟨[(0, .bref 11 0), (1, vL eC l), (5, vI i), (7, vI i), (8, vI 0)], [(11, bM a), (900, aM a)]⟩ (sb rfl rfl rfl) rfl ?_
   refine mv rfl ?_
   refine mv rfl ?_
   refine RO (Body.slDL (i := i) rfl rfl un82 sz116 (fun _ => rfl) rfl (by omega)) ?_
   refine RO (Body.lenL rfl un82) ?_
   refine mv rfl ?_
   refine RN ?_
   refine Ap rfl ?_
   refine TK.loop (α := Nat × Int) (fun x => ⟨[(0, .bref 11 0), (1, vL eC l), (5, vI i), (7, vI i), (8, vI x.2), (36, vL eC (List.drop i l)), (37, vI ((List.length (List.drop i l) : Nat) : Int)), (38, vI ((x.1 : Nat) : Int))], [(11, bM a), (900, aM a)]⟩) (fun x => MtI l i x.1 x.2) (fun x => l.length - x.1) (0, 0) ?_ (sb rfl rfl rfl) ?_
   · show MtI l i 0 0
     exact mt_start (by omega)
   rintro ⟨k, q⟩ hI1
   replace hI1 : MtI l i k q := hI1
   have hkl := mt_drop hI1
   show TK _ _ _ _ _ _ ⟨[(0, .bref 11 0), (1, vL eC l), (5, vI i), (7, vI i), (8, vI q), (36, vL eC (List.drop i l)), (37, vI ((List.length (List.drop i l) : Nat) : Int)), (38, vI k)], [(11, bM a), (900, aM a)]⟩
   refine At rfl ?_
   refine NR ⟨[(0, .bref 11 0), (1, vL eC l), (5, vI i), (7, vI i), (8, vI q), (36, vL eC (List.drop i l)), (37, vI ((List.length (List.drop i l) : Nat) : Int)), (38, vI k)], [(11, bM a), (900, aM a)]⟩ (sb rfl rfl rfl) rfl ?_
   refine RO (Body.lss rfl rfl) ?_
   refine RN ?_
   refine Ap rfl ?_
   refine TK.norm ⟨[(0, .bref 11 0), (1, vL eC l), (5, vI i), (7, vI i), (8, vI q), (36, vL eC (List.drop i l)), (37, vI ((List.length (List.drop i l) : Nat) : Int)), (38, vI k), (39, vB (decide ((k : Int) < ((List.length (List.drop i l) : Nat) : Int))))], [(11, bM a), (900, aM a)]⟩ (sb rfl rfl rfl) ?_
   refine TK.condP rfl (fun h4 => ?_) (fun h4 => ?_)
   ·
    refine At rfl ?_
    refine NR ⟨[(0, .bref 11 0), (1, vL eC l), (5, vI i), (7, vI i), (8, vI q), (36, vL eC (List.drop i l)), (37, vI ((List.length (List.drop i l) : Nat) : Int)), (38, vI k)], [(11, bM a), (900, aM a)]⟩ (sb rfl rfl rfl) rfl ?_
    refine mv rfl ?_
    refine RO (Body.idx (z := z3) (i := k) rfl rfl un82 sz116 (fun _ => rfl) rfl (by omega)) ?_
    refine RO (Body.loadA (ds := [pS (bsO (List.getD (List.drop i l) k z3).1), pS (bsO (Prod.fst (Prod.snd (List.getD (List.drop i l) k z3)))), pI (Prod.snd (Prod.snd (List.getD (List.drop i l) k z3)))]) rfl ag116 sz116 (Nat.le_of_ble_eq_true rfl) rfl) ?_
    refine rn rfl ?_
    refine ag rfl ?_
    refine rn rfl ?_
    refine RN ?_
    refine Ap rfl ?_
    refine NR ⟨[(0, .bref 11 0), (1, vL eC l), (5, vI i), (7, vI i), (8, vI q), (9, vI k), (10, .bref 1011 0), (36, vL eC (List.drop i l)), (37, vI ((List.length (List.drop i l) : Nat) : Int)), (38, vI k)], [(11, bM a), (900, aM a), (1011, .box 116 [vS (bsO (List.getD (List.drop i l) k z3).1), vS (bsO (Prod.fst (Prod.snd (List.getD (List.drop i l) k z3)))), vI (Prod.snd (Prod.snd (List.getD (List.drop i l) k z3)))])]⟩ (sb rfl rfl rfl) rfl ?_
    refine RO (Body.fadB rfl fa116_0 rfl) ?_
    refine RO (Body.loadB rfl rfl rfl ag9 sz9 rfl) ?_
    refine RN ?_
    refine Ap rfl ?_
    refine NR ⟨[(0, .bref 11 0), (1, vL eC l), (5, vI i), (7, vI i), (8, vI q), (9, vI k), (36, vL eC (List.drop i l)), (37, vI ((List.length (List.drop i l) : Nat) : Int)), (38, vI k), (44, vS (bsO (List.getD (List.drop i l) k z3).1))], [(11, bM a), (900, aM a)]⟩ (sb rfl rfl rfl) rfl ?_
    refine RO (Body.seqB (a := (List.getD (List.drop i l) k z3).1) (b := [114, 101, 112, 101, 97, 116]) rfl rfl) ?_
    refine ag rfl ?_
    refine RN ?_
    refine Ap rfl ?_
    refine TK.norm ⟨[(0, .bref 11 0), (1, vL eC l), (5, vI i), (7, vI i), (8, vI q), (9, vI k), (36, vL eC (List.drop i l)), (37, vI ((List.length (List.drop i l) : Nat) : Int)), (38, vI k), (44, vS (bsO (List.getD (List.drop i l) k z3).1)), (45, vB (decide ((List.getD (List.drop i l) k z3).1 = [114, 101, 112, 101, 97, 116])))], [(11, bM a), (900, aM a)]⟩ (sb rfl rfl rfl) ?_
    refine TK.condP rfl (fun h5 => ?_) (fun h5 => ?_)
    ·
     refine At rfl ?_
     refine NR ⟨[(0, .bref 11 0), (1, vL eC l), (5, vI i), (7, vI i), (8, vI q), (9, vI k), (36, vL eC (List.drop i l)), (37, vI ((List.length (List.drop i l) : Nat) : Int)), (38, vI k)], [(11, bM a), (900, aM a)]⟩ (sb rfl rfl rfl) rfl ?_
     refine mv rfl ?_
     refine RO (Body.add rfl rfl (by unfold R64; omega)) ?_
     refine ag rfl ?_
     refine RN ?_
     refine Ap rfl ?_
     refine NR ⟨[(0, .bref 11 0), (1, vL eC l), (5, vI i), (7, vI i), (8, vI (q + 1)), (9, vI k), (36, vL eC (List.drop i l)), (37, vI ((List.length (List.drop i l) : Nat) : Int)), (38, vI k)], [(11, bM a), (900, aM a)]⟩ (sb rfl rfl rfl) rfl ?_
     refine mv rfl ?_
     refine RO (Body.eql rfl rfl) ?_
     refine RN ?_
     refine Ap rfl ?_
     refine TK.norm ⟨[(0, .bref 11 0), (1, vL eC l), (5, vI i), (7, vI i), (8, vI (q + 1)), (9, vI k), (36, vL eC (List.drop i l)), (37, vI ((List.length (List.drop i l) : Nat) : Int)), (38, vI k), (54, vB (decide ((q + 1) = 0)))], [(11, bM a), (900, aM a)]⟩ (sb rfl rfl rfl) ?_
     refine TK.condP rfl (fun h6 => ?_) (fun h6 => ?_)
     ·
      refine At rfl ?_
      refine NR ⟨[(0, .bref 11 0), (1, vL eC l), (5, vI i), (9, vI k)], [(11, bM a), (900, aM a)]⟩ (sb rfl rfl rfl) rfl ?_
      refine mv rfl ?_
      refine mv rfl ?_
      refine RO (Body.add rfl rfl (by unfold R64; omega)) ?_
      refine ag rfl ?_
      refine RN ?_
      refine Ap rfl ?_
      refine TK.exit ?_
      refine PK.exit rfl ?_
      refine Ap rfl ?_
      refine TK.norm ⟨[(0, .bref 11 0), (1, vL eC l), (5, vI i), (7, vI ((i : Int) + (k : Int)))], [(11, bM a), (900, aM a)]⟩ (sb rfl rfl rfl) ?_
      have hrp := Decidable.not_not.1 h2
      obtain ⟨d1, e, hde, he, he1, he2, hwb, hwr, hle⟩ := wf_at hI0.2.1 (by omega) hrp
      have hek : e = i + k := by omega
      rw [show ((i : Int) + (k : Int)) = (e : Int) by omega]
      have hue := wf_at_unr hI0.2.1 (by omega) hrp
      rw [← he] at hue
      have hcb : ∀ c ∈ List.drop (i + 1) (List.take e l), chkC c = 0 := fun c h => hc c (List.mem_of_mem_take (List.mem_of_mem_drop h))
      have hbl : (List.drop (i + 1) (List.take e l)).length < l.length := by rw [List.length_drop, List.length_take]; omega
      have hcn := cnt_rep hci hrp
      refine TK.rg (Y := tab) mixed rfl ?_
      refine mv rfl ?_
      refine mv rfl ?_
      refine RO (Body.idx (z := z3) (i := i) rfl rfl un82 sz116 (fun _ => rfl) rfl (by omega)) ?_
      refine RO (Body.fadP rfl fa116_2 rfl) ?_
      refine RO (Body.loadP rfl ag3 sz3) ?_
      refine mv rfl ?_
      refine RN ?_
      refine Ap rfl ?_
      refine TK.loop (α := Nat × Mc) (fun x => ⟨[(0, .bref 11 0), (1, vL eC l), (5, vI i), (7, vI e), (63, vI (Prod.snd (Prod.snd (List.getD l i z3)))), (64, vI ((x.1 : Nat) : Int))], [(11, bM x.2), (900, aM x.2)]⟩) (fun x => x.1 ≤ (List.getD l i z3).2.2.toNat ∧ OkM x.2 ∧ takes a (tms x.1 (unrP (List.drop (i + 1) (List.take e l)))) = (x.2, 0)) (fun x => (List.getD l i z3).2.2.toNat - x.1) (0, a) ?_ (sb rfl rfl rfl) ?_
      · show 0 ≤ (List.getD l i z3).2.2.toNat ∧ OkM a ∧ takes a (tms 0 (unrP (List.drop (i + 1) (List.take e l)))) = (a, 0)
        exact ⟨Nat.zero_le _, hI0.2.2.1, rfl⟩
      rintro ⟨j, b⟩ hI2
      replace hI2 : j ≤ (List.getD l i z3).2.2.toNat ∧ OkM b ∧ takes a (tms j (unrP (List.drop (i + 1) (List.take e l)))) = (b, 0) := hI2
      show TK _ _ _ _ _ _ ⟨[(0, .bref 11 0), (1, vL eC l), (5, vI i), (7, vI e), (63, vI (Prod.snd (Prod.snd (List.getD l i z3)))), (64, vI j)], [(11, bM b), (900, aM b)]⟩
      refine At rfl ?_
      refine NR ⟨[(0, .bref 11 0), (1, vL eC l), (5, vI i), (7, vI e), (63, vI (Prod.snd (Prod.snd (List.getD l i z3)))), (64, vI j)], [(11, bM b), (900, aM b)]⟩ (sb rfl rfl rfl) rfl ?_
      refine RO (Body.lss rfl rfl) ?_
      refine RN ?_
      refine Ap rfl ?_
      refine TK.norm ⟨[(0, .bref 11 0), (1, vL eC l), (5, vI i), (7, vI e), (63, vI (Prod.snd (Prod.snd (List.getD l i z3)))), (64, vI j), (65, vB (decide ((j : Int) < (Prod.snd (Prod.snd (List.getD l i z3))))))], [(11, bM b), (900, aM b)]⟩ (sb rfl rfl rfl) ?_
      refine TK.condP rfl (fun h7 => ?_) (fun h7 => ?_)
      ·
       refine At rfl ?_
       refine NR ⟨[(0, .bref 11 0), (1, vL eC l), (5, vI i), (7, vI e), (63, vI (Prod.snd (Prod.snd (List.getD l i z3)))), (64, vI j)], [(11, bM b), (900, aM b)]⟩ (sb rfl rfl rfl) rfl ?_
       refine rn rfl ?_
       refine mv rfl ?_
       refine mv rfl ?_
       refine RO (Body.add rfl rfl (by unfold R64; omega)) ?_
       refine mv rfl ?_
       refine RO (Body.slTD (i := (i + 1)) (j := e) rfl rfl rfl un82 sz116 (fun _ => rfl) (by omega) rfl (by omega) (by omega)) ?_
       refine RO (Body.callS (l := xS b) (hrec (List.drop (i + 1) (List.take e l)) d1 b hbl hwb hcb (by omega) hI2.2.1) rfl rfl ⟨rfl, rfl, trivial⟩ rfl rfl) ?_
       refine ag rfl ?_
       refine RN ?_
       refine Ap rfl ?_
       refine NR ⟨[(0, .bref 11 0), (1, vL eC l), (5, vI i), (7, vI e), (11, vI (takes b (unrP (List.drop (i + 1) (List.take e l)))).2), (63, vI (Prod.snd (Prod.snd (List.getD l i z3)))), (64, vI j)], [(11, .box 217 [vS (bsO (Prod.fst (Prod.fst (takes b (unrP (List.drop (i + 1) (List.take e l)))).1))), vI (Prod.fst (Prod.snd (Prod.fst (Prod.fst (takes b (unrP (List.drop (i + 1) (List.take e l)))))))), vB (Prod.fst (Prod.snd (Prod.snd (Prod.fst (takes b (unrP (List.drop (i + 1) (List.take e l)))).1)))), vB (Prod.snd (Prod.snd (Prod.snd (Prod.fst (takes b (unrP (List.drop (i + 1) (List.take e l)))).1)))), vI (Prod.fst (Prod.snd (takes b (unrP (List.drop (i + 1) (List.take e l)))).1)), vI 0, .aref 900 (List.length (Prod.snd (Prod.snd (takes b (unrP (List.drop (i + 1) (List.take e l)))).1)))]), (900, .arr (List.length (Prod.snd (Prod.snd (takes b (unrP (List.drop (i + 1) (List.take e l)))).1))) 2 164 (List.map eP (Prod.snd (Prod.snd (takes b (unrP (List.drop (i + 1) (List.take e l)))).1))))]⟩ (sb rfl rfl rfl) rfl ?_
       refine mv rfl ?_
       refine RO (Body.neq rfl rfl) ?_
       refine RN ?_
       refine Ap rfl ?_
       refine TK.norm ⟨[(0, .bref 11 0), (1, vL eC l), (5, vI i), (7, vI e), (11, vI (takes b (unrP (List.drop (i + 1) (List.take e l)))).2), (63, vI (Prod.snd (Prod.snd (List.getD l i z3)))), (64, vI j), (74, vB (decide ((takes b (unrP (List.drop (i + 1) (List.take e l)))).2 ≠ 0)))], [(11, .box 217 [vS (bsO (Prod.fst (Prod.fst (takes b (unrP (List.drop (i + 1) (List.take e l)))).1))), vI (Prod.fst (Prod.snd (Prod.fst (Prod.fst (takes b (unrP (List.drop (i + 1) (List.take e l)))))))), vB (Prod.fst (Prod.snd (Prod.snd (Prod.fst (takes b (unrP (List.drop (i + 1) (List.take e l)))).1)))), vB (Prod.snd (Prod.snd (Prod.snd (Prod.fst (takes b (unrP (List.drop (i + 1) (List.take e l)))).1)))), vI (Prod.fst (Prod.snd (takes b (unrP (List.drop (i + 1) (List.take e l)))).1)), vI 0, .aref 900 (List.length (Prod.snd (Prod.snd (takes b (unrP (List.drop (i + 1) (List.take e l)))).1)))]), (900, .arr (List.length (Prod.snd (Prod.snd (takes b (unrP (List.drop (i + 1) (List.take e l)))).1))) 2 164 (List.map eP (Prod.snd (Prod.snd (takes b (unrP (List.drop (i + 1) (List.take e l)))).1))))]⟩ (sb rfl rfl rfl) ?_
       refine TK.condP rfl (fun h8 => ?_) (fun h8 => ?_)
       ·
        refine At rfl ?_
        refine NR ⟨[(0, .bref 11 0), (11, vI (takes b (unrP (List.drop (i + 1) (List.take e l)))).2)], [(11, .box 217 [vS (bsO (Prod.fst (Prod.fst (takes b (unrP (List.drop (i + 1) (List.take e l)))).1))), vI (Prod.fst (Prod.snd (Prod.fst (Prod.fst (takes b (unrP (List.drop (i + 1) (List.take e l)))))))), vB (Prod.fst (Prod.snd (Prod.snd (Prod.fst (takes b (unrP (List.drop (i + 1) (List.take e l)))).1)))), vB (Prod.snd (Prod.snd (Prod.snd (Prod.fst (takes b (unrP (List.drop (i + 1) (List.take e l)))).1)))), vI (Prod.fst (Prod.snd (takes b (unrP (List.drop (i + 1) (List.take e l)))).1)), vI 0, .aref 900 (List.length (Prod.snd (Prod.snd (takes b (unrP (List.drop (i + 1) (List.take e l)))).1)))]), (900, .arr (List.length (Prod.snd (Prod.snd (takes b (unrP (List.drop (i + 1) (List.take e l)))).1))) 2 164 (List.map eP (Prod.snd (Prod.snd (takes b (unrP (List.drop (i + 1) (List.take e l)))).1))))]⟩ (sb rfl rfl rfl) rfl ?_
        refine mv rfl ?_
        refine ag rfl ?_
        refine RN ?_
        refine Ap rfl ?_
        refine TK.ret ?_
        refine PK.ret ?_
        exact leafL (val0 := vI (takes b (unrP (List.drop (i + 1) (List.take e l)))).2) (out0 := [(900, .arr (List.length (Prod.snd (Prod.snd (takes b (unrP (List.drop (i + 1) (List.take e l)))).1))) 2 164 (List.map eP (Prod.snd (Prod.snd (takes b (unrP (List.drop (i + 1) (List.take e l)))).1)))), (11, .box 217 [vS (bsO (Prod.fst (Prod.fst (takes b (unrP (List.drop (i + 1) (List.take e l)))).1))), vI (Prod.fst (Prod.snd (Prod.fst (Prod.fst (takes b (unrP (List.drop (i + 1) (List.take e l)))))))), vB (Prod.fst (Prod.snd (Prod.snd (Prod.fst (takes b (unrP (List.drop (i + 1) (List.take e l)))).1)))), vB (Prod.snd (Prod.snd (Prod.snd (Prod.fst (takes b (unrP (List.drop (i + 1) (List.take e l)))).1)))), vI (Prod.fst (Prod.snd (takes b (unrP (List.drop (i + 1) (List.take e l)))).1)), vI 0, .aref 900 (List.length (Prod.snd (Prod.snd (takes b (unrP (List.drop (i + 1) (List.take e l)))).1)))])]) (.inr rfl) (by kernel_rfl) (by rw [r_bad2 hI0.2.2.2 hue hI2.2.2 (by omega) (by assumption)]) (by rw [r_bad2 hI0.2.2.2 hue hI2.2.2 (by omega) (by assumption)])
       ·
        refine At rfl ?_
        refine NR ⟨[(0, .bref 11 0), (1, vL eC l), (5, vI i), (7, vI e), (63, vI (Prod.snd (Prod.snd (List.getD l i z3)))), (64, vI j)], [(11, .box 217 [vS (bsO (Prod.fst (Prod.fst (takes b (unrP (List.drop (i + 1) (List.take e l)))).1))), vI (Prod.fst (Prod.snd (Prod.fst (Prod.fst (takes b (unrP (List.drop (i + 1) (List.take e l)))))))), vB (Prod.fst (Prod.snd (Prod.snd (Prod.fst (takes b (unrP (List.drop (i + 1) (List.take e l)))).1)))), vB (Prod.snd (Prod.snd (Prod.snd (Prod.fst (takes b (unrP (List.drop (i + 1) (List.take e l)))).1)))), vI (Prod.fst (Prod.snd (takes b (unrP (List.drop (i + 1) (List.take e l)))).1)), vI 0, .aref 900 (List.length (Prod.snd (Prod.snd (takes b (unrP (List.drop (i + 1) (List.take e l)))).1)))]), (900, .arr (List.length (Prod.snd (Prod.snd (takes b (unrP (List.drop (i + 1) (List.take e l)))).1))) 2 164 (List.map eP (Prod.snd (Prod.snd (takes b (unrP (List.drop (i + 1) (List.take e l)))).1))))]⟩ (sb rfl rfl rfl) rfl ?_
        refine RO (Body.add rfl rfl (by unfold R64; omega)) ?_
        refine mv rfl ?_
        refine RN ?_
        refine Aq rfl ?_
        refine PK.lp ?_
        refine LP.mk ((j + 1), (takes b (unrP (List.drop (i + 1) (List.take e l)))).1) ?_ ?_ (sb rfl rfl rfl)
        · show (j + 1) ≤ (List.getD l i z3).2.2.toNat ∧ OkM (takes b (unrP (List.drop (i + 1) (List.take e l)))).1 ∧ takes a (tms (j + 1) (unrP (List.drop (i + 1) (List.take e l)))) = ((takes b (unrP (List.drop (i + 1) (List.take e l)))).1, 0)
          exact ⟨by omega, takes_okM hI2.2.1 (unr_chk hwb hcb), tms_next hI2.2.2 (Decidable.not_not.1 (by assumption))⟩
        · show (List.getD l i z3).2.2.toNat - (j + 1) < (List.getD l i z3).2.2.toNat - j
          omega
      ·
       refine At rfl ?_
       refine TK.exit ?_
       refine PK.exit rfl ?_
       refine Ap rfl ?_
       refine NR ⟨[(0, .bref 11 0), (1, vL eC l), (7, vI e)], [(11, bM b), (900, aM b)]⟩ (sb rfl rfl rfl) rfl ?_
       refine mv rfl ?_
       refine ag rfl ?_
       refine RN ?_
       refine Ap rfl ?_
       refine NR ⟨[(0, .bref 11 0), (1, vL eC l), (5, vI e)], [(11, bM b), (900, aM b)]⟩ (sb rfl rfl rfl) rfl ?_
       refine mv rfl ?_
       refine RO (Body.add rfl rfl (by unfold R64; omega)) ?_
       refine ag rfl ?_
       refine RN ?_
       refine Aq rfl ?_
       refine PK.lp ?_
       refine LP.mk ((e + 1), b) ?_ ?_ (sb rfl rfl rfl)
       · show (e + 1) ≤ l.length ∧ Wf d (List.drop (e + 1) l) ∧ OkM b ∧ takes m (unrP l) = takes b (unrP (List.drop (e + 1) l))
         exact ⟨by omega, hwr, hI2.2.1, r_rep hI0.2.2.2 hue hI2.2.2 (by omega)⟩
       · show l.length - (e + 1) < l.length - i
         omega
     ·
      refine At rfl ?_
      refine NR ⟨[(0, .bref 11 0), (1, vL eC l), (5, vI i), (7, vI i), (8, vI (q + 1)), (36, vL eC (List.drop i l)), (37, vI ((List.length (List.drop i l) : Nat) : Int)), (38, vI k)], [(11, bM a), (900, aM a)]⟩ (sb rfl rfl rfl) rfl ?_
      refine RO (Body.add rfl rfl (by unfold R64; omega)) ?_
      refine mv rfl ?_
      refine RN ?_
      refine Aq rfl ?_
      refine PK.lp ?_
      refine LP.mk ((k + 1), (q + 1)) ?_ ?_ (sb rfl rfl rfl)
      · show MtI l i (k + 1) (q + 1)
        exact mt_rep hI1 (by omega) (by assumption)
      · show l.length - (k + 1) < l.length - k
        omega
    ·
     refine At rfl ?_
     refine NR ⟨[(0, .bref 11 0), (1, vL eC l), (5, vI i), (7, vI i), (8, vI q), (9, vI k), (36, vL eC (List.drop i l)), (37, vI ((List.length (List.drop i l) : Nat) : Int)), (38, vI k), (44, vS (bsO (List.getD (List.drop i l) k z3).1))], [(11, bM a), (900, aM a)]⟩ (sb rfl rfl rfl) rfl ?_
     refine RO (Body.seqB (a := (List.getD (List.drop i l) k z3).1) (b := [101, 110, 100]) rfl rfl) ?_
     refine ag rfl ?_
     refine RN ?_
     refine Ap rfl ?_
     refine TK.norm ⟨[(0, .bref 11 0), (1, vL eC l), (5, vI i), (7, vI i), (8, vI q), (9, vI k), (36, vL eC (List.drop i l)), (37, vI ((List.length (List.drop i l) : Nat) : Int)), (38, vI k), (49, vB (decide ((List.getD (List.drop i l) k z3).1 = [101, 110, 100])))], [(11, bM a), (900, aM a)]⟩ (sb rfl rfl rfl) ?_
     refine TK.condP rfl (fun h9 => ?_) (fun h9 => ?_)
     ·
      refine At rfl ?_
      refine NR ⟨[(0, .bref 11 0), (1, vL eC l), (5, vI i), (7, vI i), (8, vI q), (9, vI k), (36, vL eC (List.drop i l)), (37, vI ((List.length (List.drop i l) : Nat) : Int)), (38, vI k)], [(11, bM a), (900, aM a)]⟩ (sb rfl rfl rfl) rfl ?_
      refine mv rfl ?_
      refine RO (Body.sub rfl rfl (by unfold R64; omega)) ?_
      refine ag rfl ?_
      refine RN ?_
      refine Ap rfl ?_
      refine NR ⟨[(0, .bref 11 0), (1, vL eC l), (5, vI i), (7, vI i), (8, vI (q - 1)), (9, vI k), (36, vL eC (List.drop i l)), (37, vI ((List.length (List.drop i l) : Nat) : Int)), (38, vI k)], [(11, bM a), (900, aM a)]⟩ (sb rfl rfl rfl) rfl ?_
      refine mv rfl ?_
      refine RO (Body.eql rfl rfl) ?_
      refine RN ?_
      refine Ap rfl ?_
      refine TK.norm ⟨[(0, .bref 11 0), (1, vL eC l), (5, vI i), (7, vI i), (8, vI (q - 1)), (9, vI k), (36, vL eC (List.drop i l)), (37, vI ((List.length (List.drop i l) : Nat) : Int)), (38, vI k), (54, vB (decide ((q - 1) = 0)))], [(11, bM a), (900, aM a)]⟩ (sb rfl rfl rfl) ?_
      refine TK.condP rfl (fun h10 => ?_) (fun h10 => ?_)
      ·
       refine At rfl ?_
       refine NR ⟨[(0, .bref 11 0), (1, vL eC l), (5, vI i), (9, vI k)], [(11, bM a), (900, aM a)]⟩ (sb rfl rfl rfl) rfl ?_
       refine mv rfl ?_
       refine mv rfl ?_
       refine RO (Body.add rfl rfl (by unfold R64; omega)) ?_
       refine ag rfl ?_
       refine RN ?_
       refine Ap rfl ?_
       refine TK.exit ?_
       refine PK.exit rfl ?_
       refine Ap rfl ?_
       refine TK.norm ⟨[(0, .bref 11 0), (1, vL eC l), (5, vI i), (7, vI ((i : Int) + (k : Int)))], [(11, bM a), (900, aM a)]⟩ (sb rfl rfl rfl) ?_
       have hrp := Decidable.not_not.1 h2
       obtain ⟨d1, e, hde, he, he1, he2, hwb, hwr, hle⟩ := wf_at hI0.2.1 (by omega) hrp
       have hek : e = i + k := by exact he.trans (mt_found hI1 (by omega) (by assumption) (by omega))
       rw [show ((i : Int) + (k : Int)) = (e : Int) by omega]
       have hue := wf_at_unr hI0.2.1 (by omega) hrp
       rw [← he] at hue
       have hcb : ∀ c ∈ List.drop (i + 1) (List.take e l), chkC c = 0 := fun c h => hc c (List.mem_of_mem_take (List.mem_of_mem_drop h))
       have hbl : (List.drop (i + 1) (List.take e l)).length < l.length := by rw [List.length_drop, List.length_take]; omega
       have hcn := cnt_rep hci hrp
       refine TK.rg (Y := tab) mixed rfl ?_
       refine mv rfl ?_
       refine mv rfl ?_
       refine RO (Body.idx (z := z3) (i := i) rfl rfl un82 sz116 (fun _ => rfl) rfl (by omega)) ?_
       refine RO (Body.fadP rfl fa116_2 rfl) ?_
       refine RO (Body.loadP rfl ag3 sz3) ?_
       refine mv rfl ?_
       refine RN ?_
       refine Ap rfl ?_
       refine TK.loop (α := Nat × Mc) (fun x => ⟨[(0, .bref 11 0), (1, vL eC l), (5, vI i), (7, vI e), (63, vI (Prod.snd (Prod.snd (List.getD l i z3)))), (64, vI ((x.1 : Nat) : Int))], [(11, bM x.2), (900, aM x.2)]⟩) (fun x => x.1 ≤ (List.getD l i z3).2.2.toNat ∧ OkM x.2 ∧ takes a (tms x.1 (unrP (List.drop (i + 1) (List.take e l)))) = (x.2, 0)) (fun x => (List.getD l i z3).2.2.toNat - x.1) (0, a) ?_ (sb rfl rfl rfl) ?_
       · show 0 ≤ (List.getD l i z3).2.2.toNat ∧ OkM a ∧ takes a (tms 0 (unrP (List.drop (i + 1) (List.take e l)))) = (a, 0)
         exact ⟨Nat.zero_le _, hI0.2.2.1, rfl⟩
       rintro ⟨j, b⟩ hI2
       replace hI2 : j ≤ (List.getD l i z3).2.2.toNat ∧ OkM b ∧ takes a (tms j (unrP (List.drop (i + 1) (List.take e l)))) = (b, 0) := hI2
       show TK _ _ _ _ _ _ ⟨[(0, .bref 11 0), (1, vL eC l), (5, vI i), (7, vI e), (63, vI (Prod.snd (Prod.snd (List.getD l i z3)))), (64, vI j)], [(11, bM b), (900, aM b)]⟩
       refine At rfl ?_
       refine NR ⟨[(0, .bref 11 0), (1, vL eC l), (5, vI i), (7, vI e), (63, vI (Prod.snd (Prod.snd (List.getD l i z3)))), (64, vI j)], [(11, bM b), (900, aM b)]⟩ (sb rfl rfl rfl) rfl ?_
       refine RO (Body.lss rfl rfl) ?_
       refine RN ?_
       refine Ap rfl ?_
       refine TK.norm ⟨[(0, .bref 11 0), (1, vL eC l), (5, vI i), (7, vI e), (63, vI (Prod.snd (Prod.snd (List.getD l i z3)))), (64, vI j), (65, vB (decide ((j : Int) < (Prod.snd (Prod.snd (List.getD l i z3))))))], [(11, bM b), (900, aM b)]⟩ (sb rfl rfl rfl) ?_
       refine TK.condP rfl (fun h11 => ?_) (fun h11 => ?_)
       ·
        refine At rfl ?_
        refine NR ⟨[(0, .bref 11 0), (1, vL eC l), (5, vI i), (7, vI e), (63, vI (Prod.snd (Prod.snd (List.getD l i z3)))), (64, vI j)], [(11, bM b), (900, aM b)]⟩ (sb rfl rfl rfl) rfl ?_
        refine rn rfl ?_
        refine mv rfl ?_
        refine mv rfl ?_
        refine RO (Body.add rfl rfl (by unfold R64; omega)) ?_
        refine mv rfl ?_
        refine RO (Body.slTD (i := (i + 1)) (j := e) rfl rfl rfl un82 sz116 (fun _ => rfl) (by omega) rfl (by omega) (by omega)) ?_
        refine RO (Body.callS (l := xS b) (hrec (List.drop (i + 1) (List.take e l)) d1 b hbl hwb hcb (by omega) hI2.2.1) rfl rfl ⟨rfl, rfl, trivial⟩ rfl rfl) ?_
        refine ag rfl ?_
        refine RN ?_
        refine Ap rfl ?_
        refine NR ⟨[(0, .bref 11 0), (1, vL eC l), (5, vI i), (7, vI e), (11, vI (takes b (unrP (List.drop (i + 1) (List.take e l)))).2), (63, vI (Prod.snd (Prod.snd (List.getD l i z3)))), (64, vI j)], [(11, .box 217 [vS (bsO (Prod.fst (Prod.fst (takes b (unrP (List.drop (i + 1) (List.take e l)))).1))), vI (Prod.fst (Prod.snd (Prod.fst (Prod.fst (takes b (unrP (List.drop (i + 1) (List.take e l)))))))), vB (Prod.fst (Prod.snd (Prod.snd (Prod.fst (takes b (unrP (List.drop (i + 1) (List.take e l)))).1)))), vB (Prod.snd (Prod.snd (Prod.snd (Prod.fst (takes b (unrP (List.drop (i + 1) (List.take e l)))).1)))), vI (Prod.fst (Prod.snd (takes b (unrP (List.drop (i + 1) (List.take e l)))).1)), vI 0, .aref 900 (List.length (Prod.snd (Prod.snd (takes b (unrP (List.drop (i + 1) (List.take e l)))).1)))]), (900, .arr (List.length (Prod.snd (Prod.snd (takes b (unrP (List.drop (i + 1) (List.take e l)))).1))) 2 164 (List.map eP (Prod.snd (Prod.snd (takes b (unrP (List.drop (i + 1) (List.take e l)))).1))))]⟩ (sb rfl rfl rfl) rfl ?_
        refine mv rfl ?_
        refine RO (Body.neq rfl rfl) ?_
        refine RN ?_
        refine Ap rfl ?_
        refine TK.norm ⟨[(0, .bref 11 0), (1, vL eC l), (5, vI i), (7, vI e), (11, vI (takes b (unrP (List.drop (i + 1) (List.take e l)))).2), (63, vI (Prod.snd (Prod.snd (List.getD l i z3)))), (64, vI j), (74, vB (decide ((takes b (unrP (List.drop (i + 1) (List.take e l)))).2 ≠ 0)))], [(11, .box 217 [vS (bsO (Prod.fst (Prod.fst (takes b (unrP (List.drop (i + 1) (List.take e l)))).1))), vI (Prod.fst (Prod.snd (Prod.fst (Prod.fst (takes b (unrP (List.drop (i + 1) (List.take e l)))))))), vB (Prod.fst (Prod.snd (Prod.snd (Prod.fst (takes b (unrP (List.drop (i + 1) (List.take e l)))).1)))), vB (Prod.snd (Prod.snd (Prod.snd (Prod.fst (takes b (unrP (List.drop (i + 1) (List.take e l)))).1)))), vI (Prod.fst (Prod.snd (takes b (unrP (List.drop (i + 1) (List.take e l)))).1)), vI 0, .aref 900 (List.length (Prod.snd (Prod.snd (takes b (unrP (List.drop (i + 1) (List.take e l)))).1)))]), (900, .arr (List.length (Prod.snd (Prod.snd (takes b (unrP (List.drop (i + 1) (List.take e l)))).1))) 2 164 (List.map eP (Prod.snd (Prod.snd (takes b (unrP (List.drop (i + 1) (List.take e l)))).1))))]⟩ (sb rfl rfl rfl) ?_
        refine TK.condP rfl (fun h12 => ?_) (fun h12 => ?_)
        ·
         refine At rfl ?_
         refine NR ⟨[(0, .bref 11 0), (11, vI (takes b (unrP (List.drop (i + 1) (List.take e l)))).2)], [(11, .box 217 [vS (bsO (Prod.fst (Prod.fst (takes b (unrP (List.drop (i + 1) (List.take e l)))).1))), vI (Prod.fst (Prod.snd (Prod.fst (Prod.fst (takes b (unrP (List.drop (i + 1) (List.take e l)))))))), vB (Prod.fst (Prod.snd (Prod.snd (Prod.fst (takes b (unrP (List.drop (i + 1) (List.take e l)))).1)))), vB (Prod.snd (Prod.snd (Prod.snd (Prod.fst (takes b (unrP (List.drop (i + 1) (List.take e l)))).1)))), vI (Prod.fst (Prod.snd (takes b (unrP (List.drop (i + 1) (List.take e l)))).1)), vI 0, .aref 900 (List.length (Prod.snd (Prod.snd (takes b (unrP (List.drop (i + 1) (List.take e l)))).1)))]), (900, .arr (List.length (Prod.snd (Prod.snd (takes b (unrP (List.drop (i + 1) (List.take e l)))).1))) 2 164 (List.map eP (Prod.snd (Prod.snd (takes b (unrP (List.drop (i + 1) (List.take e l)))).1))))]⟩ (sb rfl rfl rfl) rfl ?_
         refine mv rfl ?_
         refine ag rfl ?_
         refine RN ?_
         refine Ap rfl ?_
         refine TK.ret ?_
         refine PK.ret ?_
         exact leafL (val0 := vI (takes b (unrP (List.drop (i + 1) (List.take e l)))).2) (out0 := [(900, .arr (List.length (Prod.snd (Prod.snd (takes b (unrP (List.drop (i + 1) (List.take e l)))).1))) 2 164 (List.map eP (Prod.snd (Prod.snd (takes b (unrP (List.drop (i + 1) (List.take e l)))).1)))), (11, .box 217 [vS (bsO (Prod.fst (Prod.fst (takes b (unrP (List.drop (i + 1) (List.take e l)))).1))), vI (Prod.fst (Prod.snd (Prod.fst (Prod.fst (takes b (unrP (List.drop (i + 1) (List.take e l)))))))), vB (Prod.fst (Prod.snd (Prod.snd (Prod.fst (takes b (unrP (List.drop (i + 1) (List.take e l)))).1)))), vB (Prod.snd (Prod.snd (Prod.snd (Prod.fst (takes b (unrP (List.drop (i + 1) (List.take e l)))).1)))), vI (Prod.fst (Prod.snd (takes b (unrP (List.drop (i + 1) (List.take e l)))).1)), vI 0, .aref 900 (List.length (Prod.snd (Prod.snd (takes b (unrP (List.drop (i + 1) (List.take e l)))).1)))])]) (.inr rfl) (by kernel_rfl) (by rw [r_bad2 hI0.2.2.2 hue hI2.2.2 (by omega) (by assumption)]) (by rw [r_bad2 hI0.2.2.2 hue hI2.2.2 (by omega) (by assumption)])
        ·
         refine At rfl ?_
         refine NR ⟨[(0, .bref 11 0), (1, vL eC l), (5, vI i), (7, vI e), (63, vI (Prod.snd (Prod.snd (List.getD l i z3)))), (64, vI j)], [(11, .box 217 [vS (bsO (Prod.fst (Prod.fst (takes b (unrP (List.drop (i + 1) (List.take e l)))).1))), vI (Prod.fst (Prod.snd (Prod.fst (Prod.fst (takes b (unrP (List.drop (i + 1) (List.take e l)))))))), vB (Prod.fst (Prod.snd (Prod.snd (Prod.fst (takes b (unrP (List.drop (i + 1) (List.take e l)))).1)))), vB (Prod.snd (Prod.snd (Prod.snd (Prod.fst (takes b (unrP (List.drop (i + 1) (List.take e l)))).1)))), vI (Prod.fst (Prod.snd (takes b (unrP (List.drop (i + 1) (List.take e l)))).1)), vI 0, .aref 900 (List.length (Prod.snd (Prod.snd (takes b (unrP (List.drop (i + 1) (List.take e l)))).1)))]), (900, .arr (List.length (Prod.snd (Prod.snd (takes b (unrP (List.drop (i + 1) (List.take e l)))).1))) 2 164 (List.map eP (Prod.snd (Prod.snd (takes b (unrP (List.drop (i + 1) (List.take e l)))).1))))]⟩ (sb rfl rfl rfl) rfl ?_
         refine RO (Body.add rfl rfl (by unfold R64; omega)) ?_
         refine mv rfl ?_
         refine RN ?_
         refine Aq rfl ?_
         refine PK.lp ?_
         refine LP.mk ((j + 1), (takes b (unrP (List.drop (i + 1) (List.take e l)))).1) ?_ ?_ (sb rfl rfl rfl)
         · show (j + 1) ≤ (List.getD l i z3).2.2.toNat ∧ OkM (takes b (unrP (List.drop (i + 1) (List.take e l)))).1 ∧ takes a (tms (j + 1) (unrP (List.drop (i + 1) (List.take e l)))) = ((takes b (unrP (List.drop (i + 1) (List.take e l)))).1, 0)
           exact ⟨by omega, takes_okM hI2.2.1 (unr_chk hwb hcb), tms_next hI2.2.2 (Decidable.not_not.1 (by assumption))⟩
         · show (List.getD l i z3).2.2.toNat - (j + 1) < (List.getD l i z3).2.2.toNat - j
           omega
       ·
        refine At rfl ?_
        refine TK.exit ?_
        refine PK.exit rfl ?_
        refine Ap rfl ?_
        refine NR ⟨[(0, .bref 11 0), (1, vL eC l), (7, vI e)], [(11, bM b), (900, aM b)]⟩ (sb rfl rfl rfl) rfl ?_
        refine mv rfl ?_
        refine ag rfl ?_
        refine RN ?_
        refine Ap rfl ?_
        refine NR ⟨[(0, .bref 11 0), (1, vL eC l), (5, vI e)], [(11, bM b), (900, aM b)]⟩ (sb rfl rfl rfl) rfl ?_
        refine mv rfl ?_
        refine RO (Body.add rfl rfl (by unfold R64; omega)) ?_
        refine ag rfl ?_
        refine RN ?_
        refine Aq rfl ?_
        refine PK.lp ?_
        refine LP.mk ((e + 1), b) ?_ ?_ (sb rfl rfl rfl)
        · show (e + 1) ≤ l.length ∧ Wf d (List.drop (e + 1) l) ∧ OkM b ∧ takes m (unrP l) = takes b (unrP (List.drop (e + 1) l))
          exact ⟨by omega, hwr, hI2.2.1, r_rep hI0.2.2.2 hue hI2.2.2 (by omega)⟩
        · show l.length - (e + 1) < l.length - i
          omega
      ·
       refine At rfl ?_
       refine NR ⟨[(0, .bref 11 0), (1, vL eC l), (5, vI i), (7, vI i), (8, vI (q - 1)), (36, vL eC (List.drop i l)), (37, vI ((List.length (List.drop i l) : Nat) : Int)), (38, vI k)], [(11, bM a), (900, aM a)]⟩ (sb rfl rfl rfl) rfl ?_
       refine RO (Body.add rfl rfl (by unfold R64; omega)) ?_
       refine mv rfl ?_
       refine RN ?_
       refine Aq rfl ?_
       refine PK.lp ?_
       refine LP.mk ((k + 1), (q - 1)) ?_ ?_ (sb rfl rfl rfl)
       · show MtI l i (k + 1) (q - 1)
         exact mt_end hI1 (by omega) (by assumption) (Decidable.not_not.1 h2) (by assumption)
       · show l.length - (k + 1) < l.length - k
         omega
     ·
      refine At rfl ?_
      refine NR ⟨[(0, .bref 11 0), (1, vL eC l), (5, vI i), (7, vI i), (8, vI q), (9, vI k), (36, vL eC (List.drop i l)), (37, vI ((List.length (List.drop i l) : Nat) : Int)), (38, vI k)], [(11, bM a), (900, aM a)]⟩ (sb rfl rfl rfl) rfl ?_
      refine mv rfl ?_
      refine RO (Body.eql rfl rfl) ?_
      refine RN ?_
      refine Ap rfl ?_
      refine TK.norm ⟨[(0, .bref 11 0), (1, vL eC l), (5, vI i), (7, vI i), (8, vI q), (9, vI k), (36, vL eC (List.drop i l)), (37, vI ((List.length (List.drop i l) : Nat) : Int)), (38, vI k), (54, vB (decide (q = 0)))], [(11, bM a), (900, aM a)]⟩ (sb rfl rfl rfl) ?_
      refine TK.condP rfl (fun h13 => ?_) (fun h13 => ?_)
      ·
       refine At rfl ?_
       refine NR ⟨[(0, .bref 11 0), (1, vL eC l), (5, vI i), (9, vI k)], [(11, bM a), (900, aM a)]⟩ (sb rfl rfl rfl) rfl ?_
       refine mv rfl ?_
       refine mv rfl ?_
       refine RO (Body.add rfl rfl (by unfold R64; omega)) ?_
       refine ag rfl ?_
       refine RN ?_
       refine Ap rfl ?_
       refine TK.exit ?_
       refine PK.exit rfl ?_
       refine Ap rfl ?_
       refine TK.norm ⟨[(0, .bref 11 0), (1, vL eC l), (5, vI i), (7, vI ((i : Int) + (k : Int)))], [(11, bM a), (900, aM a)]⟩ (sb rfl rfl rfl) ?_
       have hrp := Decidable.not_not.1 h2
       obtain ⟨d1, e, hde, he, he1, he2, hwb, hwr, hle⟩ := wf_at hI0.2.1 (by omega) hrp
       have hek : e = i + k := by exact (mt_no hI1 (by assumption) (by assumption) hrp).elim
       rw [show ((i : Int) + (k : Int)) = (e : Int) by omega]
       have hue := wf_at_unr hI0.2.1 (by omega) hrp
       rw [← he] at hue
       have hcb : ∀ c ∈ List.drop (i + 1) (List.take e l), chkC c = 0 := fun c h => hc c (List.mem_of_mem_take (List.mem_of_mem_drop h))
       have hbl : (List.drop (i + 1) (List.take e l)).length < l.length := by rw [List.length_drop, List.length_take]; omega
       have hcn := cnt_rep hci hrp
       refine TK.rg (Y := tab) mixed rfl ?_
       refine mv rfl ?_
       refine mv rfl ?_
       refine RO (Body.idx (z := z3) (i := i) rfl rfl un82 sz116 (fun _ => rfl) rfl (by omega)) ?_
       refine RO (Body.fadP rfl fa116_2 rfl) ?_
       refine RO (Body.loadP rfl ag3 sz3) ?_
       refine mv rfl ?_
       refine RN ?_
       refine Ap rfl ?_
       refine TK.loop (α := Nat × Mc) (fun x => ⟨[(0, .bref 11 0), (1, vL eC l), (5, vI i), (7, vI e), (63, vI (Prod.snd (Prod.snd (List.getD l i z3)))), (64, vI ((x.1 : Nat) : Int))], [(11, bM x.2), (900, aM x.2)]⟩) (fun x => x.1 ≤ (List.getD l i z3).2.2.toNat ∧ OkM x.2 ∧ takes a (tms x.1 (unrP (List.drop (i + 1) (List.take e l)))) = (x.2, 0)) (fun x => (List.getD l i z3).2.2.toNat - x.1) (0, a) ?_ (sb rfl rfl rfl) ?_
       · show 0 ≤ (List.getD l i z3).2.2.toNat ∧ OkM a ∧ takes a (tms 0 (unrP (List.drop (i + 1) (List.take e l)))) = (a, 0)
         exact ⟨Nat.zero_le _, hI0.2.2.1, rfl⟩
       rintro ⟨j, b⟩ hI2
       replace hI2 : j ≤ (List.getD l i z3).2.2.toNat ∧ OkM b ∧ takes a (tms j (unrP (List.drop (i + 1) (List.take e l)))) = (b, 0) := hI2
       show TK _ _ _ _ _ _ ⟨[(0, .bref 11 0), (1, vL eC l), (5, vI i), (7, vI e), (63, vI (Prod.snd (Prod.snd (List.getD l i z3)))), (64, vI j)], [(11, bM b), (900, aM b)]⟩
       refine At rfl ?_
       refine NR ⟨[(0, .bref 11 0), (1, vL eC l), (5, vI i), (7, vI e), (63, vI (Prod.snd (Prod.snd (List.getD l i z3)))), (64, vI j)], [(11, bM b), (900, aM b)]⟩ (sb rfl rfl rfl) rfl ?_
       refine RO (Body.lss rfl rfl) ?_
       refine RN ?_
       refine Ap rfl ?_
       refine TK.norm ⟨[(0, .bref 11 0), (1, vL eC l), (5, vI i), (7, vI e), (63, vI (Prod.snd (Prod.snd (List.getD l i z3)))), (64, vI j), (65, vB (decide ((j : Int) < (Prod.snd (Prod.snd (List.getD l i z3))))))], [(11, bM b), (900, aM b)]⟩ (sb rfl rfl rfl) ?_
       refine TK.condP rfl (fun h14 => ?_) (fun h14 => ?_)
       ·
        refine At rfl ?_
        refine NR ⟨[(0, .bref 11 0), (1, vL eC l), (5, vI i), (7, vI e), (63, vI (Prod.snd (Prod.snd (List.getD l i z3)))), (64, vI j)], [(11, bM b), (900, aM b)]⟩ (sb rfl rfl rfl) rfl ?_
        refine rn rfl ?_
        refine mv rfl ?_
        refine mv rfl ?_
        refine RO (Body.add rfl rfl (by unfold R64; omega)) ?_
        refine mv rfl ?_
        refine RO (Body.slTD (i := (i + 1)) (j := e) rfl rfl rfl un82 sz116 (fun _ => rfl) (by omega) rfl (by omega) (by omega)) ?_
        refine RO (Body.callS (l := xS b) (hrec (List.drop (i + 1) (List.take e l)) d1 b hbl hwb hcb (by omega) hI2.2.1) rfl rfl ⟨rfl, rfl, trivial⟩ rfl rfl) ?_
        refine ag rfl ?_
        refine RN ?_
        refine Ap rfl ?_
        refine NR ⟨[(0, .bref 11 0), (1, vL eC l), (5, vI i), (7, vI e), (11, vI (takes b (unrP (List.drop (i + 1) (List.take e l)))).2), (63, vI (Prod.snd (Prod.snd (List.getD l i z3)))), (64, vI j)], [(11, .box 217 [vS (bsO (Prod.fst (Prod.fst (takes b (unrP (List.drop (i + 1) (List.take e l)))).1))), vI (Prod.fst (Prod.snd (Prod.fst (Prod.fst (takes b (unrP (List.drop (i + 1) (List.take e l)))))))), vB (Prod.fst (Prod.snd (Prod.snd (Prod.fst (takes b (unrP (List.drop (i + 1) (List.take e l)))).1)))), vB (Prod.snd (Prod.snd (Prod.snd (Prod.fst (takes b (unrP (List.drop (i + 1) (List.take e l)))).1)))), vI (Prod.fst (Prod.snd (takes b (unrP (List.drop (i + 1) (List.take e l)))).1)), vI 0, .aref 900 (List.length (Prod.snd (Prod.snd (takes b (unrP (List.drop (i + 1) (List.take e l)))).1)))]), (900, .arr (List.length (Prod.snd (Prod.snd (takes b (unrP (List.drop (i + 1) (List.take e l)))).1))) 2 164 (List.map eP (Prod.snd (Prod.snd (takes b (unrP (List.drop (i + 1) (List.take e l)))).1))))]⟩ (sb rfl rfl rfl) rfl ?_
        refine mv rfl ?_
        refine RO (Body.neq rfl rfl) ?_
        refine RN ?_
        refine Ap rfl ?_
        refine TK.norm ⟨[(0, .bref 11 0), (1, vL eC l), (5, vI i), (7, vI e), (11, vI (takes b (unrP (List.drop (i + 1) (List.take e l)))).2), (63, vI (Prod.snd (Prod.snd (List.getD l i z3)))), (64, vI j), (74, vB (decide ((takes b (unrP (List.drop (i + 1) (List.take e l)))).2 ≠ 0)))], [(11, .box 217 [vS (bsO (Prod.fst (Prod.fst (takes b (unrP (List.drop (i + 1) (List.take e l)))).1))), vI (Prod.fst (Prod.snd (Prod.fst (Prod.fst (takes b (unrP (List.drop (i + 1) (List.take e l)))))))), vB (Prod.fst (Prod.snd (Prod.snd (Prod.fst (takes b (unrP (List.drop (i + 1) (List.take e l)))).1)))), vB (Prod.snd (Prod.snd (Prod.snd (Prod.fst (takes b (unrP (List.drop (i + 1) (List.take e l)))).1)))), vI (Prod.fst (Prod.snd (takes b (unrP (List.drop (i + 1) (List.take e l)))).1)), vI 0, .aref 900 (List.length (Prod.snd (Prod.snd (takes b (unrP (List.drop (i + 1) (List.take e l)))).1)))]), (900, .arr (List.length (Prod.snd (Prod.snd (takes b (unrP (List.drop (i + 1) (List.take e l)))).1))) 2 164 (List.map eP (Prod.snd (Prod.snd (takes b (unrP (List.drop (i + 1) (List.take e l)))).1))))]⟩ (sb rfl rfl rfl) ?_
        refine TK.condP rfl (fun h15 => ?_) (fun h15 => ?_)
        ·
         refine At rfl ?_
         refine NR ⟨[(0, .bref 11 0), (11, vI (takes b (unrP (List.drop (i + 1) (List.take e l)))).2)], [(11, .box 217 [vS (bsO (Prod.fst (Prod.fst (takes b (unrP (List.drop (i + 1) (List.take e l)))).1))), vI (Prod.fst (Prod.snd (Prod.fst (Prod.fst (takes b (unrP (List.drop (i + 1) (List.take e l)))))))), vB (Prod.fst (Prod.snd (Prod.snd (Prod.fst (takes b (unrP (List.drop (i + 1) (List.take e l)))).1)))), vB (Prod.snd (Prod.snd (Prod.snd (Prod.fst (takes b (unrP (List.drop (i + 1) (List.take e l)))).1)))), vI (Prod.fst (Prod.snd (takes b (unrP (List.drop (i + 1) (List.take e l)))).1)), vI 0, .aref 900 (List.length (Prod.snd (Prod.snd (takes b (unrP (List.drop (i + 1) (List.take e l)))).1)))]), (900, .arr (List.length (Prod.snd (Prod.snd (takes b (unrP (List.drop (i + 1) (List.take e l)))).1))) 2 164 (List.map eP (Prod.snd (Prod.snd (takes b (unrP (List.drop (i + 1) (List.take e l)))).1))))]⟩ (sb rfl rfl rfl) rfl ?_
         refine mv rfl ?_
         refine ag rfl ?_
         refine RN ?_
         refine Ap rfl ?_
         refine TK.ret ?_
         refine PK.ret ?_
         exact leafL (val0 := vI (takes b (unrP (List.drop (i + 1) (List.take e l)))).2) (out0 := [(900, .arr (List.length (Prod.snd (Prod.snd (takes b (unrP (List.drop (i + 1) (List.take e l)))).1))) 2 164 (List.map eP (Prod.snd (Prod.snd (takes b (unrP (List.drop (i + 1) (List.take e l)))).1)))), (11, .box 217 [vS (bsO (Prod.fst (Prod.fst (takes b (unrP (List.drop (i + 1) (List.take e l)))).1))), vI (Prod.fst (Prod.snd (Prod.fst (Prod.fst (takes b (unrP (List.drop (i + 1) (List.take e l)))))))), vB (Prod.fst (Prod.snd (Prod.snd (Prod.fst (takes b (unrP (List.drop (i + 1) (List.take e l)))).1)))), vB (Prod.snd (Prod.snd (Prod.snd (Prod.fst (takes b (unrP (List.drop (i + 1) (List.take e l)))).1)))), vI (Prod.fst (Prod.snd (takes b (unrP (List.drop (i + 1) (List.take e l)))).1)), vI 0, .aref 900 (List.length (Prod.snd (Prod.snd (takes b (unrP (List.drop (i + 1) (List.take e l)))).1)))])]) (.inr rfl) (by kernel_rfl) (by rw [r_bad2 hI0.2.2.2 hue hI2.2.2 (by omega) (by assumption)]) (by rw [r_bad2 hI0.2.2.2 hue hI2.2.2 (by omega) (by assumption)])
        ·
         refine At rfl ?_
         refine NR ⟨[(0, .bref 11 0), (1, vL eC l), (5, vI i), (7, vI e), (63, vI (Prod.snd (Prod.snd (List.getD l i z3)))), (64, vI j)], [(11, .box 217 [vS (bsO (Prod.fst (Prod.fst (takes b (unrP (List.drop (i + 1) (List.take e l)))).1))), vI (Prod.fst (Prod.snd (Prod.fst (Prod.fst (takes b (unrP (List.drop (i + 1) (List.take e l)))))))), vB (Prod.fst (Prod.snd (Prod.snd (Prod.fst (takes b (unrP (List.drop (i + 1) (List.take e l)))).1)))), vB (Prod.snd (Prod.snd (Prod.snd (Prod.fst (takes b (unrP (List.drop (i + 1) (List.take e l)))).1)))), vI (Prod.fst (Prod.snd (takes b (unrP (List.drop (i + 1) (List.take e l)))).1)), vI 0, .aref 900 (List.length (Prod.snd (Prod.snd (takes b (unrP (List.drop (i + 1) (List.take e l)))).1)))]), (900, .arr (List.length (Prod.snd (Prod.snd (takes b (unrP (List.drop (i + 1) (List.take e l)))).1))) 2 164 (List.map eP (Prod.snd (Prod.snd (takes b (unrP (List.drop (i + 1) (List.take e l)))).1))))]⟩ (sb rfl rfl rfl) rfl ?_
         refine RO (Body.add rfl rfl (by unfold R64; omega)) ?_
         refine mv rfl ?_
         refine RN ?_
         refine Aq rfl ?_
         refine PK.lp ?_
         refine LP.mk ((j + 1), (takes b (unrP (List.drop (i + 1) (List.take e l)))).1) ?_ ?_ (sb rfl rfl rfl)
         · show (j + 1) ≤ (List.getD l i z3).2.2.toNat ∧ OkM (takes b (unrP (List.drop (i + 1) (List.take e l)))).1 ∧ takes a (tms (j + 1) (unrP (List.drop (i + 1) (List.take e l)))) = ((takes b (unrP (List.drop (i + 1) (List.take e l)))).1, 0)
           exact ⟨by omega, takes_okM hI2.2.1 (unr_chk hwb hcb), tms_next hI2.2.2 (Decidable.not_not.1 (by assumption))⟩
         · show (List.getD l i z3).2.2.toNat - (j + 1) < (List.getD l i z3).2.2.toNat - j
           omega
       ·
        refine At rfl ?_
        refine TK.exit ?_
        refine PK.exit rfl ?_
        refine Ap rfl ?_
        refine NR ⟨[(0, .bref 11 0), (1, vL eC l), (7, vI e)], [(11, bM b), (900, aM b)]⟩ (sb rfl rfl rfl) rfl ?_
        refine mv rfl ?_
        refine ag rfl ?_
        refine RN ?_
        refine Ap rfl ?_
        refine NR ⟨[(0, .bref 11 0), (1, vL eC l), (5, vI e)], [(11, bM b), (900, aM b)]⟩ (sb rfl rfl rfl) rfl ?_
        refine mv rfl ?_
        refine RO (Body.add rfl rfl (by unfold R64; omega)) ?_
        refine ag rfl ?_
        refine RN ?_
        refine Aq rfl ?_
        refine PK.lp ?_
        refine LP.mk ((e + 1), b) ?_ ?_ (sb rfl rfl rfl)
        · show (e + 1) ≤ l.length ∧ Wf d (List.drop (e + 1) l) ∧ OkM b ∧ takes m (unrP l) = takes b (unrP (List.drop (e + 1) l))
          exact ⟨by omega, hwr, hI2.2.1, r_rep hI0.2.2.2 hue hI2.2.2 (by omega)⟩
        · show l.length - (e + 1) < l.length - i
          omega
      ·
       refine At rfl ?_
       refine NR ⟨[(0, .bref 11 0), (1, vL eC l), (5, vI i), (7, vI i), (8, vI q), (36, vL eC (List.drop i l)), (37, vI ((List.length (List.drop i l) : Nat) : Int)), (38, vI k)], [(11, bM a), (900, aM a)]⟩ (sb rfl rfl rfl) rfl ?_
       refine RO (Body.add rfl rfl (by unfold R64; omega)) ?_
       refine mv rfl ?_
       refine RN ?_
       refine Aq rfl ?_
       refine PK.lp ?_
       refine LP.mk ((k + 1), q) ?_ ?_ (sb rfl rfl rfl)
       · show MtI l i (k + 1) q
         exact mt_one hI1 (by omega) (by assumption) (by assumption) (Decidable.not_not.1 h2)
       · show l.length - (k + 1) < l.length - k
         omega
   ·
    exact absurd (mt_stop hI0.2.1 (by omega) (Decidable.not_not.1 h2) hI1) h4
 ·
  refine At rfl ?_
  refine TK.exit ?_
  refine PK.exit rfl ?_
  refine Ap rfl ?_
  refine NR ⟨[(0, .bref 11 0)], [(11, bM a), (900, aM a)]⟩ (sb rfl rfl rfl) rfl ?_
  refine ag rfl ?_
  refine RN ?_
  refine Ap rfl ?_
  refine TK.ret ?_
  refine PK.ret ?_
  exact leafL (val0 := vI 0) (out0 := [(900, aM a), (11, bM a)]) (.inr rfl) (by kernel_rfl) (by rw [r_end hI0.2.2.2 (by omega)]) (by rw [r_end hI0.2.2.2 (by omega)])
end Go.Lens.Tm
end
section
namespace Go.Lens.Tm
open Go.Lens.Tb Go.Proofs
set_option linter.unusedSectionVars false
theorem unr_bd {out o2 u v w x : List Cmd} {n j : Nat} (h1 : out ++ w = x) (h2 : w = tms n u ++ v) (h3 : o2 = out ++ tms j u) (hj : j < n) : o2.length + u.length ≤ x.length := by
 subst h1 h2 h3
 simp only [List.length_append, tms_len]
 have : (j + 1) * u.length ≤ n * u.length := Nat.mul_le_mul_right _ hj
 rw [Nat.add_mul] at this
 omega
section
variable {m a : Mc} {c : Cmd} {u : List Cmd} {i : Nat}
theorem x_w3 (h1 : c.1 = kWait) (h2 : 999999999 < m.2.1 + c.2.2) : take1 m c = (m, 3) := by rw [take1, if_pos h1, if_pos h2]
theorem x_w0 (h1 : c.1 = kWait) (h2 : ¬ 999999999 < m.2.1 + c.2.2) : take1 m c = ((m.1, m.2.1 + c.2.2, m.2.2), 0) := by rw [take1, if_pos h1, if_neg h2]
theorem x_bad {r : Mc × Int} (h : takes m u = takes a (u.drop i)) (hi : i < u.length) (e : take1 a (u.getD i z3) = r) (hr : r.2 ≠ 0) : takes m u = r := by
 rw [h, dropC hi, takes_bad (by rw [e]; exact hr), e]
theorem x_next {b : Mc} (h : OkM a ∧ takes m u = takes a (u.drop i)) (hi : i < u.length) (hc : chkC (u.getD i z3) = 0) (e : take1 a (u.getD i z3) = (b, 0)) : i + 1 ≤ u.length ∧ OkM b ∧ takes m u = takes b (u.drop (i + 1)) := by
 refine ⟨by omega, ?_, ?_⟩
 ·have := take1_ok h.1 hc
  rwa [e] at this
 ·rw [h.2, dropC hi, takes_ok (by rw [e]), e]
theorem x_end (h : takes m u = takes a (u.drop i)) (hi : ¬ i < u.length) : takes m u = (a, 0) := by
 rw [h, List.drop_of_length_le (by omega), takes_nil]
end
def runA (s : LSt) (t : Int) : Int := firstF [chkSt s, withinF t 0 999999999]
section
variable {s : LSt} {t : Int} {l : List Cmd}
theorem first_if (x : Int) (r : List Int) : firstF (x :: r) = if x = 0 then firstF r else x := rfl
theorem runA_3 (h : (bif (decide ((chkSt s) = 0)) then (outF t 0 999999999) else false) = true) : runA s t = 3 := by
 rw [bif_and, Bool.and_eq_true] at h
 rw [runA, first_if, if_pos (of_decide_eq_true h.1), with_out h.2]; rfl
theorem runA_0 (h : (bif (decide ((chkSt s) = 0)) then (outF t 0 999999999) else false) = false) : runA s t = chkSt s := by
 rw [runA, first_if]
 by_cases h0 : chkSt s = 0
 ·rw [decide_eq_true h0, cond_true] at h
  rw [if_pos h0, with_in h, h0]; rfl
 ·rw [if_neg h0]
theorem runX_1 (h : runA s t = 0) : runX s t l = chkS l := by
 rw [runA] at h
 obtain ⟨h1, h2⟩ := first2 h
 rw [runX, first_if, if_pos h1, first_if, if_pos h2]
 exact first_one _
theorem runX_2 (h : ¬ runA s t = 0) : runX s t l = runA s t := by
 have e1 : runX s t l = if chkSt s = 0 then (if withinF t 0 999999999 = 0 then firstF [chkS l] else withinF t 0 999999999) else chkSt s := rfl
 have e2 : runA s t = if chkSt s = 0 then firstF [withinF t 0 999999999] else chkSt s := rfl
 rw [e2] at h ⊢
 rw [e1]
 by_cases h0 : chkSt s = 0
 ·rw [if_pos h0] at h ⊢
  rw [if_pos h0]
  rw [first_one] at h
  rw [if_neg h, first_one]
 ·rw [if_neg h0, if_neg h0]
theorem runX_ok (h : runX s t l = 0) : chkSt s = 0 ∧ (0 ≤ t ∧ t ≤ 999999999) ∧ chkS l = 0 := by
 obtain ⟨h1, h2, h3⟩ := first3c h
 exact ⟨h1, with_rng h2, h3⟩
theorem runP_bad (h : runX s t l ≠ 0) : runP s t l = ((zSt, 0, []), runX s t l) := by rw [runP, if_pos h]
theorem runP_ok (h : runX s t l = 0) : runP s t l = takes (s, t, []) (unrP l) := by rw [runP, if_neg (by rw [h]; simp)]
theorem runP_len (hl : l.length ≤ 10000000000000) : (runP s t l).1.2.2.length ≤ 1000 := by
 by_cases h : runX s t l = 0
 ·rw [runP_ok h]
  obtain ⟨h1, h2, h3⟩ := runX_ok h
  obtain ⟨h4, h5, h6, _⟩ := chkS_ok h3
  have := takes_okM (m := (s, t, [])) ⟨st_valid h1, h2.1, h2.2, Nat.zero_le _⟩ (unr_chk (wf_of h6) h5)
  exact this.2.2.2
 ·rw [runP_bad h]; simp
end
end Go.Lens.Tm
end
section
namespace Go.Lens.Tm
open Go.Lens.Tb Go.Proofs
variable [Lz]
set_option linter.unusedSectionVars false
set_option maxRecDepth 100000
attribute [local irreducible] TK PK T RG EfR Body
theorem ag220 : aggT tab 220 = some true := by kernel_rfl
theorem ag89 : aggT tab 89 = some true := by kernel_rfl
theorem ag90 : aggT tab 90 = some false := by kernel_rfl
theorem fa220_0 : fadQ tab 220 0 = some 0 := by kernel_rfl
theorem fa220_1 : fadQ tab 220 1 = some 4 := by kernel_rfl
theorem fa220_2 : fadQ tab 220 2 = some 5 := by kernel_rfl
theorem fa220_3 : fadQ tab 220 3 = some 6 := by kernel_rfl
theorem sz220 : szT tab 220 = some 7 := by kernel_rfl
theorem sz89 : szT tab 89 = some 4 := by kernel_rfl
theorem sz90 : szT tab 90 = some 1 := by kernel_rfl
theorem fq89 : flatEq tab 89 = some [.string, .int (.i64), .bool, .bool] := by kernel_rfl
set_option maxHeartbeats 4000000 in
theorem w64 (l : List Cmd) (d : Nat) (hw : Wf d l) (hc : ∀ c ∈ l, chkC c = 0) (hl : l.length ≤ 64) (hd : d ≤ 4)
 (hrec : ∀ (b : List Cmd) (d1 : Nat), b.length < l.length → Wf d1 b → (∀ c ∈ b, chkC c = 0) → d1 ≤ 4 → CallOk Tryz.prog 64 [vL eC b] (lookM []) (vL eC (unrP b)) []) : CallOk Tryz.prog 64 [vL eC l] (lookM []) (vL eC (unrP l)) [] := by
 haveI := tab_ok
 obtain ⟨fn, f1, f2, f3, f4, _, f6⟩ := qf64
 refine callOk_of (Y := tab) (F := fn64) f1 (f2.trans rfl) f3 f4 f6 (Nat.le_of_ble_eq_true rfl) rfl ?_
 clear f1 f2 f3 f4 f6
 have hsl := wf_small hw hd hc hl
 have hul := (wf_unr_len hw hc).1
 show TK _ _ _ _ _ _ ⟨[(0, vL eC l)], []⟩
 refine At rfl ?_
 refine NR ⟨[(0, vL eC l)], []⟩ (sb rfl rfl rfl) rfl ?_
 refine RO (Body.nilS (enc := eC) rfl) ?_
 refine RN ?_
 refine Ap rfl ?_
 refine NR ⟨[(0, vL eC l)], []⟩ (sb rfl rfl rfl) rfl ?_
 refine RO (Body.adopt 4 3 115 rfl rfl) ?_
 refine RN ?_
 refine Ap rfl ?_
 refine NR ⟨[(0, vL eC l), (3, .aref 4 0)], [(4, .arr 0 3 115 (List.map eC []))]⟩ (sb rfl rfl rfl) rfl ?_
 refine ag rfl ?_
 refine RN ?_
 refine Ap rfl ?_
 refine TK.loop (α := Nat × Nat × List Cmd) (fun x => ⟨[(0, vL eC l), (3, .aref 4 x.2.1), (4, vI ((x.1 : Nat) : Int))], [(4, .arr x.2.1 3 115 (List.map eC x.2.2))]⟩) (fun x => x.1 ≤ l.length ∧ Wf d (List.drop x.1 l) ∧ x.2.2 ++ unrP (List.drop x.1 l) = unrP l) (fun x => l.length - x.1) (0, 0, []) ?_ (sb rfl rfl rfl) ?_
 · show 0 ≤ l.length ∧ Wf d (List.drop 0 l) ∧ [] ++ unrP (List.drop 0 l) = unrP l
   exact ⟨Nat.zero_le _, hw, rfl⟩
 rintro ⟨i, v, out⟩ hI0
 replace hI0 : i ≤ l.length ∧ Wf d (List.drop i l) ∧ out ++ unrP (List.drop i l) = unrP l := hI0
 have hol : out.length ≤ (unrP l).length := by rw [← hI0.2.2, List.length_append]; omega
 show TK _ _ _ _ _ _ ⟨[(0, vL eC l), (3, .aref 4 v), (4, vI i)], [(4, .arr v 3 115 (List.map eC out))]⟩
 refine At rfl ?_
 refine NR ⟨[(0, vL eC l), (3, .aref 4 v), (4, vI i)], [(4, .arr v 3 115 (List.map eC out))]⟩ (sb rfl rfl rfl) rfl ?_
 refine mv rfl ?_
 refine mv rfl ?_
 refine RO (Body.lenL rfl un83) ?_
 refine RO (Body.lss rfl rfl) ?_
 refine RN ?_
 refine Ap rfl ?_
 refine TK.norm ⟨[(0, vL eC l), (3, .aref 4 v), (4, vI i), (11, vB (decide ((i : Int) < (l.length : Int))))], [(4, .arr v 3 115 (List.map eC out))]⟩ (sb rfl rfl rfl) ?_
 refine TK.condP rfl (fun h1 => ?_) (fun h1 => ?_)
 ·
  refine At rfl ?_
  refine NR ⟨[(0, vL eC l), (3, .aref 4 v), (4, vI i)], [(4, .arr v 3 115 (List.map eC out))]⟩ (sb rfl rfl rfl) rfl ?_
  refine mv rfl ?_
  refine mv rfl ?_
  refine RO (Body.idx (z := z3) (i := i) rfl rfl un83 sz115 (fun _ => rfl) rfl (by omega)) ?_
  refine RO (Body.fadP rfl fa115_0 rfl) ?_
  refine RO (Body.loadP rfl ag9 sz9) ?_
  refine RO (Body.sneB (a := (List.getD l i z3).1) (b := [114, 101, 112, 101, 97, 116]) rfl rfl) ?_
  refine RN ?_
  refine Ap rfl ?_
  refine TK.norm ⟨[(0, vL eC l), (3, .aref 4 v), (4, vI i), (19, vB (decide ((List.getD l i z3).1 ≠ [114, 101, 112, 101, 97, 116])))], [(4, .arr v 3 115 (List.map eC out))]⟩ (sb rfl rfl rfl) ?_
  refine TK.condP rfl (fun h2 => ?_) (fun h2 => ?_)
  ·
   refine At rfl ?_
   refine NR ⟨[(0, vL eC l), (3, .aref 4 v), (4, vI i)], [(4, .arr v 3 115 (List.map eC out))]⟩ (sb rfl rfl rfl) rfl ?_
   refine rn rfl ?_
   refine mv rfl ?_
   refine mv rfl ?_
   refine RO (Body.idx (z := z3) (i := i) rfl rfl un83 sz115 (fun _ => rfl) rfl (by omega)) ?_
   refine RO (Body.loadA (ds := [pS (bsO (List.getD l i z3).1), pS (bsO (Prod.fst (Prod.snd (List.getD l i z3)))), pI (Prod.snd (Prod.snd (List.getD l i z3)))]) rfl ag115 sz115 (Nat.le_of_ble_eq_true rfl) rfl) ?_
   refine RO (Body.runZ (val := .pv (.slice (List.map eC [(List.getD l i z3)]))) rfl (fun l => Frz.arr l _ _ _ _ _) rfl) ?_
   refine RO (Body.append rfl rfl rfl un83 in115 rfl (fun _ => rfl) by115 (by (simp only [List.length_append, List.length_cons, List.length_nil]; omega))) ?_
   refine rn rfl ?_
   refine RN ?_
   refine Ap rfl ?_
   refine TK.exit ?_
   refine PK.exit rfl ?_
   refine Ap rfl ?_
   refine NR ⟨[(0, vL eC l), (3, .aref 4 (v + 1)), (4, vI i)], [(4, .arr (v + 1) 3 115 (List.map eC (out ++ [(List.getD l i z3)])))]⟩ (sb rfl rfl rfl) rfl ?_
   refine mv rfl ?_
   refine RO (Body.add rfl rfl (by unfold R64; omega)) ?_
   refine ag rfl ?_
   refine RN ?_
   refine Aq rfl ?_
   refine PK.lp ?_
   refine LP.mk ((i + 1), (v + 1), (out ++ [(List.getD l i z3)])) ?_ ?_ (sb rfl rfl rfl)
   · show (i + 1) ≤ l.length ∧ Wf d (List.drop (i + 1) l) ∧ (out ++ [(List.getD l i z3)]) ++ unrP (List.drop (i + 1) l) = unrP l
     exact ⟨by omega, (wf_next hI0.2.1 (by omega) h2).2.1, by rw [← hI0.2.2, wf_next_unr hI0.2.1 (by omega) h2]; simp⟩
   · show l.length - (i + 1) < l.length - i
     omega
  ·
   refine At rfl ?_
   refine NR ⟨[(0, vL eC l), (3, .aref 4 v), (4, vI i)], [(4, .arr v 3 115 (List.map eC out))]⟩ (sb rfl rfl rfl) rfl ?_
   refine mv rfl ?_
   refine mv rfl ?_
   refine RO (Body.call (w138 l i (by omega) (by omega)) rfl rfl rfl) ?_
   refine ag rfl ?_
   refine RN ?_
   refine Ap rfl ?_
   refine TK.norm ⟨[(0, vL eC l), (3, .aref 4 v), (4, vI i), (5, vI ((matGo 0 i (List.drop i l) : Nat) : Int))], [(4, .arr v 3 115 (List.map eC out))]⟩ (sb rfl rfl rfl) ?_
   have hrp := Decidable.not_not.1 h2
   obtain ⟨d1, e, hde, he, he1, he2, hwb, hwr, hle⟩ := wf_at hI0.2.1 (by omega) hrp
   have hue := wf_at_unr hI0.2.1 (by omega) hrp
   rw [← he] at hue
   rw [← he]
   have hcb : ∀ c ∈ List.drop (i + 1) (List.take e l), chkC c = 0 := fun c h => hc c (List.mem_of_mem_take (List.mem_of_mem_drop h))
   have hbl : (List.drop (i + 1) (List.take e l)).length < l.length := by rw [List.length_drop, List.length_take]; omega
   have hcn := cnt_rep (hc _ (getD_mem (z := z3) (k := i) (by omega))) hrp
   refine TK.rg (Y := tab) mixed rfl ?_
   refine mv rfl ?_
   refine mv rfl ?_
   refine RO (Body.add rfl rfl (by unfold R64; omega)) ?_
   refine mv rfl ?_
   refine RO (Body.slTD (i := (i + 1)) (j := e) rfl rfl rfl un83 sz115 (fun _ => rfl) (by omega) rfl (by omega) (by omega)) ?_
   refine RO (Body.call (hrec _ d1 hbl hwb hcb (by omega)) rfl rfl rfl) ?_
   refine ag rfl ?_
   refine RN ?_
   refine Ap rfl ?_
   refine NR ⟨[(0, vL eC l), (3, .aref 4 v), (4, vI i), (5, vI e), (6, vL eC (unrP (List.drop (i + 1) (List.take e l))))], [(4, .arr v 3 115 (List.map eC out))]⟩ (sb rfl rfl rfl) rfl ?_
   refine ag rfl ?_
   refine RN ?_
   refine Ap rfl ?_
   refine TK.loop (α := Nat × Nat × List Cmd) (fun x => ⟨[(0, vL eC l), (3, .aref 4 x.2.1), (4, vI i), (5, vI e), (6, vL eC (unrP (List.drop (i + 1) (List.take e l)))), (7, vI ((x.1 : Nat) : Int))], [(4, .arr x.2.1 3 115 (List.map eC x.2.2))]⟩) (fun x => x.1 ≤ (List.getD l i z3).2.2.toNat ∧ x.2.2 = out ++ tms x.1 (unrP (List.drop (i + 1) (List.take e l)))) (fun x => (List.getD l i z3).2.2.toNat - x.1) (0, v, out) ?_ (sb rfl rfl rfl) ?_
   · show 0 ≤ (List.getD l i z3).2.2.toNat ∧ out = out ++ tms 0 (unrP (List.drop (i + 1) (List.take e l)))
     exact ⟨Nat.zero_le _, by rw [tms_zero, List.append_nil]⟩
   rintro ⟨j, u, o2⟩ hI1
   replace hI1 : j ≤ (List.getD l i z3).2.2.toNat ∧ o2 = out ++ tms j (unrP (List.drop (i + 1) (List.take e l))) := hI1
   show TK _ _ _ _ _ _ ⟨[(0, vL eC l), (3, .aref 4 u), (4, vI i), (5, vI e), (6, vL eC (unrP (List.drop (i + 1) (List.take e l)))), (7, vI j)], [(4, .arr u 3 115 (List.map eC o2))]⟩
   refine At rfl ?_
   refine NR ⟨[(0, vL eC l), (3, .aref 4 u), (4, vI i), (5, vI e), (6, vL eC (unrP (List.drop (i + 1) (List.take e l)))), (7, vI j)], [(4, .arr u 3 115 (List.map eC o2))]⟩ (sb rfl rfl rfl) rfl ?_
   refine mv rfl ?_
   refine mv rfl ?_
   refine mv rfl ?_
   refine RO (Body.idx (z := z3) (i := i) rfl rfl un83 sz115 (fun _ => rfl) rfl (by omega)) ?_
   refine RO (Body.fadP rfl fa115_2 rfl) ?_
   refine RO (Body.loadP rfl ag3 sz3) ?_
   refine RO (Body.lss rfl rfl) ?_
   refine RN ?_
   refine Ap rfl ?_
   refine TK.norm ⟨[(0, vL eC l), (3, .aref 4 u), (4, vI i), (5, vI e), (6, vL eC (unrP (List.drop (i + 1) (List.take e l)))), (7, vI j), (42, vB (decide ((j : Int) < (Prod.snd (Prod.snd (List.getD l i z3))))))], [(4, .arr u 3 115 (List.map eC o2))]⟩ (sb rfl rfl rfl) ?_
   refine TK.condP rfl (fun h3 => ?_) (fun h3 => ?_)
   ·
    refine At rfl ?_
    refine TK.norm ⟨[(0, vL eC l), (3, .aref 4 u), (4, vI i), (5, vI e), (6, vL eC (unrP (List.drop (i + 1) (List.take e l)))), (7, vI j)], [(4, .arr u 3 115 (List.map eC o2))]⟩ (sb rfl rfl rfl) ?_
    have hbd := unr_bd hI0.2.2 hue hI1.2 (by omega)
    refine TK.rg (Y := tab) mixed rfl ?_
    refine rn rfl ?_
    refine mv rfl ?_
    refine RO (Body.append rfl rfl rfl un83 in115 rfl (fun _ => rfl) by115 (by omega)) ?_
    refine rn rfl ?_
    refine RN ?_
    refine Ap rfl ?_
    refine NR ⟨[(0, vL eC l), (3, .aref 4 (u + 1)), (4, vI i), (5, vI e), (6, vL eC (unrP (List.drop (i + 1) (List.take e l)))), (7, vI j)], [(4, .arr (u + 1) 3 115 (List.map eC (o2 ++ (unrP (List.drop (i + 1) (List.take e l))))))]⟩ (sb rfl rfl rfl) rfl ?_
    refine mv rfl ?_
    refine RO (Body.add rfl rfl (by unfold R64; omega)) ?_
    refine ag rfl ?_
    refine RN ?_
    refine Aq rfl ?_
    refine PK.lp ?_
    refine LP.mk ((j + 1), (u + 1), (o2 ++ (unrP (List.drop (i + 1) (List.take e l))))) ?_ ?_ (sb rfl rfl rfl)
    · show (j + 1) ≤ (List.getD l i z3).2.2.toNat ∧ (o2 ++ (unrP (List.drop (i + 1) (List.take e l)))) = out ++ tms (j + 1) (unrP (List.drop (i + 1) (List.take e l)))
      exact ⟨by omega, by rw [hI1.2, tms_succ, List.append_assoc]⟩
    · show (List.getD l i z3).2.2.toNat - (j + 1) < (List.getD l i z3).2.2.toNat - j
      omega
   ·
    refine At rfl ?_
    refine TK.exit ?_
    refine PK.exit rfl ?_
    refine Ap rfl ?_
    refine NR ⟨[(0, vL eC l), (3, .aref 4 u), (5, vI e)], [(4, .arr u 3 115 (List.map eC o2))]⟩ (sb rfl rfl rfl) rfl ?_
    refine mv rfl ?_
    refine ag rfl ?_
    refine RN ?_
    refine Ap rfl ?_
    refine NR ⟨[(0, vL eC l), (3, .aref 4 u), (4, vI e)], [(4, .arr u 3 115 (List.map eC o2))]⟩ (sb rfl rfl rfl) rfl ?_
    refine mv rfl ?_
    refine RO (Body.add rfl rfl (by unfold R64; omega)) ?_
    refine ag rfl ?_
    refine RN ?_
    refine Aq rfl ?_
    refine PK.lp ?_
    refine LP.mk ((e + 1), u, o2) ?_ ?_ (sb rfl rfl rfl)
    · show (e + 1) ≤ l.length ∧ Wf d (List.drop (e + 1) l) ∧ o2 ++ unrP (List.drop (e + 1) l) = unrP l
      exact ⟨by omega, hwr, by rw [← hI0.2.2, hue, hI1.2, show j = (List.getD l i z3).2.2.toNat by omega, List.append_assoc]⟩
    · show l.length - (e + 1) < l.length - i
      omega
 ·
  refine At rfl ?_
  refine TK.exit ?_
  refine PK.exit rfl ?_
  refine Ap rfl ?_
  refine TK.norm ⟨[(3, .aref 4 v)], [(4, .arr v 3 115 (List.map eC out))]⟩ (sb rfl rfl rfl) ?_
  refine TK.frz (t := 3) rfl rfl ?_
  refine NR ⟨[(3, vL eC out)], []⟩ (sb rfl rfl rfl) rfl ?_
  refine mv rfl ?_
  refine ag rfl ?_
  refine RN ?_
  refine Ap rfl ?_
  refine TK.ret ?_
  refine PK.ret ?_
  refine leaf (val0 := vL eC out) (by kernel_rfl) ?_
  exact lsl (by have hz := hI0.2.2; rw [List.drop_of_length_le (by omega), unrP_nil, List.append_nil] at hz; exact hz)
theorem w64r : ∀ (n : Nat) (l : List Cmd) (d : Nat), l.length ≤ n → Wf d l → (∀ c ∈ l, chkC c = 0) → l.length ≤ 64 → d ≤ 4 → CallOk Tryz.prog 64 [vL eC l] (lookM []) (vL eC (unrP l)) []
 | 0, l, d, hn, hw, hc, hl, hd => w64 l d hw hc hl hd fun b d1 hb => absurd hb (by omega)
 | n + 1, l, d, hn, hw, hc, hl, hd => w64 l d hw hc hl hd fun b d1 hb hw1 hc1 hd1 => w64r n b d1 (by omega) hw1 hc1 (by omega) hd1
theorem w124r (hp : PowLaid) (hm : OrcOk Tryz.prog (mergeO 121)) : ∀ (n : Nat) (m : Mc) (l : List Cmd) (d : Nat), l.length ≤ n → OkM m → Wf d l → (∀ c ∈ l, chkC c = 0) → l.length ≤ 64 → d ≤ 4 → CallOk Tryz.prog 124 [.bref 11 0, vL eC l] (lookM (xS m)) (vI (takes m (unrP l)).2) (xO (takes m (unrP l)).1)
 | 0, m, l, d, hn, hok, hw, hc, hl, hd => w124 hp hm m l d hok hw hc hl hd fun b d1 m1 hb => absurd hb (by omega)
 | n + 1, m, l, d, hn, hok, hw, hc, hl, hd => w124 hp hm m l d hok hw hc hl hd fun b d1 m1 hb hw1 hc1 hd1 hok1 => w124r hp hm n m1 b d1 (by omega) hok1 hw1 hc1 (by omega) hd1
set_option maxHeartbeats 4000000 in
theorem w126 (hp : PowLaid) (hm : OrcOk Tryz.prog (mergeO 121)) (m : Mc) (l : List Cmd) (hok : OkM m) (hw : Wf 4 l) (hc : ∀ c ∈ l, chkC c = 0) (hl : l.length ≤ 64) : CallOk Tryz.prog 126 [.pv (gE m), vL eC l] (lookM []) (.tup [.pv (.agg [pS (bsO (Prod.fst (Prod.fst (takes m (unrP l)).1))), pI (Prod.fst (Prod.snd (Prod.fst (Prod.fst (takes m (unrP l)))))), pB (Prod.fst (Prod.snd (Prod.snd (Prod.fst (takes m (unrP l)).1)))), pB (Prod.snd (Prod.snd (Prod.snd (Prod.fst (takes m (unrP l)).1)))), pI (Prod.fst (Prod.snd (takes m (unrP l)).1)), pL eP (Prod.snd (Prod.snd (takes m (unrP l)).1)), pI 0]), vI (takes m (unrP l)).2]) [] := by
 haveI := tab_ok
 obtain ⟨fn, f1, f2, f3, f4, _, f6⟩ := qf126
 refine callOk_of (Y := tab) (F := fn126) f1 (f2.trans rfl) f3 f4 f6 (Nat.le_of_ble_eq_true rfl) rfl ?_
 clear f1 f2 f3 f4 f6
 have hcu := unr_chk hw hc
 have hul := (wf_unr_len hw hc).1
 have hsl := wf_small hw (by omega) hc hl
 show TK _ _ _ _ _ _ ⟨[(0, .pv (gE m)), (1, vL eC l)], []⟩
 refine At rfl ?_
 refine NR ⟨[(0, .pv (gE m)), (1, vL eC l)], []⟩ (sb rfl rfl rfl) rfl ?_
 refine rn rfl ?_
 refine RO (Body.runZ rfl (fun l => Frz.boxN l rfl) rfl) ?_
 refine ag rfl ?_
 refine RN ?_
 refine Ap rfl ?_
 refine NR ⟨[(1, vL eC l), (2, .bref 3 0), (4, .bref 5 0)], [(3, bE m), (5, .box 220 [vS ⟨#[]⟩, vI 0, vB false, vB false, vI 0, vL eP [], vI 0])]⟩ (sb rfl rfl rfl) rfl ?_
 refine mv rfl ?_
 refine RO (Body.call (w64r l.length l 4 (Nat.le_refl _) hw hc hl (by omega)) rfl rfl rfl) ?_
 refine ag rfl ?_
 refine RN ?_
 refine Ap rfl ?_
 refine NR ⟨[(2, .bref 3 0), (4, .bref 5 0), (6, vL eC (unrP l))], [(3, bE m), (5, .box 220 [vS ⟨#[]⟩, vI 0, vB false, vB false, vI 0, vL eP [], vI 0])]⟩ (sb rfl rfl rfl) rfl ?_
 refine ag rfl ?_
 refine RN ?_
 refine Ap rfl ?_
 refine TK.loop (α := Nat × Mc) (fun x => ⟨[(2, .bref 3 0), (4, .bref 5 0), (6, vL eC (unrP l)), (7, vI ((x.1 : Nat) : Int))], [(3, bE x.2), (5, .box 220 [vS ⟨#[]⟩, vI 0, vB false, vB false, vI 0, vL eP [], vI 0])]⟩) (fun x => x.1 ≤ List.length (unrP l) ∧ OkM x.2 ∧ takes m (unrP l) = takes x.2 (List.drop x.1 (unrP l))) (fun x => List.length (unrP l) - x.1) (0, m) ?_ (sb rfl rfl rfl) ?_
 · show 0 ≤ List.length (unrP l) ∧ OkM m ∧ takes m (unrP l) = takes m (List.drop 0 (unrP l))
   exact ⟨Nat.zero_le _, hok, rfl⟩
 rintro ⟨i, a⟩ hI0
 replace hI0 : i ≤ List.length (unrP l) ∧ OkM a ∧ takes m (unrP l) = takes a (List.drop i (unrP l)) := hI0
 show TK _ _ _ _ _ _ ⟨[(2, .bref 3 0), (4, .bref 5 0), (6, vL eC (unrP l)), (7, vI i)], [(3, bE a), (5, .box 220 [vS ⟨#[]⟩, vI 0, vB false, vB false, vI 0, vL eP [], vI 0])]⟩
 refine At rfl ?_
 refine NR ⟨[(2, .bref 3 0), (4, .bref 5 0), (6, vL eC (unrP l)), (7, vI i)], [(3, bE a), (5, .box 220 [vS ⟨#[]⟩, vI 0, vB false, vB false, vI 0, vL eP [], vI 0])]⟩ (sb rfl rfl rfl) rfl ?_
 refine mv rfl ?_
 refine mv rfl ?_
 refine RO (Body.lenL rfl un83) ?_
 refine RO (Body.lss rfl rfl) ?_
 refine RN ?_
 refine Ap rfl ?_
 refine TK.norm ⟨[(2, .bref 3 0), (4, .bref 5 0), (6, vL eC (unrP l)), (7, vI i), (15, vB (decide ((i : Int) < ((List.length (unrP l) : Nat) : Int))))], [(3, bE a), (5, .box 220 [vS ⟨#[]⟩, vI 0, vB false, vB false, vI 0, vL eP [], vI 0])]⟩ (sb rfl rfl rfl) ?_
 refine TK.condP rfl (fun h1 => ?_) (fun h1 => ?_)
 ·
  refine At rfl ?_
  refine TK.norm ⟨[(2, .bref 3 0), (4, .bref 5 0), (6, vL eC (unrP l)), (7, vI i)], [(3, bE a), (5, .box 220 [vS ⟨#[]⟩, vI 0, vB false, vB false, vI 0, vL eP [], vI 0])]⟩ (sb rfl rfl rfl) ?_
  have hce := hcu _ (getD_mem (z := z3) (k := i) (show i < (unrP l).length by omega))
  have ho1 := hI0.2.1.2.1
  have ho2 := hI0.2.1.2.2.1
  have ho3 := hI0.2.1.2.2.2
  refine TK.rg (Y := tab) mixed rfl ?_
  refine mv rfl ?_
  refine mv rfl ?_
  refine RO (Body.idx (z := z3) (i := i) rfl rfl un83 sz115 (fun _ => rfl) rfl (by omega)) ?_
  refine RO (Body.fadP rfl fa115_0 rfl) ?_
  refine RO (Body.loadP rfl ag9 sz9) ?_
  refine RO (Body.seqB (a := (List.getD (unrP l) i z3).1) (b := [119, 97, 105, 116]) rfl rfl) ?_
  refine RN ?_
  refine Ap rfl ?_
  refine TK.norm ⟨[(2, .bref 3 0), (4, .bref 5 0), (6, vL eC (unrP l)), (7, vI i), (23, vB (decide ((List.getD (unrP l) i z3).1 = [119, 97, 105, 116])))], [(3, bE a), (5, .box 220 [vS ⟨#[]⟩, vI 0, vB false, vB false, vI 0, vL eP [], vI 0])]⟩ (sb rfl rfl rfl) ?_
  refine TK.condP rfl (fun h2 => ?_) (fun h2 => ?_)
  ·
   refine At rfl ?_
   refine TK.norm ⟨[(2, .bref 3 0), (4, .bref 5 0), (6, vL eC (unrP l)), (7, vI i)], [(3, bE a), (5, .box 220 [vS ⟨#[]⟩, vI 0, vB false, vB false, vI 0, vL eP [], vI 0])]⟩ (sb rfl rfl rfl) ?_
   have hcw := cnt_wait hce h2
   refine TK.rg (Y := tab) mixed rfl ?_
   refine RO (Body.fadB rfl fa220_1 rfl) ?_
   refine RO (Body.loadB rfl rfl rfl ag3 sz3 rfl) ?_
   refine mv rfl ?_
   refine mv rfl ?_
   refine RO (Body.idx (z := z3) (i := i) rfl rfl un83 sz115 (fun _ => rfl) rfl (by omega)) ?_
   refine RO (Body.fadP rfl fa115_2 rfl) ?_
   refine RO (Body.loadP rfl ag3 sz3) ?_
   refine RO (Body.add rfl rfl (by unfold R64; omega)) ?_
   refine RO (Body.gtr rfl rfl) ?_
   refine RG.nil (fun _ => by kernel_rfl) ?_
   refine Ap rfl ?_
   refine TK.norm ⟨[(2, .bref 3 0), (4, .bref 5 0), (6, vL eC (unrP l)), (7, vI i), (32, vB (decide (999999999 < (a.2.1 + (Prod.snd (Prod.snd (List.getD (unrP l) i z3)))))))], [(3, bE a), (5, .box 220 [vS ⟨#[]⟩, vI 0, vB false, vB false, vI 0, vL eP [], vI 0])]⟩ (sb rfl rfl rfl) ?_
   refine TK.condP rfl (fun h3 => ?_) (fun h3 => ?_)
   ·
    refine At rfl ?_
    refine NR ⟨[(2, .bref 3 0), (4, .bref 5 0)], [(3, bE a), (5, .box 220 [vS ⟨#[]⟩, vI 0, vB false, vB false, vI 0, vL eP [], vI 0])]⟩ (sb rfl rfl rfl) rfl ?_
    refine RO (Body.loadBA rfl rfl rfl ag220 sz220 rfl rfl) ?_
    refine rn rfl ?_
    refine ag rfl ?_
    refine RN ?_
    refine Ap rfl ?_
    refine TK.ret ?_
    refine PK.ret ?_
    refine leaf (val0 := .tup [.pv (gE a), vI 3]) (by kernel_rfl) ?_
    exact tup2 (lag (lcons (pls (by (rw [x_bad hI0.2.2 (by omega) (x_w3 h2 (by assumption)) (by simp)]))) (lcons (pli (by (rw [x_bad hI0.2.2 (by omega) (x_w3 h2 (by assumption)) (by simp)]))) (lcons (plb (by (rw [x_bad hI0.2.2 (by omega) (x_w3 h2 (by assumption)) (by simp)]))) (lcons (plb (by (rw [x_bad hI0.2.2 (by omega) (x_w3 h2 (by assumption)) (by simp)]))) (lcons (pli (by (rw [x_bad hI0.2.2 (by omega) (x_w3 h2 (by assumption)) (by simp)]))) (lcons (plsl (by (rw [x_bad hI0.2.2 (by omega) (x_w3 h2 (by assumption)) (by simp)]))) (lcons (rfl) rfl)))))))) (li (by (rw [x_bad hI0.2.2 (by omega) (x_w3 h2 (by assumption)) (by simp)])))
   ·
    refine At rfl ?_
    refine NR ⟨[(2, .bref 3 0), (4, .bref 5 0), (6, vL eC (unrP l)), (7, vI i)], [(3, bE a), (5, .box 220 [vS ⟨#[]⟩, vI 0, vB false, vB false, vI 0, vL eP [], vI 0])]⟩ (sb rfl rfl rfl) rfl ?_
    refine RO (Body.fadB rfl fa220_1 rfl) ?_
    refine RO (Body.loadB rfl rfl rfl ag3 sz3 rfl) ?_
    refine mv rfl ?_
    refine mv rfl ?_
    refine RO (Body.idx (z := z3) (i := i) rfl rfl un83 sz115 (fun _ => rfl) rfl (by omega)) ?_
    refine RO (Body.fadP rfl fa115_2 rfl) ?_
    refine RO (Body.loadP rfl ag3 sz3) ?_
    refine RO (Body.add rfl rfl (by unfold R64; omega)) ?_
    refine RO (Body.fadB rfl fa220_1 rfl) ?_
    refine rn rfl ?_
    refine RG.nil (fun _ => by kernel_rfl) ?_
    refine Ap rfl ?_
    refine TK.exit ?_
    refine PK.exit rfl ?_
    refine Ap rfl ?_
    refine NR ⟨[(2, .bref 3 0), (4, .bref 5 0), (6, vL eC (unrP l)), (7, vI i)], [(3, .box 220 [vS (bsO a.1.1), vI a.1.2.1, vB a.1.2.2.1, vB a.1.2.2.2, vI (a.2.1 + (Prod.snd (Prod.snd (List.getD (unrP l) i z3)))), vL eP a.2.2, vI 0]), (5, .box 220 [vS ⟨#[]⟩, vI 0, vB false, vB false, vI 0, vL eP [], vI 0])]⟩ (sb rfl rfl rfl) rfl ?_
    refine mv rfl ?_
    refine RO (Body.add rfl rfl (by unfold R64; omega)) ?_
    refine ag rfl ?_
    refine RN ?_
    refine Aq rfl ?_
    refine PK.lp ?_
    refine LP.mk ((i + 1), (a.1, (a.2.1 + (Prod.snd (Prod.snd (List.getD (unrP l) i z3)))), a.2.2)) ?_ ?_ (sb rfl rfl rfl)
    · show (i + 1) ≤ List.length (unrP l) ∧ OkM (a.1, (a.2.1 + (Prod.snd (Prod.snd (List.getD (unrP l) i z3)))), a.2.2) ∧ takes m (unrP l) = takes (a.1, (a.2.1 + (Prod.snd (Prod.snd (List.getD (unrP l) i z3)))), a.2.2) (List.drop (i + 1) (unrP l))
      exact x_next hI0.2 (by omega) hce (x_w0 h2 (by assumption))
    · show List.length (unrP l) - (i + 1) < List.length (unrP l) - i
      omega
  ·
   refine At rfl ?_
   refine NR ⟨[(2, .bref 3 0), (4, .bref 5 0), (6, vL eC (unrP l)), (7, vI i)], [(3, bE a), (5, .box 220 [vS ⟨#[]⟩, vI 0, vB false, vB false, vI 0, vL eP [], vI 0])]⟩ (sb rfl rfl rfl) rfl ?_
   refine RO (Body.fadB rfl fa220_3 rfl) ?_
   refine RO (Body.loadB rfl rfl rfl ag3 sz3 rfl) ?_
   refine RO (Body.fadB rfl fa220_2 rfl) ?_
   refine RO (Body.loadB rfl rfl rfl ag90 sz90 rfl) ?_
   refine RO (Body.lenL rfl un90) ?_
   refine RO (Body.add rfl rfl (by unfold R64; omega)) ?_
   refine RO (Body.geq rfl rfl) ?_
   refine RN ?_
   refine Ap rfl ?_
   refine TK.norm ⟨[(2, .bref 3 0), (4, .bref 5 0), (6, vL eC (unrP l)), (7, vI i), (49, vB (decide (1000 ≤ (0 + (a.2.2.length : Int)))))], [(3, bE a), (5, .box 220 [vS ⟨#[]⟩, vI 0, vB false, vB false, vI 0, vL eP [], vI 0])]⟩ (sb rfl rfl rfl) ?_
   refine TK.condP rfl (fun h4 => ?_) (fun h4 => ?_)
   ·
    refine At rfl ?_
    refine NR ⟨[(2, .bref 3 0), (4, .bref 5 0)], [(3, bE a), (5, .box 220 [vS ⟨#[]⟩, vI 0, vB false, vB false, vI 0, vL eP [], vI 0])]⟩ (sb rfl rfl rfl) rfl ?_
    refine RO (Body.loadBA rfl rfl rfl ag220 sz220 rfl rfl) ?_
    refine rn rfl ?_
    refine ag rfl ?_
    refine RN ?_
    refine Ap rfl ?_
    refine TK.ret ?_
    refine PK.ret ?_
    refine leaf (val0 := .tup [.pv (gE a), vI 5]) (by kernel_rfl) ?_
    exact tup2 (lag (lcons (pls (by (rw [x_bad hI0.2.2 (by omega) (t_5 h2 (by assumption)) (by simp)]))) (lcons (pli (by (rw [x_bad hI0.2.2 (by omega) (t_5 h2 (by assumption)) (by simp)]))) (lcons (plb (by (rw [x_bad hI0.2.2 (by omega) (t_5 h2 (by assumption)) (by simp)]))) (lcons (plb (by (rw [x_bad hI0.2.2 (by omega) (t_5 h2 (by assumption)) (by simp)]))) (lcons (pli (by (rw [x_bad hI0.2.2 (by omega) (t_5 h2 (by assumption)) (by simp)]))) (lcons (plsl (by (rw [x_bad hI0.2.2 (by omega) (t_5 h2 (by assumption)) (by simp)]))) (lcons (rfl) rfl)))))))) (li (by (rw [x_bad hI0.2.2 (by omega) (t_5 h2 (by assumption)) (by simp)])))
   ·
    refine At rfl ?_
    refine NR ⟨[(2, .bref 3 0), (4, .bref 5 0), (6, vL eC (unrP l)), (7, vI i)], [(3, bE a), (5, .box 220 [vS ⟨#[]⟩, vI 0, vB false, vB false, vI 0, vL eP [], vI 0])]⟩ (sb rfl rfl rfl) rfl ?_
    refine RO (Body.fadB rfl fa220_0 rfl) ?_
    refine RO (Body.loadBA rfl rfl rfl ag89 sz89 rfl rfl) ?_
    refine mv rfl ?_
    refine mv rfl ?_
    refine RO (Body.idx (z := z3) (i := i) rfl rfl un83 sz115 (fun _ => rfl) rfl (by omega)) ?_
    refine RO (Body.fadP rfl fa115_1 rfl) ?_
    refine RO (Body.loadP rfl ag9 sz9) ?_
    refine RO (Body.call (w184 hp hm hI0.2.1.1 (Prod.fst (Prod.snd (List.getD (unrP l) i z3)))) rfl rfl rfl) ?_
    refine rn rfl ?_
    refine rn rfl ?_
    refine rn rfl ?_
    refine rn rfl ?_
    refine rn rfl ?_
    refine ag rfl ?_
    refine RG.nil (fun _ => by kernel_rfl) ?_
    refine Ap rfl ?_
    refine NR ⟨[(2, .bref 3 0), (4, .bref 5 0), (6, vL eC (unrP l)), (7, vI i), (8, .bref 9 0), (9, vI (Prod.snd (actP a.1 (Prod.fst (Prod.snd (List.getD (unrP l) i z3))))))], [(3, bE a), (5, .box 220 [vS ⟨#[]⟩, vI 0, vB false, vB false, vI 0, vL eP [], vI 0]), (9, .box 89 [vS (bsO (Prod.fst (Prod.fst (actP a.1 (Prod.fst (Prod.snd (List.getD (unrP l) i z3))))))), vI (Prod.fst (Prod.snd (Prod.fst (actP a.1 (Prod.fst (Prod.snd (List.getD (unrP l) i z3))))))), vB (Prod.fst (Prod.snd (Prod.snd (Prod.fst (actP a.1 (Prod.fst (Prod.snd (List.getD (unrP l) i z3)))))))), vB (Prod.snd (Prod.snd (Prod.snd (Prod.fst (actP a.1 (Prod.fst (Prod.snd (List.getD (unrP l) i z3))))))))])]⟩ (sb rfl rfl rfl) rfl ?_
    refine mv rfl ?_
    refine RO (Body.neq rfl rfl) ?_
    refine RN ?_
    refine Ap rfl ?_
    refine TK.norm ⟨[(2, .bref 3 0), (4, .bref 5 0), (6, vL eC (unrP l)), (7, vI i), (8, .bref 9 0), (9, vI (Prod.snd (actP a.1 (Prod.fst (Prod.snd (List.getD (unrP l) i z3)))))), (63, vB (decide ((Prod.snd (actP a.1 (Prod.fst (Prod.snd (List.getD (unrP l) i z3))))) ≠ 0)))], [(3, bE a), (5, .box 220 [vS ⟨#[]⟩, vI 0, vB false, vB false, vI 0, vL eP [], vI 0]), (9, .box 89 [vS (bsO (Prod.fst (Prod.fst (actP a.1 (Prod.fst (Prod.snd (List.getD (unrP l) i z3))))))), vI (Prod.fst (Prod.snd (Prod.fst (actP a.1 (Prod.fst (Prod.snd (List.getD (unrP l) i z3))))))), vB (Prod.fst (Prod.snd (Prod.snd (Prod.fst (actP a.1 (Prod.fst (Prod.snd (List.getD (unrP l) i z3)))))))), vB (Prod.snd (Prod.snd (Prod.snd (Prod.fst (actP a.1 (Prod.fst (Prod.snd (List.getD (unrP l) i z3))))))))])]⟩ (sb rfl rfl rfl) ?_
    refine TK.condP rfl (fun h5 => ?_) (fun h5 => ?_)
    ·
     refine At rfl ?_
     refine NR ⟨[(2, .bref 3 0), (4, .bref 5 0), (9, vI (Prod.snd (actP a.1 (Prod.fst (Prod.snd (List.getD (unrP l) i z3))))))], [(3, bE a), (5, .box 220 [vS ⟨#[]⟩, vI 0, vB false, vB false, vI 0, vL eP [], vI 0])]⟩ (sb rfl rfl rfl) rfl ?_
     refine RO (Body.loadBA rfl rfl rfl ag220 sz220 rfl rfl) ?_
     refine mv rfl ?_
     refine rn rfl ?_
     refine ag rfl ?_
     refine RN ?_
     refine Ap rfl ?_
     refine TK.ret ?_
     refine PK.ret ?_
     refine leaf (val0 := .tup [.pv (gE a), vI (Prod.snd (actP a.1 (Prod.fst (Prod.snd (List.getD (unrP l) i z3)))))]) (by kernel_rfl) ?_
     exact tup2 (lag (lcons (pls (by (rw [x_bad hI0.2.2 (by omega) (t_e h2 (by assumption) (by assumption)) (by assumption)]))) (lcons (pli (by (rw [x_bad hI0.2.2 (by omega) (t_e h2 (by assumption) (by assumption)) (by assumption)]))) (lcons (plb (by (rw [x_bad hI0.2.2 (by omega) (t_e h2 (by assumption) (by assumption)) (by assumption)]))) (lcons (plb (by (rw [x_bad hI0.2.2 (by omega) (t_e h2 (by assumption) (by assumption)) (by assumption)]))) (lcons (pli (by (rw [x_bad hI0.2.2 (by omega) (t_e h2 (by assumption) (by assumption)) (by assumption)]))) (lcons (plsl (by (rw [x_bad hI0.2.2 (by omega) (t_e h2 (by assumption) (by assumption)) (by assumption)]))) (lcons (rfl) rfl)))))))) (li (by (rw [x_bad hI0.2.2 (by omega) (t_e h2 (by assumption) (by assumption)) (by assumption)])))
    ·
     refine At rfl ?_
     refine NR ⟨[(2, .bref 3 0), (4, .bref 5 0), (6, vL eC (unrP l)), (7, vI i), (8, .bref 9 0)], [(3, bE a), (5, .box 220 [vS ⟨#[]⟩, vI 0, vB false, vB false, vI 0, vL eP [], vI 0]), (9, .box 89 [vS (bsO (Prod.fst (Prod.fst (actP a.1 (Prod.fst (Prod.snd (List.getD (unrP l) i z3))))))), vI (Prod.fst (Prod.snd (Prod.fst (actP a.1 (Prod.fst (Prod.snd (List.getD (unrP l) i z3))))))), vB (Prod.fst (Prod.snd (Prod.snd (Prod.fst (actP a.1 (Prod.fst (Prod.snd (List.getD (unrP l) i z3)))))))), vB (Prod.snd (Prod.snd (Prod.snd (Prod.fst (actP a.1 (Prod.fst (Prod.snd (List.getD (unrP l) i z3))))))))])]⟩ (sb rfl rfl rfl) rfl ?_
     refine RO (Body.loadBA rfl rfl rfl ag89 sz89 rfl rfl) ?_
     refine RO (Body.fadB rfl fa220_0 rfl) ?_
     refine rn rfl ?_
     refine RN ?_
     refine Ap rfl ?_
     refine NR ⟨[(2, .bref 3 0), (4, .bref 5 0), (6, vL eC (unrP l)), (7, vI i)], [(3, .box 220 [vS (bsO (Prod.fst (Prod.fst (actP a.1 (Prod.fst (Prod.snd (List.getD (unrP l) i z3))))))), vI (Prod.fst (Prod.snd (Prod.fst (actP a.1 (Prod.fst (Prod.snd (List.getD (unrP l) i z3))))))), vB (Prod.fst (Prod.snd (Prod.snd (Prod.fst (actP a.1 (Prod.fst (Prod.snd (List.getD (unrP l) i z3)))))))), vB (Prod.snd (Prod.snd (Prod.snd (Prod.fst (actP a.1 (Prod.fst (Prod.snd (List.getD (unrP l) i z3)))))))), vI a.2.1, vL eP a.2.2, vI 0]), (5, .box 220 [vS ⟨#[]⟩, vI 0, vB false, vB false, vI 0, vL eP [], vI 0])]⟩ (sb rfl rfl rfl) rfl ?_
     refine rn rfl ?_
     refine RO (Body.fadB rfl fa220_2 rfl) ?_
     refine RO (Body.loadB rfl rfl rfl ag90 sz90 rfl) ?_
     refine RO (Body.append (enc := eP) (l := []) (r := a.2.2) rfl rfl rfl un90 in176 rfl (fun _ => rfl) by176 (by (simp only [List.length_append, List.length_cons, List.length_nil]; omega))) ?_
     refine RO (Body.fadB rfl fa220_1 rfl) ?_
     refine RO (Body.loadB rfl rfl rfl ag3 sz3 rfl) ?_
     refine mv rfl ?_
     refine mv rfl ?_
     refine RO (Body.idx (z := z3) (i := i) rfl rfl un83 sz115 (fun _ => rfl) rfl (by omega)) ?_
     refine RO (Body.fadP rfl fa115_1 rfl) ?_
     refine RO (Body.loadP rfl ag9 sz9) ?_
     refine rn rfl ?_
     refine RO (Body.runZ (val := .pv (.slice (List.map eP [(a.2.1, (Prod.fst (Prod.snd (List.getD (unrP l) i z3))))]))) rfl (fun l => Frz.arr l _ _ _ _ _) rfl) ?_
     refine RO (Body.append rfl rfl rfl un90 in176 rfl (fun _ => rfl) by176 (by (simp only [List.length_append, List.length_cons, List.length_nil]; omega))) ?_
     refine RO (Body.fadB rfl fa220_2 rfl) ?_
     refine RO (Body.storeR rfl rfl rfl rfl sz90 rfl rfl) ?_
     refine RG.nil (fun _ => by kernel_rfl) ?_
     refine Ap rfl ?_
     refine TK.norm ⟨[(2, .bref 3 0), (4, .bref 5 0), (6, vL eC (unrP l)), (7, vI i)], [(3, .box 220 [vS (bsO (Prod.fst (Prod.fst (actP a.1 (Prod.fst (Prod.snd (List.getD (unrP l) i z3))))))), vI (Prod.fst (Prod.snd (Prod.fst (actP a.1 (Prod.fst (Prod.snd (List.getD (unrP l) i z3))))))), vB (Prod.fst (Prod.snd (Prod.snd (Prod.fst (actP a.1 (Prod.fst (Prod.snd (List.getD (unrP l) i z3)))))))), vB (Prod.snd (Prod.snd (Prod.snd (Prod.fst (actP a.1 (Prod.fst (Prod.snd (List.getD (unrP l) i z3)))))))), vI a.2.1, .aref 69 ((0 + 1) + 1), vI 0]), (5, .box 220 [vS ⟨#[]⟩, vI 0, vB false, vB false, vI 0, vL eP [], vI 0]), (69, .arr ((0 + 1) + 1) 2 176 (List.map eP (a.2.2 ++ [(a.2.1, (Prod.fst (Prod.snd (List.getD (unrP l) i z3))))])))]⟩ (sb rfl rfl rfl) ?_
     refine TK.frzC (h := 3) (h2 := 69) rfl rfl rfl ?_
     refine NR ⟨[(2, .bref 3 0), (4, .bref 5 0), (6, vL eC (unrP l)), (7, vI i)], [(3, .box 220 [vS (bsO (Prod.fst (Prod.fst (actP a.1 (Prod.fst (Prod.snd (List.getD (unrP l) i z3))))))), vI (Prod.fst (Prod.snd (Prod.fst (actP a.1 (Prod.fst (Prod.snd (List.getD (unrP l) i z3))))))), vB (Prod.fst (Prod.snd (Prod.snd (Prod.fst (actP a.1 (Prod.fst (Prod.snd (List.getD (unrP l) i z3)))))))), vB (Prod.snd (Prod.snd (Prod.snd (Prod.fst (actP a.1 (Prod.fst (Prod.snd (List.getD (unrP l) i z3)))))))), vI a.2.1, vL eP (a.2.2 ++ [(a.2.1, (Prod.fst (Prod.snd (List.getD (unrP l) i z3))))]), vI 0]), (5, .box 220 [vS ⟨#[]⟩, vI 0, vB false, vB false, vI 0, vL eP [], vI 0])]⟩ (sb rfl rfl rfl) rfl ?_
     refine mv rfl ?_
     refine RO (Body.add rfl rfl (by unfold R64; omega)) ?_
     refine ag rfl ?_
     refine RN ?_
     refine Aq rfl ?_
     refine PK.lp ?_
     refine LP.mk ((i + 1), ((Prod.fst (actP a.1 (Prod.fst (Prod.snd (List.getD (unrP l) i z3))))), a.2.1, (a.2.2 ++ [(a.2.1, (Prod.fst (Prod.snd (List.getD (unrP l) i z3))))]))) ?_ ?_ (sb rfl rfl rfl)
     · show (i + 1) ≤ List.length (unrP l) ∧ OkM ((Prod.fst (actP a.1 (Prod.fst (Prod.snd (List.getD (unrP l) i z3))))), a.2.1, (a.2.2 ++ [(a.2.1, (Prod.fst (Prod.snd (List.getD (unrP l) i z3))))])) ∧ takes m (unrP l) = takes ((Prod.fst (actP a.1 (Prod.fst (Prod.snd (List.getD (unrP l) i z3))))), a.2.1, (a.2.2 ++ [(a.2.1, (Prod.fst (Prod.snd (List.getD (unrP l) i z3))))])) (List.drop (i + 1) (unrP l))
       exact x_next hI0.2 (by omega) hce (t_0 h2 (by assumption) (by assumption))
     · show List.length (unrP l) - (i + 1) < List.length (unrP l) - i
       omega
 ·
  refine At rfl ?_
  refine TK.exit ?_
  refine PK.exit rfl ?_
  refine Ap rfl ?_
  refine NR ⟨[(2, .bref 3 0), (4, .bref 5 0)], [(3, bE a), (5, .box 220 [vS ⟨#[]⟩, vI 0, vB false, vB false, vI 0, vL eP [], vI 0])]⟩ (sb rfl rfl rfl) rfl ?_
  refine RO (Body.loadBA rfl rfl rfl ag220 sz220 rfl rfl) ?_
  refine rn rfl ?_
  refine ag rfl ?_
  refine RN ?_
  refine Ap rfl ?_
  refine TK.ret ?_
  refine PK.ret ?_
  refine leaf (val0 := .tup [.pv (gE a), vI 0]) (by kernel_rfl) ?_
  exact tup2 (lag (lcons (pls (by (rw [x_end hI0.2.2 (by omega)]))) (lcons (pli (by (rw [x_end hI0.2.2 (by omega)]))) (lcons (plb (by (rw [x_end hI0.2.2 (by omega)]))) (lcons (plb (by (rw [x_end hI0.2.2 (by omega)]))) (lcons (pli (by (rw [x_end hI0.2.2 (by omega)]))) (lcons (plsl (by (rw [x_end hI0.2.2 (by omega)]))) (lcons (rfl) rfl)))))))) (li (by (rw [x_end hI0.2.2 (by omega)])))
set_option maxHeartbeats 4000000 in
theorem w49 (hp : PowLaid) (hm : OrcOk Tryz.prog (mergeO 121)) (s : LSt) (t : Int) (l : List Cmd) (hl : l.length ≤ 10000000000000) : CallOk Tryz.prog 49 [.pv (gS s), vI t, vL eC l] (lookM []) (.tup [.pv (.agg [pS (bsO (Prod.fst (Prod.fst (runP s t l).1))), pI (Prod.fst (Prod.snd (Prod.fst (Prod.fst (runP s t l))))), pB (Prod.fst (Prod.snd (Prod.snd (Prod.fst (runP s t l).1)))), pB (Prod.snd (Prod.snd (Prod.snd (Prod.fst (runP s t l).1))))]), vL eP (Prod.snd (Prod.snd (runP s t l).1)), vI (runP s t l).2]) [] := by
 haveI := tab_ok
 obtain ⟨fn, f1, f2, f3, f4, _, f6⟩ := qf49
 refine callOk_of (Y := tab) (F := fn49) f1 (f2.trans rfl) f3 f4 f6 (Nat.le_of_ble_eq_true rfl) rfl ?_
 clear f1 f2 f3 f4 f6
 show TK _ _ _ _ _ _ ⟨[(0, .pv (gS s)), (1, vI t), (2, vL eC l)], []⟩
 refine At rfl ?_
 refine NR ⟨[(0, .pv (gS s)), (1, vI t), (2, vL eC l)], []⟩ (sb rfl rfl rfl) rfl ?_
 refine rn rfl ?_
 refine rn rfl ?_
 refine RO (Body.nilS (enc := eP) rfl) ?_
 refine ag rfl ?_
 refine RN ?_
 refine Ap rfl ?_
 refine NR ⟨[(1, vI t), (2, vL eC l), (3, .bref 4 0), (6, .bref 7 0)], [(4, .box 89 [vS (bsO s.1), vI s.2.1, vB s.2.2.1, vB s.2.2.2]), (7, .box 89 [vS ⟨#[]⟩, vI 0, vB false, vB false])]⟩ (sb rfl rfl rfl) rfl ?_
 refine RO (Body.loadBA rfl rfl rfl ag89 sz89 rfl rfl) ?_
 refine RO (Body.call (w125 s) rfl rfl rfl) ?_
 refine ag rfl ?_
 refine RN ?_
 refine Ap rfl ?_
 refine NR ⟨[(1, vI t), (2, vL eC l), (3, .bref 4 0), (6, .bref 7 0), (9, vI (chkSt s))], [(4, .box 89 [vS (bsO s.1), vI s.2.1, vB s.2.2.1, vB s.2.2.2]), (7, .box 89 [vS ⟨#[]⟩, vI 0, vB false, vB false])]⟩ (sb rfl rfl rfl) rfl ?_
 refine mv rfl ?_
 refine RO (Body.eql rfl rfl) ?_
 refine mv rfl ?_
 refine RG.cons (EfR.sym rfl (fun hc => Body.move rfl) rfl) ?_
 refine RG.cons (EfR.sym rfl (fun hc => Body.call (w93 t 0 999999999) rfl (ds3 (ev1_gd rfl hc) rfl rfl) rfl) rfl) ?_
 refine RO (Body.pick rfl rfl rfl (gdB rfl) rfl (pick_and _)) ?_
 refine RN ?_
 refine Ap rfl ?_
 refine TK.norm ⟨[(1, vI t), (2, vL eC l), (3, .bref 4 0), (6, .bref 7 0), (9, vI (chkSt s)), (19, vB (bif (decide ((chkSt s) = 0)) then (outF t 0 999999999) else false))], [(4, .box 89 [vS (bsO s.1), vI s.2.1, vB s.2.2.1, vB s.2.2.2]), (7, .box 89 [vS ⟨#[]⟩, vI 0, vB false, vB false])]⟩ (sb rfl rfl rfl) ?_
 refine TK.condJ ⟨[(1, vI t), (2, vL eC l), (3, .bref 4 0), (6, .bref 7 0), (9, vI (runA s t))], [(4, .box 89 [vS (bsO s.1), vI s.2.1, vB s.2.2.1, vB s.2.2.2]), (7, .box 89 [vS ⟨#[]⟩, vI 0, vB false, vB false])]⟩ rfl rfl (fun h1 => ?_) (fun h1 => ?_) ?_
 ·
  refine At rfl ?_
  refine NR ⟨[(1, vI t), (2, vL eC l), (3, .bref 4 0), (6, .bref 7 0)], [(4, .box 89 [vS (bsO s.1), vI s.2.1, vB s.2.2.1, vB s.2.2.2]), (7, .box 89 [vS ⟨#[]⟩, vI 0, vB false, vB false])]⟩ (sb rfl rfl rfl) rfl ?_
  refine ag rfl ?_
  refine RN ?_
  refine Aq rfl ?_
  refine PK.lp ?_
  rw [runA_3 h1]
  exact sb rfl rfl rfl
 ·
  refine Au rfl ?_
  refine PK.lp ?_
  rw [runA_0 h1]
  exact sb rfl rfl rfl
 ·
  refine At rfl ?_
  refine NR ⟨[(1, vI t), (2, vL eC l), (3, .bref 4 0), (6, .bref 7 0), (9, vI (runA s t))], [(4, .box 89 [vS (bsO s.1), vI s.2.1, vB s.2.2.1, vB s.2.2.2]), (7, .box 89 [vS ⟨#[]⟩, vI 0, vB false, vB false])]⟩ (sb rfl rfl rfl) rfl ?_
  refine mv rfl ?_
  refine RO (Body.eql rfl rfl) ?_
  refine RN ?_
  refine Ap rfl ?_
  refine TK.norm ⟨[(1, vI t), (2, vL eC l), (3, .bref 4 0), (6, .bref 7 0), (9, vI (runA s t)), (21, vB (decide ((runA s t) = 0)))], [(4, .box 89 [vS (bsO s.1), vI s.2.1, vB s.2.2.1, vB s.2.2.2]), (7, .box 89 [vS ⟨#[]⟩, vI 0, vB false, vB false])]⟩ (sb rfl rfl rfl) ?_
  refine TK.condJ ⟨[(1, vI t), (2, vL eC l), (3, .bref 4 0), (6, .bref 7 0), (9, vI (runX s t l))], [(4, .box 89 [vS (bsO s.1), vI s.2.1, vB s.2.2.1, vB s.2.2.2]), (7, .box 89 [vS ⟨#[]⟩, vI 0, vB false, vB false])]⟩ rfl rfl (fun h2 => ?_) (fun h2 => ?_) ?_
  ·
   replace h2 := of_decide_eq_true h2
   refine At rfl ?_
   refine NR ⟨[(1, vI t), (2, vL eC l), (3, .bref 4 0), (6, .bref 7 0)], [(4, .box 89 [vS (bsO s.1), vI s.2.1, vB s.2.2.1, vB s.2.2.2]), (7, .box 89 [vS ⟨#[]⟩, vI 0, vB false, vB false])]⟩ (sb rfl rfl rfl) rfl ?_
   refine mv rfl ?_
   refine RO (Body.call (w56 l (by omega)) rfl rfl rfl) ?_
   refine ag rfl ?_
   refine RN ?_
   refine Aq rfl ?_
   refine PK.lp ?_
   rw [runX_1 h2]
   exact sb rfl rfl rfl
  ·
   replace h2 := of_decide_eq_false h2
   refine Au rfl ?_
   refine PK.lp ?_
   rw [runX_2 h2]
   exact sb rfl rfl rfl
  ·
   refine At rfl ?_
   refine NR ⟨[(1, vI t), (2, vL eC l), (3, .bref 4 0), (6, .bref 7 0), (9, vI (runX s t l))], [(4, .box 89 [vS (bsO s.1), vI s.2.1, vB s.2.2.1, vB s.2.2.2]), (7, .box 89 [vS ⟨#[]⟩, vI 0, vB false, vB false])]⟩ (sb rfl rfl rfl) rfl ?_
   refine mv rfl ?_
   refine RO (Body.neq rfl rfl) ?_
   refine RN ?_
   refine Ap rfl ?_
   refine TK.norm ⟨[(1, vI t), (2, vL eC l), (3, .bref 4 0), (6, .bref 7 0), (9, vI (runX s t l)), (25, vB (decide ((runX s t l) ≠ 0)))], [(4, .box 89 [vS (bsO s.1), vI s.2.1, vB s.2.2.1, vB s.2.2.2]), (7, .box 89 [vS ⟨#[]⟩, vI 0, vB false, vB false])]⟩ (sb rfl rfl rfl) ?_
   refine TK.condP rfl (fun h3 => ?_) (fun h3 => ?_)
   ·
    refine At rfl ?_
    refine NR ⟨[(6, .bref 7 0), (9, vI (runX s t l))], [(7, .box 89 [vS ⟨#[]⟩, vI 0, vB false, vB false])]⟩ (sb rfl rfl rfl) rfl ?_
    refine rn rfl ?_
    refine mv rfl ?_
    refine rn rfl ?_
    refine RO (Body.nilS (enc := eP) rfl) ?_
    refine ag rfl ?_
    refine RN ?_
    refine Ap rfl ?_
    refine TK.ret ?_
    refine PK.ret ?_
    refine leaf (val0 := .tup [.pv (.agg [pS ⟨#[]⟩, pI 0, pB false, pB false]), vL eP [], vI (runX s t l)]) (by kernel_rfl) ?_
    exact tup3 (lag (lcons (pls (by (rw [runP_bad h3]; rfl))) (lcons (pli (by (rw [runP_bad h3]; rfl))) (lcons (plb (by (rw [runP_bad h3]; rfl))) (lcons (plb (by (rw [runP_bad h3]; rfl))) rfl))))) (lsl (by (rw [runP_bad h3]))) (li (by (rw [runP_bad h3])))
   ·
    refine At rfl ?_
    refine TK.norm ⟨[(1, vI t), (2, vL eC l), (3, .bref 4 0), (6, .bref 7 0)], [(4, .box 89 [vS (bsO s.1), vI s.2.1, vB s.2.2.1, vB s.2.2.2]), (7, .box 89 [vS ⟨#[]⟩, vI 0, vB false, vB false])]⟩ (sb rfl rfl rfl) ?_
    have hz : runX s t l = 0 := Decidable.not_not.1 h3
    obtain ⟨hst, htr, hcs⟩ := runX_ok hz
    obtain ⟨hl64, hc, hd, hlp⟩ := chkS_ok hcs
    have hw := wf_of hd
    have hok : OkM (s, t, ([] : List Stp)) := ⟨st_valid hst, htr.1, htr.2, Nat.zero_le _⟩
    refine TK.rg (Y := tab) mixed rfl ?_
    refine RO (Body.loadBA rfl rfl rfl ag89 sz89 rfl rfl) ?_
    refine mv rfl ?_
    refine RO (Body.runZ (val := .pv (.agg [pS (bsO s.1), pI s.2.1, pB s.2.2.1, pB s.2.2.2, pI t, pL eP [], pI 0])) rfl (fun l => Frz.aggN l rfl) rfl) ?_
    refine mv rfl ?_
    refine RO (Body.call (w126 hp hm (s, t, []) l hok hw hc hl64) rfl rfl rfl) ?_
    refine rn rfl ?_
    refine rn rfl ?_
    refine rn rfl ?_
    refine RO (Body.runZ rfl (fun l => Frz.boxN l rfl) rfl) ?_
    refine rn rfl ?_
    refine ag rfl ?_
    refine RN ?_
    refine Ap rfl ?_
    refine NR ⟨[(6, .bref 7 0), (10, .bref 11 0), (11, vI (takes (s, t, []) (unrP l)).2)], [(7, .box 89 [vS ⟨#[]⟩, vI 0, vB false, vB false]), (11, .box 220 [vS (bsO (Prod.fst (Prod.fst (takes (s, t, []) (unrP l)).1))), vI (Prod.fst (Prod.snd (Prod.fst (Prod.fst (takes (s, t, []) (unrP l)))))), vB (Prod.fst (Prod.snd (Prod.snd (Prod.fst (takes (s, t, []) (unrP l)).1)))), vB (Prod.snd (Prod.snd (Prod.snd (Prod.fst (takes (s, t, []) (unrP l)).1)))), vI (Prod.fst (Prod.snd (takes (s, t, []) (unrP l)).1)), vL eP (Prod.snd (Prod.snd (takes (s, t, []) (unrP l)).1)), vI 0])]⟩ (sb rfl rfl rfl) rfl ?_
    refine RO (Body.fadB rfl fa220_0 rfl) ?_
    refine RO (Body.loadBA rfl rfl rfl ag89 sz89 rfl rfl) ?_
    refine RO (Body.fadB rfl fa220_2 rfl) ?_
    refine RO (Body.loadB rfl rfl rfl ag90 sz90 rfl) ?_
    refine mv rfl ?_
    refine rn rfl ?_
    refine ag rfl ?_
    refine ag rfl ?_
    refine RG.nil (fun _ => by kernel_rfl) ?_
    refine Ap rfl ?_
    refine TK.ret ?_
    refine PK.ret ?_
    refine leaf (val0 := .tup [.pv (.agg [pS (bsO (Prod.fst (Prod.fst (takes (s, t, []) (unrP l)).1))), pI (Prod.fst (Prod.snd (Prod.fst (Prod.fst (takes (s, t, []) (unrP l)))))), pB (Prod.fst (Prod.snd (Prod.snd (Prod.fst (takes (s, t, []) (unrP l)).1)))), pB (Prod.snd (Prod.snd (Prod.snd (Prod.fst (takes (s, t, []) (unrP l)).1))))]), vL eP (Prod.snd (Prod.snd (takes (s, t, []) (unrP l)).1)), vI (takes (s, t, []) (unrP l)).2]) (by kernel_rfl) ?_
    exact tup3 (lag (lcons (pls (by (rw [runP_ok hz]))) (lcons (pli (by (rw [runP_ok hz]))) (lcons (plb (by (rw [runP_ok hz]))) (lcons (plb (by (rw [runP_ok hz]))) rfl))))) (lsl (by (rw [runP_ok hz]))) (li (by (rw [runP_ok hz])))
set_option maxHeartbeats 4000000 in
theorem w48 (hp : PowLaid) (hm : OrcOk Tryz.prog (mergeO 121)) (s : LSt) (t : Int) (l : List Cmd) (hl : l.length ≤ 10000000000000) : CallOk Tryz.prog 48 [.pv (gS s), vI t, vL eC l] (lookM []) (.tup [.pv (.agg [pS (bsO (Prod.fst (Prod.fst (runP s t l).1))), pI (Prod.fst (Prod.snd (Prod.fst (Prod.fst (runP s t l))))), pB (Prod.fst (Prod.snd (Prod.snd (Prod.fst (runP s t l).1)))), pB (Prod.snd (Prod.snd (Prod.snd (Prod.fst (runP s t l).1))))]), vL eP (Prod.snd (Prod.snd (runP s t l).1)), vI (runP s t l).2]) [] := by
 haveI := tab_ok
 obtain ⟨fn, f1, f2, f3, f4, _, f6⟩ := qf48
 refine callOk_of (Y := tab) (F := fn48) f1 (f2.trans rfl) f3 f4 f6 (Nat.le_of_ble_eq_true rfl) rfl ?_
 clear f1 f2 f3 f4 f6
 show TK _ _ _ _ _ _ ⟨[(0, .pv (gS s)), (1, vI t), (2, vL eC l)], []⟩
 refine At rfl ?_
 refine NR ⟨[(0, .pv (gS s)), (1, vI t), (2, vL eC l)], []⟩ (sb rfl rfl rfl) rfl ?_
 refine rn rfl ?_
 refine rn rfl ?_
 refine RO (Body.nilS (enc := eP) rfl) ?_
 refine ag rfl ?_
 refine RN ?_
 refine Ap rfl ?_
 refine NR ⟨[(1, vI t), (2, vL eC l), (3, .bref 4 0), (6, .bref 7 0)], [(4, bS s), (7, .box 81 [vS ⟨#[]⟩, vI 0, vB false, vB false])]⟩ (sb rfl rfl rfl) rfl ?_
 refine RO (Body.loadBA rfl rfl rfl ag81 sz81 rfl rfl) ?_
 refine RO (Body.call (w123 s) rfl rfl rfl) ?_
 refine mv rfl ?_
 refine RO (Body.call (w99 t 0 999999999) rfl rfl rfl) ?_
 refine mv rfl ?_
 refine RO (Body.call (w59 l (by omega)) rfl rfl rfl) ?_
 refine RO (Body.runZ (val := .pv (.slice (List.map eI [(chkSt s), (withinF t 0 999999999), (chkS l)]))) rfl (fun l => Frz.arr l _ _ _ _ _) rfl) ?_
 refine RO (Body.call (w100 [(chkSt s), (withinF t 0 999999999), (chkS l)] (Nat.le_of_ble_eq_true rfl)) rfl rfl rfl) ?_
 refine ag rfl ?_
 refine RN ?_
 refine Ap rfl ?_
 refine NR ⟨[(1, vI t), (2, vL eC l), (3, .bref 4 0), (6, .bref 7 0), (9, vI (firstF [(chkSt s), (withinF t 0 999999999), (chkS l)]))], [(4, bS s), (7, .box 81 [vS ⟨#[]⟩, vI 0, vB false, vB false])]⟩ (sb rfl rfl rfl) rfl ?_
 refine mv rfl ?_
 refine RO (Body.neq rfl rfl) ?_
 refine RN ?_
 refine Ap rfl ?_
 refine TK.norm ⟨[(1, vI t), (2, vL eC l), (3, .bref 4 0), (6, .bref 7 0), (9, vI (firstF [(chkSt s), (withinF t 0 999999999), (chkS l)])), (21, vB (decide ((firstF [(chkSt s), (withinF t 0 999999999), (chkS l)]) ≠ 0)))], [(4, bS s), (7, .box 81 [vS ⟨#[]⟩, vI 0, vB false, vB false])]⟩ (sb rfl rfl rfl) ?_
 refine TK.condP rfl (fun h1 => ?_) (fun h1 => ?_)
 ·
  refine At rfl ?_
  refine NR ⟨[(6, .bref 7 0), (9, vI (firstF [(chkSt s), (withinF t 0 999999999), (chkS l)]))], [(7, .box 81 [vS ⟨#[]⟩, vI 0, vB false, vB false])]⟩ (sb rfl rfl rfl) rfl ?_
  refine rn rfl ?_
  refine mv rfl ?_
  refine rn rfl ?_
  refine RO (Body.nilS (enc := eP) rfl) ?_
  refine ag rfl ?_
  refine RN ?_
  refine Ap rfl ?_
  refine TK.ret ?_
  refine PK.ret ?_
  refine leaf (val0 := .tup [.pv (.agg [pS ⟨#[]⟩, pI 0, pB false, pB false]), vL eP [], vI (firstF [(chkSt s), (withinF t 0 999999999), (chkS l)])]) (by kernel_rfl) ?_
  exact tup3 (lag (lcons (pls (by (rw [runP_bad h1]; rfl))) (lcons (pli (by (rw [runP_bad h1]; rfl))) (lcons (plb (by (rw [runP_bad h1]; rfl))) (lcons (plb (by (rw [runP_bad h1]; rfl))) rfl))))) (lsl (by (rw [runP_bad h1]))) (li (by (rw [runP_bad h1]; rfl)))
 ·
  refine At rfl ?_
  refine TK.norm ⟨[(1, vI t), (2, vL eC l), (3, .bref 4 0), (6, .bref 7 0)], [(4, bS s), (7, .box 81 [vS ⟨#[]⟩, vI 0, vB false, vB false])]⟩ (sb rfl rfl rfl) ?_
  have hz : runX s t l = 0 := Decidable.not_not.1 h1
  obtain ⟨hst, htr, hcs⟩ := runX_ok hz
  obtain ⟨hl64, hc, hd, hlp⟩ := chkS_ok hcs
  have hw := wf_of hd
  have hok : OkM (s, t, ([] : List Stp)) := ⟨st_valid hst, htr.1, htr.2, Nat.zero_le _⟩
  refine TK.rg (Y := tab) mixed rfl ?_
  refine RO (Body.loadBA rfl rfl rfl ag81 sz81 rfl rfl) ?_
  refine mv rfl ?_
  refine RO (Body.of0 (val0 := .agg (List.map .pv [pS (bsO s.1), pI s.2.1, pB s.2.2.1, pB s.2.2.2, pI t, pI 0] ++ [.nils])) (m0 := []) (lo := 0) (nm := 0) (O0_ok _) (by intro z hz; have hz2 : z ∈ [Operand.tmp 24, Operand.tmp 25] := hz; simp only [List.mem_cons, List.not_mem_nil, or_false] at hz2; rcases hz2 with rfl | rfl <;> rfl) rfl (Frz.aggNil (h := 900) (sz := 2) (T := 164) [pS (bsO s.1), pI s.2.1, pB s.2.2.1, pB s.2.2.2, pI t, pI 0] rfl) rfl) ?_
  refine RO (Body.runZ rfl (fun l => Frz.boxN l rfl) rfl) ?_
  refine rn rfl ?_
  refine RN ?_
  refine Ap rfl ?_
  refine NR ⟨[(2, vL eC l), (6, .bref 7 0), (10, .bref 11 0)], [(7, .box 81 [vS ⟨#[]⟩, vI 0, vB false, vB false]), (11, .box 217 [vS (bsO s.1), vI s.2.1, vB s.2.2.1, vB s.2.2.2, vI t, vI 0, .aref 900 0]), (900, .arr 0 2 164 (List.map eP []))]⟩ (sb rfl rfl rfl) rfl ?_
  refine mv rfl ?_
  refine RO (Body.callS (l := xS (s, t, [])) (w124r hp hm l.length (s, t, []) l 4 (Nat.le_refl _) hok hw hc hl64 (by omega)) rfl rfl ⟨rfl, rfl, trivial⟩ rfl rfl) ?_
  refine ag rfl ?_
  refine RN ?_
  refine Ap rfl ?_
  refine NR ⟨[(6, .bref 7 0), (10, .bref 11 0), (11, vI (takes (s, t, []) (unrP l)).2)], [(7, .box 81 [vS ⟨#[]⟩, vI 0, vB false, vB false]), (11, .box 217 [vS (bsO (Prod.fst (Prod.fst (takes (s, t, []) (unrP l)).1))), vI (Prod.fst (Prod.snd (Prod.fst (Prod.fst (takes (s, t, []) (unrP l)))))), vB (Prod.fst (Prod.snd (Prod.snd (Prod.fst (takes (s, t, []) (unrP l)).1)))), vB (Prod.snd (Prod.snd (Prod.snd (Prod.fst (takes (s, t, []) (unrP l)).1)))), vI (Prod.fst (Prod.snd (takes (s, t, []) (unrP l)).1)), vI 0, .aref 900 (List.length (Prod.snd (Prod.snd (takes (s, t, []) (unrP l)).1)))]), (900, .arr (List.length (Prod.snd (Prod.snd (takes (s, t, []) (unrP l)).1))) 2 164 (List.map eP (Prod.snd (Prod.snd (takes (s, t, []) (unrP l)).1))))]⟩ (sb rfl rfl rfl) rfl ?_
  refine RO (Body.fadB rfl fa217_0 rfl) ?_
  refine rn rfl ?_
  refine RO (Body.fadB rfl fa217_3 rfl) ?_
  refine rn rfl ?_
  refine mv rfl ?_
  refine rn rfl ?_
  refine rn rfl ?_
  refine ag rfl ?_
  refine RG.nil (fun _ => by kernel_rfl) ?_
  refine Ap rfl ?_
  refine TK.frz (t := 7) rfl rfl ?_
  refine TK.norm ⟨[(6, .bref 7 0), (7, vL eP (Prod.snd (Prod.snd (takes (s, t, []) (unrP l)).1))), (8, vI (takes (s, t, []) (unrP l)).2)], [(7, .box 81 [vS (bsO (Prod.fst (Prod.fst (takes (s, t, []) (unrP l)).1))), vI (Prod.fst (Prod.snd (Prod.fst (Prod.fst (takes (s, t, []) (unrP l)))))), vB (Prod.fst (Prod.snd (Prod.snd (Prod.fst (takes (s, t, []) (unrP l)).1)))), vB (Prod.snd (Prod.snd (Prod.snd (Prod.fst (takes (s, t, []) (unrP l)).1))))])]⟩ (sb rfl rfl rfl) ?_
  refine TK.ret ?_
  refine PK.ret ?_
  refine leaf (val0 := .tup [.pv (.agg [pS (bsO (Prod.fst (Prod.fst (takes (s, t, []) (unrP l)).1))), pI (Prod.fst (Prod.snd (Prod.fst (Prod.fst (takes (s, t, []) (unrP l)))))), pB (Prod.fst (Prod.snd (Prod.snd (Prod.fst (takes (s, t, []) (unrP l)).1)))), pB (Prod.snd (Prod.snd (Prod.snd (Prod.fst (takes (s, t, []) (unrP l)).1))))]), vL eP (Prod.snd (Prod.snd (takes (s, t, []) (unrP l)).1)), vI (takes (s, t, []) (unrP l)).2]) (by kernel_rfl) ?_
  exact tup3 (lag (lcons (pls (by (rw [runP_ok hz]))) (lcons (pli (by (rw [runP_ok hz]))) (lcons (plb (by (rw [runP_ok hz]))) (lcons (plb (by (rw [runP_ok hz]))) rfl))))) (lsl (by (rw [runP_ok hz]))) (li (by (rw [runP_ok hz])))
set_option maxHeartbeats 4000000 in
theorem w6 (ha : CallOk Tryz.prog 19 [] (lookM []) (.pv (.lit (.bool true))) []) (hp : PowLaid) (hm : OrcOk Tryz.prog (mergeO 121)) (s : LSt) (t : Int) (l : List Cmd) (hl : l.length * 40 ≤ 140737488355328) : CallOk Tryz.prog 6 [.pv (gS s), vI t, vL eC l] (lookM []) (vB true) [] := by
 haveI := tab_ok
 obtain ⟨fn, f1, f2, f3, f4, _, f6⟩ := qf6
 refine callOk_of (Y := tab) (F := fn6) f1 (f2.trans rfl) f3 f4 f6 (Nat.le_of_ble_eq_true rfl) rfl ?_
 clear f1 f2 f3 f4 f6
 show TK _ _ _ _ _ _ ⟨[(0, .pv (gS s)), (1, vI t), (2, vL eC l)], []⟩
 refine At rfl ?_
 refine NR ⟨[(0, .pv (gS s)), (1, vI t), (2, vL eC l)], []⟩ (sb rfl rfl rfl) rfl ?_
 refine rn rfl ?_
 refine ag rfl ?_
 refine RN ?_
 refine Ap rfl ?_
 refine NR ⟨[(1, vI t), (2, vL eC l), (3, .bref 4 0)], [(4, bS s)]⟩ (sb rfl rfl rfl) rfl ?_
 refine mv rfl ?_
 refine RO (Body.call (w46 l (by omega)) rfl rfl rfl) ?_
 refine ag rfl ?_
 refine RN ?_
 refine Ap rfl ?_
 refine NR ⟨[(1, vI t), (2, vL eC l), (3, .bref 4 0), (7, vL eC l)], [(4, bS s)]⟩ (sb rfl rfl rfl) rfl ?_
 refine mv rfl ?_
 refine RO (Body.call (w47 l 12 (by omega)) rfl rfl rfl) ?_
 refine RO (Body.not rfl) ?_
 refine mv rfl ?_
 refine RG.cons (EfR.sym rfl (fun hc => Body.fadB rfl fa81_0 rfl) rfl) ?_
 refine RG.cons (EfR.sym rfl (fun hc => Body.loadB (ev1_gd rfl hc) rfl rfl ag9 sz9 rfl) rfl) ?_
 refine RG.cons (EfR.sym rfl (fun hc => Body.lenB (a := s.1) (ev1_gd rfl hc) un9) rfl) ?_
 refine RG.cons (EfR.sym rfl (fun hc => Body.gtr (ev1_gd rfl hc) rfl) rfl) ?_
 refine RO (Body.pick rfl rfl rfl rfl (gdB rfl) (pick_or _)) ?_
 refine RN ?_
 refine Ap rfl ?_
 refine TK.norm ⟨[(1, vI t), (2, vL eC l), (3, .bref 4 0), (7, vL eC l), (24, vB (bif (!(shortS l 12)) then true else (decide (40 < (s.1.length : Int)))))], [(4, bS s)]⟩ (sb rfl rfl rfl) ?_
 refine TK.cond rfl (fun h1 => ?_) (fun h1 => ?_)
 ·
  refine At rfl ?_
  refine NR ⟨[], []⟩ (sb rfl rfl rfl) rfl ?_
  refine RO (Body.call (ha) rfl rfl rfl) ?_
  refine ag rfl ?_
  refine RN ?_
  refine Ap rfl ?_
  refine TK.ret ?_
  refine PK.ret ?_
  refine leaf (val0 := vB true) (by kernel_rfl) ?_
  exact rfl
 ·
  refine At rfl ?_
  refine NR ⟨[(1, vI t), (2, vL eC l), (3, .bref 4 0), (7, vL eC l)], [(4, bS s)]⟩ (sb rfl rfl rfl) rfl ?_
  refine RO (Body.loadBA rfl rfl rfl ag81 sz81 rfl rfl) ?_
  refine mv rfl ?_
  refine mv rfl ?_
  refine RO (Body.call (w48 hp hm s t l (by omega)) rfl rfl rfl) ?_
  refine rn rfl ?_
  refine rn rfl ?_
  refine rn rfl ?_
  refine rn rfl ?_
  refine rn rfl ?_
  refine rn rfl ?_
  refine ag rfl ?_
  refine ag rfl ?_
  refine RN ?_
  refine Ap rfl ?_
  refine NR ⟨[(1, vI t), (3, .bref 4 0), (7, vL eC l), (8, .bref 9 0), (9, vL eP (Prod.snd (Prod.snd (runP s t l).1))), (10, vI (runP s t l).2)], [(4, bS s), (9, .box 81 [vS (bsO (Prod.fst (Prod.fst (runP s t l).1))), vI (Prod.fst (Prod.snd (Prod.fst (Prod.fst (runP s t l))))), vB (Prod.fst (Prod.snd (Prod.snd (Prod.fst (runP s t l).1)))), vB (Prod.snd (Prod.snd (Prod.snd (Prod.fst (runP s t l).1))))])]⟩ (sb rfl rfl rfl) rfl ?_
  refine RO (Body.loadBA rfl rfl rfl ag81 sz81 rfl rfl) ?_
  refine mv rfl ?_
  refine mv rfl ?_
  refine RO (Body.call (w49 hp hm s t l (by omega)) rfl rfl rfl) ?_
  refine rn rfl ?_
  refine rn rfl ?_
  refine rn rfl ?_
  refine rn rfl ?_
  refine rn rfl ?_
  refine rn rfl ?_
  refine ag rfl ?_
  refine ag rfl ?_
  refine RN ?_
  refine Ap rfl ?_
  refine TK.norm ⟨[(8, .bref 9 0), (9, vL eP (Prod.snd (Prod.snd (runP s t l).1))), (10, vI (runP s t l).2), (11, .bref 12 0), (12, vL eP (Prod.snd (Prod.snd (runP s t l).1))), (13, vI (runP s t l).2)], [(9, .box 81 [vS (bsO (Prod.fst (Prod.fst (runP s t l).1))), vI (Prod.fst (Prod.snd (Prod.fst (Prod.fst (runP s t l))))), vB (Prod.fst (Prod.snd (Prod.snd (Prod.fst (runP s t l).1)))), vB (Prod.snd (Prod.snd (Prod.snd (Prod.fst (runP s t l).1))))]), (12, .box 89 [vS (bsO (Prod.fst (Prod.fst (runP s t l).1))), vI (Prod.fst (Prod.snd (Prod.fst (Prod.fst (runP s t l))))), vB (Prod.fst (Prod.snd (Prod.snd (Prod.fst (runP s t l).1)))), vB (Prod.snd (Prod.snd (Prod.snd (Prod.fst (runP s t l).1))))])]⟩ (sb rfl rfl rfl) ?_
  have hrl := runP_len (s := s) (t := t) (l := l) (by omega)
  refine TK.rg (Y := tab) mixed rfl ?_
  refine RO (Body.loadBA rfl rfl rfl ag81 sz81 rfl rfl) ?_
  refine RO (Body.loadBA rfl rfl rfl ag89 sz89 rfl rfl) ?_
  refine RO (Body.stqE rfl rfl fq89 (eqv_cons eqv_s (eqv_cons eqv_i (eqv_cons eqv_b (eqv_last eqv_b))))) ?_
  refine mv rfl ?_
  refine RG.cons (EfR.sym rfl (fun hc => Body.move rfl) rfl) ?_
  refine RG.cons (EfR.sym rfl (fun hc => Body.call (w51 (Prod.snd (Prod.snd (runP s t l).1)) (by omega)) rfl (ds1 (ev1_gd rfl hc)) rfl) rfl) ?_
  refine RG.cons (EfR.sym rfl (fun hc => Body.move rfl) rfl) ?_
  refine RG.cons (EfR.sym rfl (fun hc => Body.call (w50 (Prod.snd (Prod.snd (runP s t l).1)) (Prod.snd (Prod.snd (runP s t l).1)) (by omega)) rfl (ds2 (ev1_gd rfl hc) (ev1_gd rfl hc)) rfl) rfl) ?_
  refine RO (Body.pick rfl rfl rfl (gdB rfl) rfl (pick_and _)) ?_
  refine mv rfl ?_
  refine RG.cons (EfR.sym rfl (fun hc => Body.move rfl) rfl) ?_
  refine RG.cons (EfR.sym rfl (fun hc => Body.move rfl) rfl) ?_
  refine RG.cons (EfR.sym rfl (fun hc => Body.eql (ev1_gd rfl hc) (ev1_gd rfl hc)) rfl) ?_
  refine RO (Body.pick rfl rfl rfl (gdB rfl) rfl (pick_and _)) ?_
  refine mv rfl ?_
  refine RG.cons (EfR.sym rfl (fun hc => Body.call (ha) rfl rfl rfl) rfl) ?_
  refine RO (Body.pick rfl rfl rfl (gdB rfl) rfl (pick_and _)) ?_
  refine ag rfl ?_
  refine RN ?_
  refine Ap rfl ?_
  refine TK.ret ?_
  refine PK.ret ?_
  refine leaf (val0 := vB (bif (bif (bif ((decide ((Prod.fst (Prod.fst (runP s t l).1)) = (Prod.fst (Prod.fst (runP s t l).1)))) && ((decide ((Prod.fst (Prod.snd (Prod.fst (Prod.fst (runP s t l))))) = (Prod.fst (Prod.snd (Prod.fst (Prod.fst (runP s t l))))))) && (((Prod.fst (Prod.snd (Prod.snd (Prod.fst (runP s t l).1)))) == (Prod.fst (Prod.snd (Prod.snd (Prod.fst (runP s t l).1))))) && ((Prod.snd (Prod.snd (Prod.snd (Prod.fst (runP s t l).1)))) == (Prod.snd (Prod.snd (Prod.snd (Prod.fst (runP s t l).1)))))))) then (decide ((Prod.snd (Prod.snd (runP s t l).1)) = (Prod.snd (Prod.snd (runP s t l).1)))) else false) then (decide ((runP s t l).2 = (runP s t l).2)) else false) then true else false)) (by kernel_rfl) ?_
  exact lb (by simp)
end Go.Lens.Tm
end
section
namespace Go.Proofs
open Go.Shelf
def Tryz.lays156_ren : Go.Shelf.Ren := ⟨fun | 156 => 169 | 165 => 242 | 166 => 157 | 169 => 158 | 240 => 218 | 241 => 284 | 276 => 281 | 277 => 308 | n => n, fun | 31 => 73 | 9 => 9 | 3 => 3 | 4 => 4 | 0 => 0 | 20 => 20 | 72 => 271 | 76 => 274 | 70 => 269 | 37 => 150 | 75 => 273 | 127 => 333 | 164 => 371 | 5 => 5 | 80 => 145 | n => n, fun | n => n⟩
theorem Tryz.lays156 : Go.Proofs.Lays.n156 Tryz.prog Tryz.lays156_ren := {
  mixed := by kernel_rfl
  f156 := Tryz.func169.trans (congrArg some (by kernel_rfl))
  f165 := Tryz.func242.trans (congrArg some (by kernel_rfl))
  f166 := Tryz.func157.trans (congrArg some (by kernel_rfl))
  f169 := Tryz.func158.trans (congrArg some (by kernel_rfl))
  f240 := Tryz.func218.trans (congrArg some (by kernel_rfl))
  f241 := Tryz.func284.trans (congrArg some (by kernel_rfl))
  f276 := Tryz.func281.trans (congrArg some (by kernel_rfl))
  f277 := Tryz.func308.trans (congrArg some (by kernel_rfl))
  t0 := Tryz.underlying0
  a0 := Tryz.isAgg0
  z0 := Tryz.sizeOf0
  v0 := Tryz.zeroValue0
  t3 := Tryz.underlying3
  a3 := Tryz.isAgg3
  z3 := Tryz.sizeOf3
  v3 := Tryz.zeroValue3
  t4 := Tryz.underlying4
  a4 := Tryz.isAgg4
  z4 := Tryz.sizeOf4
  v4 := Tryz.zeroValue4
  t9 := Tryz.underlying9
  a9 := Tryz.isAgg9
  z9 := Tryz.sizeOf9
  v9 := Tryz.zeroValue9
  t20 := Tryz.underlying20
  a20 := Tryz.isAgg20
  z20 := Tryz.sizeOf20
  v20 := Tryz.zeroValue20
  t31 := Tryz.underlying73
  a31 := Tryz.isAgg73
  z31 := Tryz.sizeOf73
  v31 := Tryz.zeroValue73
  t37 := Tryz.underlying150
  a37 := Tryz.isAgg150
  z37 := Tryz.sizeOf150
  v37 := Tryz.zeroValue150
  t70 := Tryz.underlying269
  a70 := Tryz.isAgg269
  z70 := Tryz.sizeOf269
  v70 := Tryz.zeroValue269
  t72 := Tryz.underlying271
  a72 := Tryz.isAgg271
  z72 := Tryz.sizeOf271
  v72 := Tryz.zeroValue271
  t75 := Tryz.underlying273
  a75 := Tryz.isAgg273
  z75 := Tryz.sizeOf273
  v75 := Tryz.zeroValue273
  t76 := Tryz.underlying274
  a76 := Tryz.isAgg274
  z76 := Tryz.sizeOf274
  v76 := Tryz.zeroValue274
  t127 := Tryz.underlying333
  a127 := Tryz.isAgg333
  z127 := Tryz.sizeOf333
  v127 := Tryz.zeroValue333
  t164 := Tryz.underlying371
  a164 := Tryz.isAgg371
  z164 := Tryz.sizeOf371
  v164 := Tryz.zeroValue371 }
theorem Tryz.Builder_Extra_156 : Builder.Extra Tryz.prog Tryz.lays156_ren := {
  sizeBuilder := by kernel_rfl
  liesBuilder := by kernel_rfl
  t5 := Tryz.underlying5
  a5 := Tryz.isAgg5
  z5 := Tryz.sizeOf5
  v5 := Tryz.zeroValue5
  infoByte := by kernel_rfl
  cellsByte := by kernel_rfl
  sizeByte := by kernel_rfl
  neB5 := by decide }
open Go.RowKit in
theorem Tryz.strings_Join_none (a : Option Addr) (c : Nat) (sep : ByteArray) (w : World) :
    Calls Tryz.prog 169 #[.slice a 0 c, .string sep] w fun e w' => e = .returned (.string ⟨#[]⟩) ∧ w' = w := Any.strings_Join_none Tryz.lays156 Tryz.Builder_Extra_156 a c sep w
open Go.RowKit in
theorem Tryz.strings_Join (bk o c : Nat) (xs : List ByteArray) (sep : ByteArray) (w : World) (hcells : ∀ (j : Nat) x, xs[j]? = some x → w.cell? ⟨bk, o + j, none⟩ = some (.string x)) (hbk : bk < w.heap.size) (hN : xs.length ≤ 140737488355328) (hcap : xs.length ≤ c) (hlen : (Lib.join (xs.map (·.data.toList)) sep.data.toList).length ≤ 140737488355328) :
    Calls Tryz.prog 169 #[.slice (some ⟨bk, o, none⟩) xs.length c, .string sep] w fun e w' => e = .returned (.string ⟨(Lib.join (xs.map (·.data.toList)) sep.data.toList).toArray⟩) ∧ Below w.heap.size w w' := Any.strings_Join Tryz.lays156 Tryz.Builder_Extra_156 bk o c xs sep w hcells hbk hN hcap hlen
end Go.Proofs
end
section
namespace Go.Lens.Tm
open Go.Lens.Tb Go.Proofs Go.RowKit
set_option linter.unusedSectionVars false
variable [Lz]
end Go.Lens.Tm
end
section
namespace Go.Lens.Tb
open Go.Proofs Go.Proofs.YtomghboflcafbaaGreatDoor Go.RowKit Go.ChangeShapes
set_option linter.unusedSectionVars false
set_option maxRecDepth 100000
theorem gPow : Tryz.prog.globalNamed "internal/strconv.uint64pow10" = some 3 := by kernel_rfl
theorem tPow : (Tryz.prog.globals[3]?).map (·.type) = some 434 := by kernel_rfl
theorem plainLaid : (Rows.nightRunsRow.laid.all fun x => x.2.handleName?.isNone) = true := by kernel_rfl
theorem powDatum : (Rows.laid_internal_strconv_uint64pow10 : DataW Unit) = Lib.tabData .u64 Lib.pow10Tab := by kernel_rfl
theorem pow_of {W : World} (h : laidMetH Tryz.prog Rows.nightRunsRow.laid W) : ∃ T fr, W.heap[3]? = some (.cells (Lib.pow10Tab.map fun z => Value.int .u64 z).toArray T fr) := by
  rw [MakeChecks.laidMetH_plain _ _ _ plainLaid] at h
  obtain ⟨ps, ⟨g0, t0, cs0, f0, p0, q0, _, _, _, _, ⟨g1, t1, cs1, f1, p1, q1, _, _, _, _, ⟨g2, t2, cs2, f2, p2, q2, hg, ht, hv, hd, _, _⟩, _⟩, _⟩, _, _⟩ := h
  obtain rfl := Option.some.inj (gPow.symm.trans hg)
  obtain rfl := Option.some.inj (tPow.symm.trans ht)
  have hd' : DataW.trod (fun _ => ()) Tryz.prog W 0 (fun _ => true) false f2 434 cs2.toList = some (Rows.laid_internal_strconv_uint64pow10, p2) := hd
  rw [powDatum] at hd'
  have hc := Lib.cells_of_tab Tryz.underlying434 Tryz.underlying406 (by kernel_rfl) (by kernel_rfl) hd'
  have hv' : (Tryz.prog.globalNamed "internal/strconv.uint64pow10").bind (fun g => match W.heap[g]? with | some (.cells cs _ _) => some cs | _ => none) = some cs2 := hv
  rw [gPow] at hv'
  simp only [Option.bind_some] at hv'
  split at hv'
  · rename_i cs T fr hb
    cases hv'
    refine ⟨T, fr, ?_⟩
    rw [hb, ← hc, Array.toArray_toList]
  · cases hv'
@[reducible] def lzOf (W : World) : Lz := ⟨fun b => if b = 3 then W.heap[3]? else none⟩
theorem lzOf_laid (W : World) : ∀ b o, (lzOf W).L b = some o → W.heap[b]? = some o := by
  intro b o h
  change (if b = 3 then W.heap[3]? else none) = some o at h
  split at h
  · rename_i e; subst e; exact h
  · cases h
theorem powLaid_of {W : World} (h : laidMetH Tryz.prog Rows.nightRunsRow.laid W) : @PowLaid (lzOf W) := by
  obtain ⟨T, fr, hb⟩ := pow_of h
  exact ⟨3, T, fr, gPow, hb⟩
theorem bs_back (s : ByteArray) : bsO s.data.toList = s := rfl
section
variable {H : Type} {enc : TypeId × Value → H} {w : World} {base : Nat} {spare : Nat → Bool} {held : Bool}
theorem read_cmd {n : Nat} {c : List Value} {y : DataW H × List MemPlace} (h : DataW.trod enc Tryz.prog w base spare held n 116 c = some y) :
    ∃ f : Go.Lens.Tm.Cmd, c = [.string (bsO f.1), .string (bsO f.2.1), .int .i64 f.2.2] := by
  obtain ⟨xs, m, rfl, rfl, hl, hx, hf⟩ := DataW.trod_struct Tryz.underlying116 h
  have hl2 : c.length = 3 := hl.trans (by kernel_rfl)
  have hx2 : xs.length = 3 := hx
  match c, hl2, xs, hx2, hf with
  | [c0, c1, c2], _, [x0, x1, x2], _, hf =>
    have f0 := hf 0 _ rfl
    have f1 := hf 1 _ rfl
    have f2 := hf 2 _ rfl
    obtain ⟨s, e0, _⟩ := DataW.trod_string Tryz.underlying9 f0
    obtain ⟨s2, e1, _⟩ := DataW.trod_string Tryz.underlying9 f1
    obtain ⟨m2, e2, _⟩ := DataW.trod_int Tryz.underlying3 f2
    cases e0; cases e1; cases e2
    exact ⟨(s.data.toList, s2.data.toList, m2), rfl⟩
theorem read_cmds {fuel : Nat} {cs : List Value} {x : DataW H × List MemPlace} (h : DataW.trod enc Tryz.prog w base spare held fuel 82 cs = some x) :
    ∃ (l : List Go.Lens.Tm.Cmd) (v : Value), cs = [v] ∧ RelPV (gh0.rd w) (.slice (l.map Go.Lens.Tm.eC)) v ∧ ((l = [] ∧ x.1 = .nil) ∨ ∃ es rest, x.1 = .slice es rest ∧ es.length = l.length) :=
  read_slice (encE := Go.Lens.Tm.eC) (vals := fun f : Go.Lens.Tm.Cmd => [.string (bsO f.1), .string (bsO f.2.1), .int .i64 f.2.2]) Tryz.underlying82 (show Tryz.prog.cellsOf 116 = 3 by kernel_rfl) (by omega)
    (fun n c y hy => read_cmd hy) (fun _ => rfl) (fun _ => rfl)
    (fun a b off hc => relCells_lits (vs := [.string (bsO a.1), .string (bsO a.2.1), .int .i64 a.2.2]) (by simp [isLit]) hc) h
theorem read_st {n : Nat} {c : List Value} {y : DataW H × List MemPlace} (h : DataW.trod enc Tryz.prog w base spare held n 81 c = some y) :
    ∃ f : Go.Lens.Tm.LSt, c = [.string (bsO f.1), .int .i64 f.2.1, .bool f.2.2.1, .bool f.2.2.2] := by
  obtain ⟨xs, m, rfl, rfl, hl, hx, hf⟩ := DataW.trod_struct Tryz.underlying81 h
  have hl2 : c.length = 4 := hl.trans (by kernel_rfl)
  have hx2 : xs.length = 4 := hx
  match c, hl2, xs, hx2, hf with
  | [c0, c1, c2, c3'], _, [x0, x1, x2, x3], _, hf =>
    have f0 := hf 0 _ rfl
    have f1 := hf 1 _ rfl
    have f2 := hf 2 _ rfl
    have f3 := hf 3 _ rfl
    obtain ⟨s, e0, _⟩ := DataW.trod_string Tryz.underlying9 f0
    obtain ⟨m1, e1, _⟩ := DataW.trod_int Tryz.underlying3 f1
    obtain ⟨b1, e2, _⟩ := DataW.trod_bool Tryz.underlying4 f2
    obtain ⟨b2, e3, _⟩ := DataW.trod_bool Tryz.underlying4 f3
    cases e0; cases e1; cases e2; cases e3
    exact ⟨(s.data.toList, m1, b1, b2), rfl⟩
end
end Go.Lens.Tb
end
