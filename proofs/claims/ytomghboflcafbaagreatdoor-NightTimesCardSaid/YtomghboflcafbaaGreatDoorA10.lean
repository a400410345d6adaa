/- A part of the proof that NightTimesCardSaid holds, without conditions. -/
import Derived.Test.YtomghboflcafbaaGreatDoorA9
import Derived.Test.YtomghboflcafbaaGreatDoorA3
import Derived.Test.YtomghboflcafbaaGreatDoorRows
import Derived.MakeChecks
import Derived.Lib.LaidTab
import Derived.LaidLaws
import Derived.Stop.Joined
import Derived.RowKit
set_option linter.unusedVariables false
set_option linter.unusedSimpArgs false
section
namespace Go.Lens.Tb
set_option linter.unusedSectionVars false
theorem tlGo_len {W : List Int} {l : List Tgt} : ∀ {o : List Int} {prev : Option Tgt} {a : Int} {r : List Int}, tlGo W l prev a o = some r → r.length = o.length
  | [], prev, a, r, h => by
    have : tlGo W l prev a [] = some [] := by cases prev <;> rfl
    rw [this] at h; cases h; rfl
  | i :: o, prev, a, r, h => by
    rw [tlGo_cons] at h
    split at h
    · cases h
    · obtain ⟨q, hq, rfl⟩ := Option.map_eq_some_iff.1 h
      simp [tlGo_len hq]
theorem tlT_len (start : Int) (W : List Int) (l : List Tgt) (o : List Int) : (tlT start W l o).length ≤ o.length := by
  unfold tlT
  split
  · simp
  · cases h : tlF start W l o with
    | none => simp
    | some r => exact Nat.le_of_eq (tlGo_len h)
theorem shortN_le {W : List Int} (h : shortN W = true) : W.length ≤ 26 := by
  simp only [shortN, Bool.or_eq_true, Bool.and_eq_true, decide_eq_true_eq] at h
  omega
section
variable {start : Int} {W : List Int} {l : List Tgt} {o : List Int} {t : Tgt} {e : Int}
theorem bt_of (h : firstF [chkNightF start W, chkTgtsF l, chkOrdF ((l.length : Nat) : Int) o] = 0) : firstF [chkNightF start W, chkTgtsF l] = 0 ∧ chkOrdF l.length o = 0 := by
  by_cases h1 : firstF [chkNightF start W, chkTgtsF l] = 0
  · exact ⟨h1, (bad2 h1).symm.trans h⟩
  · exact absurd ((bad1 h1).symm.trans h) h1
theorem g0 {A B : Int} (h : (bif decide (A ≠ A) then true else decide (B ≠ B)) = true) : false = true := by
  simp at h
theorem g1 (h0 : firstF [chkNightF start W, chkTgtsF l, chkOrdF ((l.length : Nat) : Int) o] = 0)
    (h : (bif decide (tlE start W l o ≠ whenF (!(tlF start W l o).isSome) 23) then true else !(decide (tlT start W l o = (tlF start W l o).getD []))) = true) : false = true := by
  obtain ⟨h1, h2⟩ := bt_of h0
  obtain ⟨e1, e2⟩ := tl_ok h1 h2
  rw [e1, e2] at h
  unfold whenF at h
  cases hs : (tlF start W l o).isSome <;> rw [hs] at h <;> simp at h
theorem g2 (h0 : ¬ firstF [chkNightF start W, chkTgtsF l, chkOrdF ((l.length : Nat) : Int) o] = 0)
    (h : (bif decide (tlE start W l o ≠ firstF [chkNightF start W, chkTgtsF l, chkOrdF ((l.length : Nat) : Int) o]) then true else !(decide (tlT start W l o = []))) = true) : false = true := by
  have e1 : tlT start W l o = [] := by unfold tlT badT; rw [if_pos h0]
  have e2 : tlE start W l o = firstF [chkNightF start W, chkTgtsF l, chkOrdF ((l.length : Nat) : Int) o] := by unfold tlE badT; rw [if_pos h0]
  rw [e1, e2] at h
  simp at h
theorem badB_eq : firstF [chkNightF start W, chkTgtsF [t], whenF (bif decide (e < 0) then true else decide (1440 < e)) 3] = badB start W t e := by
  unfold badB withinF outF; rw [bif_or]
theorem f1 (h : ¬ badB start W t e = 0) : (bif (bif decide (begE start W t e = badB start W t e) then decide (begT start W t e = 0) else false) then true else false) = true := by
  unfold begE begT; rw [if_pos h, if_pos h]; simp
theorem f2 (h : badB start W t e = 0) (h2 : begF W t e < 0) : (bif (bif decide (begE start W t e = 7) then decide (begT start W t e = 0) else false) then true else false) = true := by
  unfold begE begT; simp [h, h2]
theorem f3 (h : badB start W t e = 0) (h2 : ¬ begF W t e < 0) : (bif (bif decide (begE start W t e = badB start W t e) then decide (begT start W t e = begF W t e) else false) then true else false) = true := by
  unfold begE begT; simp [h, h2]
end
end Go.Lens.Tb
end
section
namespace Go.Lens.Tb
open Go.Proofs
variable [Lz]
set_option linter.unusedSectionVars false
set_option maxRecDepth 100000
attribute [local irreducible] TK PK T RG EfR Body
set_option maxHeartbeats 4000000 in
theorem w3 (ha : CallOk Tryz.prog 19 [] (lookM []) (.pv (.lit (.bool true))) []) (start : Int) (W : List Int) (l : List Tgt) (o : List Int) (hl : l.length * 64 ≤ 140737488355328) : CallOk Tryz.prog 3 [.pv (.agg [pI start, pL eI W]), vL eT l, vL eI o] (lookM []) (vB true) [] := by
 haveI := tab_ok
 obtain ⟨fn, f1, f2, f3, f4, _, f6⟩ := qf3
 refine callOk_of (Y := tab) (F := fn3) f1 (f2.trans rfl) f3 f4 f6 (Nat.le_of_ble_eq_true rfl) rfl ?_
 clear f1 f2 f3 f4 f6
 show TK _ _ _ _ _ _ ⟨[(0, .pv (.agg [pI start, pL eI W])), (1, vL eT l), (2, vL eI o)], []⟩
 refine At rfl ?_
 refine NR ⟨[(0, .pv (.agg [pI start, pL eI W])), (1, vL eT l), (2, vL eI o)], []⟩ (sb rfl rfl rfl) rfl ?_
 refine rn rfl ?_
 refine ag rfl ?_
 refine RN ?_
 refine Ap rfl ?_
 refine NR ⟨[(1, vL eT l), (2, vL eI o), (3, .bref 4 0)], [(4, .box 24 [vI start, vL eI W])]⟩ (sb rfl rfl rfl) rfl ?_
 refine RO (Body.loadBA rfl rfl rfl ag24 sz24 rfl rfl) ?_
 refine mv rfl ?_
 refine RO (Body.call (w16 l (by omega)) rfl rfl rfl) ?_
 refine rn rfl ?_
 refine rn rfl ?_
 refine ag rfl ?_
 refine RG.nil (fun _ => by kernel_rfl) ?_
 refine Ap rfl ?_
 refine NR ⟨[(1, vL eT l), (2, vL eI o), (3, .bref 4 0), (7, .bref 8 0), (8, vL eT l)], [(4, .box 24 [vI start, vL eI W]), (8, .box 26 [vI start, vL eI W])]⟩ (sb rfl rfl rfl) rfl ?_
 refine RO (Body.loadBA rfl rfl rfl ag26 sz26 rfl rfl) ?_
 refine RO (Body.call (w17 start W) rfl rfl rfl) ?_
 refine RO (Body.not rfl) ?_
 refine mv rfl ?_
 refine RG.cons (EfR.sym rfl (fun hc => Body.move rfl) rfl) ?_
 refine RG.cons (EfR.sym rfl (fun hc => Body.call (w18 l 5 32 (by first | omega | exact Nat.le_of_ble_eq_true rfl | (simp only [List.length_take, List.length_drop]; omega))) rfl (ds3 (ev1_gd rfl hc) rfl rfl) rfl) rfl) ?_
 refine RG.cons (EfR.sym rfl (fun hc => Body.not (ev1_gd rfl hc)) rfl) ?_
 refine RO (Body.pick rfl rfl rfl rfl (gdB rfl) (pick_or _)) ?_
 refine mv rfl ?_
 refine RG.cons (EfR.sym rfl (fun hc => Body.move rfl) rfl) ?_
 refine RG.cons (EfR.sym rfl (fun hc => Body.lenL (ev1_gd rfl hc) un22) rfl) ?_
 refine RG.cons (EfR.sym rfl (fun hc => Body.gtr (ev1_gd rfl hc) rfl) rfl) ?_
 refine RO (Body.pick rfl rfl rfl rfl (gdB rfl) (pick_or _)) ?_
 refine RN ?_
 refine Ap rfl ?_
 refine TK.norm ⟨[(1, vL eT l), (2, vL eI o), (3, .bref 4 0), (7, .bref 8 0), (8, vL eT l), (38, vB (bif (bif (!(shortN W)) then true else (!(shortT l 5 32))) then true else (decide (8 < ((List.length o : Nat) : Int)))))], [(4, .box 24 [vI start, vL eI W]), (8, .box 26 [vI start, vL eI W])]⟩ (sb rfl rfl rfl) ?_
 refine TK.cond rfl (fun h1 => ?_) (fun h1 => ?_)
 ·
  refine At rfl ?_
  refine NR ⟨[], []⟩ (sb rfl rfl rfl) rfl ?_
  refine RO (Body.call (ha) rfl rfl rfl) ?_
  refine ag rfl ?_
  refine RN ?_
  refine Ap rfl ?_
  refine TK.ret ?_
  refine PK.ret ?_
  refine leaf (val0 := vB true) (by kernel_rfl) ?_
  exact rfl
 ·
  refine At rfl ?_
  refine TK.norm ⟨[(1, vL eT l), (2, vL eI o), (3, .bref 4 0), (7, .bref 8 0), (8, vL eT l)], [(4, .box 24 [vI start, vL eI W]), (8, .box 26 [vI start, vL eI W])]⟩ (sb rfl rfl rfl) ?_
  simp only [bif_or, Bool.or_eq_false_iff, Bool.not_eq_false', decide_eq_false_iff_not] at h1
  have hW := shortN_le h1.1.1
  refine TK.rg (Y := tab) mixed rfl ?_
  refine RO (Body.loadBA rfl rfl rfl ag26 sz26 rfl rfl) ?_
  refine RO (Body.call (w20 start W (by first | omega | exact Nat.le_of_ble_eq_true rfl | (simp only [List.length_take, List.length_drop]; omega))) rfl rfl rfl) ?_
  refine ag rfl ?_
  refine RN ?_
  refine Ap rfl ?_
  refine NR ⟨[(1, vL eT l), (2, vL eI o), (3, .bref 4 0), (7, .bref 8 0), (8, vL eT l), (9, vI (chkNightF start W))], [(4, .box 24 [vI start, vL eI W]), (8, .box 26 [vI start, vL eI W])]⟩ (sb rfl rfl rfl) rfl ?_
  refine mv rfl ?_
  refine RO (Body.call (w21 l (by first | omega | exact Nat.le_of_ble_eq_true rfl | (simp only [List.length_take, List.length_drop]; omega))) rfl rfl rfl) ?_
  refine ag rfl ?_
  refine RN ?_
  refine Ap rfl ?_
  refine NR ⟨[(1, vL eT l), (2, vL eI o), (3, .bref 4 0), (7, .bref 8 0), (8, vL eT l), (9, vI (chkNightF start W)), (10, vI (chkTgtsF l))], [(4, .box 24 [vI start, vL eI W]), (8, .box 26 [vI start, vL eI W])]⟩ (sb rfl rfl rfl) rfl ?_
  refine RO (Body.loadBA rfl rfl rfl ag24 sz24 rfl rfl) ?_
  refine RO (Body.call (w22 start W (by first | omega | exact Nat.le_of_ble_eq_true rfl | (simp only [List.length_take, List.length_drop]; omega))) rfl rfl rfl) ?_
  refine mv rfl ?_
  refine RO (Body.neq rfl rfl) ?_
  refine mv rfl ?_
  refine RG.cons (EfR.sym rfl (fun hc => Body.move rfl) rfl) ?_
  refine RG.cons (EfR.sym rfl (fun hc => Body.call (w23 l (by first | omega | exact Nat.le_of_ble_eq_true rfl | (simp only [List.length_take, List.length_drop]; omega))) rfl (ds1 (ev1_gd rfl hc)) rfl) rfl) ?_
  refine RG.cons (EfR.sym rfl (fun hc => Body.move rfl) rfl) ?_
  refine RG.cons (EfR.sym rfl (fun hc => Body.neq (ev1_gd rfl hc) (ev1_gd rfl hc)) rfl) ?_
  refine RO (Body.pick rfl rfl rfl rfl (gdB rfl) (pick_or _)) ?_
  refine RN ?_
  refine Ap rfl ?_
  refine TK.norm ⟨[(1, vL eT l), (2, vL eI o), (3, .bref 4 0), (7, .bref 8 0), (8, vL eT l), (9, vI (chkNightF start W)), (10, vI (chkTgtsF l)), (53, vB (bif (decide ((chkNightF start W) ≠ (chkNightF start W))) then true else (decide ((chkTgtsF l) ≠ (chkTgtsF l)))))], [(4, .box 24 [vI start, vL eI W]), (8, .box 26 [vI start, vL eI W])]⟩ (sb rfl rfl rfl) ?_
  refine TK.cond rfl (fun h2 => ?_) (fun h2 => ?_)
  ·
   refine At rfl ?_
   refine NR ⟨[], []⟩ (sb rfl rfl rfl) rfl ?_
   refine ag rfl ?_
   refine RN ?_
   refine Ap rfl ?_
   refine TK.ret ?_
   refine PK.ret ?_
   refine leaf (val0 := vB false) (by kernel_rfl) ?_
   exact lb (by first
          | rfl
          | exact g0 (by assumption)
          | exact g1 (start := start) (W := W) (l := l) (o := o) (by assumption) (by assumption)
          | exact g2 (start := start) (W := W) (l := l) (o := o) (by assumption) (by assumption)
          | exact f1 (by assumption)
          | exact f2 (by assumption) (by assumption)
          | exact f3 (by assumption) (by assumption))
  ·
   refine At rfl ?_
   refine NR ⟨[(1, vL eT l), (2, vL eI o), (3, .bref 4 0), (7, .bref 8 0), (8, vL eT l), (9, vI (chkNightF start W)), (10, vI (chkTgtsF l))], [(4, .box 24 [vI start, vL eI W]), (8, .box 26 [vI start, vL eI W])]⟩ (sb rfl rfl rfl) rfl ?_
   refine RO (Body.loadBA rfl rfl rfl ag24 sz24 rfl rfl) ?_
   refine mv rfl ?_
   refine mv rfl ?_
   refine RO (Body.call (w24 start W l o (by omega)) rfl rfl rfl) ?_
   refine rn rfl ?_
   refine rn rfl ?_
   refine rn rfl ?_
   refine ag rfl ?_
   refine ag rfl ?_
   refine RN ?_
   refine Ap rfl ?_
   refine NR ⟨[(1, vL eT l), (2, vL eI o), (3, .bref 4 0), (7, .bref 8 0), (8, vL eT l), (9, vI (chkNightF start W)), (10, vI (chkTgtsF l)), (11, vL eI (tlT start W l o)), (12, vI (tlE start W l o))], [(4, .box 24 [vI start, vL eI W]), (8, .box 26 [vI start, vL eI W])]⟩ (sb rfl rfl rfl) rfl ?_
   refine mv rfl ?_
   refine mv rfl ?_
   refine mv rfl ?_
   refine RO (Body.lenL rfl un27) ?_
   refine mv rfl ?_
   refine RO (Body.call (w26 ((List.length l : Nat) : Int) o (by first | omega | exact Nat.le_of_ble_eq_true rfl | (simp only [List.length_take, List.length_drop]; omega)) (by omega)) rfl rfl rfl) ?_
   refine RO (Body.runZ (val := .pv (.slice (List.map eI [(chkNightF start W), (chkTgtsF l), (chkOrdF ((List.length l : Nat) : Int) o)]))) rfl (fun l => Frz.arr l _ _ _ _ _) rfl) ?_
   refine RO (Body.call (w25 [(chkNightF start W), (chkTgtsF l), (chkOrdF ((List.length l : Nat) : Int) o)] (Nat.le_of_ble_eq_true rfl)) rfl rfl rfl) ?_
   refine ag rfl ?_
   refine RN ?_
   refine Ap rfl ?_
   refine NR ⟨[(1, vL eT l), (2, vL eI o), (3, .bref 4 0), (7, .bref 8 0), (8, vL eT l), (9, vI (chkNightF start W)), (11, vL eI (tlT start W l o)), (12, vI (tlE start W l o)), (13, vI (firstF [(chkNightF start W), (chkTgtsF l), (chkOrdF ((List.length l : Nat) : Int) o)]))], [(4, .box 24 [vI start, vL eI W]), (8, .box 26 [vI start, vL eI W])]⟩ (sb rfl rfl rfl) rfl ?_
   refine RO (Body.nilS (enc := eI) rfl) ?_
   refine RN ?_
   refine Ap rfl ?_
   refine NR ⟨[(1, vL eT l), (2, vL eI o), (3, .bref 4 0), (7, .bref 8 0), (8, vL eT l), (9, vI (chkNightF start W)), (11, vL eI (tlT start W l o)), (12, vI (tlE start W l o)), (13, vI (firstF [(chkNightF start W), (chkTgtsF l), (chkOrdF ((List.length l : Nat) : Int) o)])), (14, vL eI [])], [(4, .box 24 [vI start, vL eI W]), (8, .box 26 [vI start, vL eI W])]⟩ (sb rfl rfl rfl) rfl ?_
   refine mv rfl ?_
   refine RO (Body.eql rfl rfl) ?_
   refine RN ?_
   refine Ap rfl ?_
   refine TK.norm ⟨[(1, vL eT l), (2, vL eI o), (3, .bref 4 0), (7, .bref 8 0), (8, vL eT l), (9, vI (chkNightF start W)), (11, vL eI (tlT start W l o)), (12, vI (tlE start W l o)), (13, vI (firstF [(chkNightF start W), (chkTgtsF l), (chkOrdF ((List.length l : Nat) : Int) o)])), (14, vL eI []), (70, vB (decide ((firstF [(chkNightF start W), (chkTgtsF l), (chkOrdF ((List.length l : Nat) : Int) o)]) = 0)))], [(4, .box 24 [vI start, vL eI W]), (8, .box 26 [vI start, vL eI W])]⟩ (sb rfl rfl rfl) ?_
   refine TK.condP rfl (fun h3 => ?_) (fun h3 => ?_)
   ·
    refine At rfl ?_
    refine TK.norm ⟨[(1, vL eT l), (2, vL eI o), (3, .bref 4 0), (7, .bref 8 0), (8, vL eT l), (9, vI (chkNightF start W)), (11, vL eI (tlT start W l o)), (12, vI (tlE start W l o))], [(4, .box 24 [vI start, vL eI W]), (8, .box 26 [vI start, vL eI W])]⟩ (sb rfl rfl rfl) ?_
    obtain ⟨hb1, hb2⟩ := bt_of (by assumption : firstF [chkNightF start W, chkTgtsF l, chkOrdF ((l.length : Nat) : Int) o] = 0)
    have hpt := tl_parts hb1
    have hv := ord_VI hpt.2.2 hb2
    refine TK.rg (Y := tab) mixed rfl ?_
    refine RO (Body.loadBA rfl rfl rfl ag26 sz26 rfl rfl) ?_
    refine mv rfl ?_
    refine mv rfl ?_
    refine RO (Body.call (w27 start W l o (by omega) hv) rfl rfl rfl) ?_
    refine rn rfl ?_
    refine rn rfl ?_
    refine rn rfl ?_
    refine ag rfl ?_
    refine ag rfl ?_
    refine RN ?_
    refine Ap rfl ?_
    refine NR ⟨[(1, vL eT l), (2, vL eI o), (3, .bref 4 0), (7, .bref 8 0), (9, vI (chkNightF start W)), (11, vL eI (tlT start W l o)), (12, vI (tlE start W l o)), (15, vL eI (Option.getD (tlF start W l o) [])), (16, vB (Option.isSome (tlF start W l o)))], [(4, .box 24 [vI start, vL eI W]), (8, .box 26 [vI start, vL eI W])]⟩ (sb rfl rfl rfl) rfl ?_
    refine mv rfl ?_
    refine mv rfl ?_
    refine RO (Body.not rfl) ?_
    refine RO (Body.call (w28 (!(Option.isSome (tlF start W l o))) 23) rfl rfl rfl) ?_
    refine ag rfl ?_
    refine ag rfl ?_
    refine RN ?_
    refine Ap rfl ?_
    refine NR ⟨[(1, vL eT l), (2, vL eI o), (3, .bref 4 0), (7, .bref 8 0), (9, vI (chkNightF start W)), (11, vL eI (tlT start W l o)), (12, vI (tlE start W l o)), (13, vI (whenF (!(Option.isSome (tlF start W l o))) 23)), (14, vL eI (Option.getD (tlF start W l o) []))], [(4, .box 24 [vI start, vL eI W]), (8, .box 26 [vI start, vL eI W])]⟩ (sb rfl rfl rfl) rfl ?_
    refine mv rfl ?_
    refine mv rfl ?_
    refine RO (Body.neq rfl rfl) ?_
    refine mv rfl ?_
    refine RG.cons (EfR.sym rfl (fun hc => Body.move rfl) rfl) ?_
    refine RG.cons (EfR.sym rfl (fun hc => Body.move rfl) rfl) ?_
    refine RG.cons (EfR.sym rfl (fun hc => Body.call (w29 (tlT start W l o) (Option.getD (tlF start W l o) []) (by first | omega | exact Nat.le_trans (tlT_len _ _ _ _) (by omega))) rfl (ds2 (ev1_gd rfl hc) (ev1_gd rfl hc)) rfl) rfl) ?_
    refine RG.cons (EfR.sym rfl (fun hc => Body.not (ev1_gd rfl hc)) rfl) ?_
    refine RO (Body.pick rfl rfl rfl rfl (gdB rfl) (pick_or _)) ?_
    refine RN ?_
    refine Ap rfl ?_
    refine TK.norm ⟨[(1, vL eT l), (2, vL eI o), (3, .bref 4 0), (7, .bref 8 0), (9, vI (chkNightF start W)), (90, vB (bif (decide ((tlE start W l o) ≠ (whenF (!(Option.isSome (tlF start W l o))) 23))) then true else (!(decide ((tlT start W l o) = (Option.getD (tlF start W l o) []))))))], [(4, .box 24 [vI start, vL eI W]), (8, .box 26 [vI start, vL eI W])]⟩ (sb rfl rfl rfl) ?_
    refine TK.cond rfl (fun h4 => ?_) (fun h4 => ?_)
    ·
     refine At rfl ?_
     refine NR ⟨[], []⟩ (sb rfl rfl rfl) rfl ?_
     refine ag rfl ?_
     refine RN ?_
     refine Ap rfl ?_
     refine TK.ret ?_
     refine PK.ret ?_
     refine leaf (val0 := vB false) (by kernel_rfl) ?_
     exact lb (by first
          | rfl
          | exact g0 (by assumption)
          | exact g1 (start := start) (W := W) (l := l) (o := o) (by assumption) (by assumption)
          | exact g2 (start := start) (W := W) (l := l) (o := o) (by assumption) (by assumption)
          | exact f1 (by assumption)
          | exact f2 (by assumption) (by assumption)
          | exact f3 (by assumption) (by assumption))
    ·
     refine At rfl ?_
     refine NR ⟨[(1, vL eT l), (2, vL eI o), (3, .bref 4 0), (7, .bref 8 0), (9, vI (chkNightF start W))], [(4, .box 24 [vI start, vL eI W]), (8, .box 26 [vI start, vL eI W])]⟩ (sb rfl rfl rfl) rfl ?_
     refine ag rfl ?_
     refine RN ?_
     refine Ap rfl ?_
     refine NR ⟨[(1, vL eT l), (2, vL eI o), (3, .bref 4 0), (7, .bref 8 0), (9, vI (chkNightF start W)), (17, vI 0)], [(4, .box 24 [vI start, vL eI W]), (8, .box 26 [vI start, vL eI W])]⟩ (sb rfl rfl rfl) rfl ?_
     refine mv rfl ?_
     refine RO (Body.lenL rfl un22) ?_
     refine RO (Body.gtr rfl rfl) ?_
     refine RN ?_
     refine Ap rfl ?_
     refine TK.norm ⟨[(1, vL eT l), (2, vL eI o), (3, .bref 4 0), (7, .bref 8 0), (9, vI (chkNightF start W)), (17, vI 0), (93, vB (decide (0 < ((List.length o : Nat) : Int))))], [(4, .box 24 [vI start, vL eI W]), (8, .box 26 [vI start, vL eI W])]⟩ (sb rfl rfl rfl) ?_
     refine TK.condP rfl (fun h5 => ?_) (fun h5 => ?_)
     ·
      refine At rfl ?_
      refine NR ⟨[(1, vL eT l), (2, vL eI o), (3, .bref 4 0), (7, .bref 8 0), (9, vI (chkNightF start W))], [(4, .box 24 [vI start, vL eI W]), (8, .box 26 [vI start, vL eI W])]⟩ (sb rfl rfl rfl) rfl ?_
      refine mv rfl ?_
      refine RO (Body.idx (z := 0) (i := 0) rfl rfl un22 sz3 (fun _ => rfl) rfl (by omega)) ?_
      refine RO (Body.loadP rfl ag3 sz3) ?_
      refine ag rfl ?_
      refine RN ?_
      refine Ap rfl ?_
      refine NR ⟨[(1, vL eT l), (3, .bref 4 0), (7, .bref 8 0), (9, vI (chkNightF start W)), (17, vI (List.getD o 0 0))], [(4, .box 24 [vI start, vL eI W]), (8, .box 26 [vI start, vL eI W])]⟩ (sb rfl rfl rfl) rfl ?_
      refine rn rfl ?_
      refine RN ?_
      refine Ap rfl ?_
      refine NR ⟨[(1, vL eT l), (3, .bref 4 0), (7, .bref 8 0), (9, vI (chkNightF start W)), (17, vI (List.getD o 0 0)), (18, .bref 19 0)], [(4, .box 24 [vI start, vL eI W]), (8, .box 26 [vI start, vL eI W]), (19, .box 46 [vS ⟨#[]⟩, vI 0, vI 0, vI 0, vI 0, vI 0, vI 0])]⟩ (sb rfl rfl rfl) rfl ?_
      refine mv rfl ?_
      refine RO (Body.lenL rfl un25) ?_
      refine RO (Body.gtr rfl rfl) ?_
      refine RN ?_
      refine Ap rfl ?_
      refine TK.norm ⟨[(1, vL eT l), (3, .bref 4 0), (7, .bref 8 0), (9, vI (chkNightF start W)), (17, vI (List.getD o 0 0)), (18, .bref 19 0), (99, vB (decide (0 < ((List.length l : Nat) : Int))))], [(4, .box 24 [vI start, vL eI W]), (8, .box 26 [vI start, vL eI W]), (19, .box 46 [vS ⟨#[]⟩, vI 0, vI 0, vI 0, vI 0, vI 0, vI 0])]⟩ (sb rfl rfl rfl) ?_
      refine TK.condP rfl (fun h6 => ?_) (fun h6 => ?_)
      ·
       refine At rfl ?_
       refine NR ⟨[(1, vL eT l), (3, .bref 4 0), (7, .bref 8 0), (9, vI (chkNightF start W)), (17, vI (List.getD o 0 0)), (18, .bref 19 0)], [(4, .box 24 [vI start, vL eI W]), (8, .box 26 [vI start, vL eI W]), (19, .box 46 [vS ⟨#[]⟩, vI 0, vI 0, vI 0, vI 0, vI 0, vI 0])]⟩ (sb rfl rfl rfl) rfl ?_
       refine mv rfl ?_
       refine RO (Body.idx (z := default) (i := 0) rfl rfl un25 sz46 (fun _ => rfl) rfl (by omega)) ?_
       refine RO (Body.loadA (ds := [pS (Tgt.name (List.getD l 0 default)), pI (Tgt.bright (List.getD l 0 default)), pI (Tgt.place (List.getD l 0 default)), pI (Tgt.length (List.getD l 0 default)), pI (Tgt.from_ (List.getD l 0 default)), pI (Tgt.to (List.getD l 0 default)), pI (Tgt.limit (List.getD l 0 default))]) rfl ag46 sz46 (Nat.le_of_ble_eq_true rfl) rfl) ?_
       refine rn rfl ?_
       refine RN ?_
       refine Ap rfl ?_
       refine NR ⟨[(3, .bref 4 0), (7, .bref 8 0), (9, vI (chkNightF start W)), (17, vI (List.getD o 0 0)), (18, .bref 19 0)], [(4, .box 24 [vI start, vL eI W]), (8, .box 26 [vI start, vL eI W]), (19, .box 46 [vS (Tgt.name (List.getD l 0 default)), vI (Tgt.bright (List.getD l 0 default)), vI (Tgt.place (List.getD l 0 default)), vI (Tgt.length (List.getD l 0 default)), vI (Tgt.from_ (List.getD l 0 default)), vI (Tgt.to (List.getD l 0 default)), vI (Tgt.limit (List.getD l 0 default))])]⟩ (sb rfl rfl rfl) rfl ?_
       refine RO (Body.fadB rfl fa46_0 rfl) ?_
       refine RO (Body.loadB rfl rfl rfl ag9 sz9 rfl) ?_
       refine RO (Body.lenS rfl un9) ?_
       refine RO (Body.gtr rfl rfl) ?_
       refine RN ?_
       refine Ap rfl ?_
       refine TK.norm ⟨[(3, .bref 4 0), (7, .bref 8 0), (9, vI (chkNightF start W)), (17, vI (List.getD o 0 0)), (18, .bref 19 0), (106, vB (decide (40 < ((ByteArray.size (Tgt.name (List.getD l 0 default)) : Nat) : Int))))], [(4, .box 24 [vI start, vL eI W]), (8, .box 26 [vI start, vL eI W]), (19, .box 46 [vS (Tgt.name (List.getD l 0 default)), vI (Tgt.bright (List.getD l 0 default)), vI (Tgt.place (List.getD l 0 default)), vI (Tgt.length (List.getD l 0 default)), vI (Tgt.from_ (List.getD l 0 default)), vI (Tgt.to (List.getD l 0 default)), vI (Tgt.limit (List.getD l 0 default))])]⟩ (sb rfl rfl rfl) ?_
       refine TK.condP rfl (fun h7 => ?_) (fun h7 => ?_)
       ·
        refine At rfl ?_
        refine NR ⟨[], []⟩ (sb rfl rfl rfl) rfl ?_
        refine RO (Body.call (ha) rfl rfl rfl) ?_
        refine ag rfl ?_
        refine RN ?_
        refine Ap rfl ?_
        refine TK.ret ?_
        refine PK.ret ?_
        refine leaf (val0 := vB true) (by kernel_rfl) ?_
        exact rfl
       ·
        refine At rfl ?_
        refine NR ⟨[(3, .bref 4 0), (7, .bref 8 0), (9, vI (chkNightF start W)), (17, vI (List.getD o 0 0)), (18, .bref 19 0)], [(4, .box 24 [vI start, vL eI W]), (8, .box 26 [vI start, vL eI W]), (19, .box 46 [vS (Tgt.name (List.getD l 0 default)), vI (Tgt.bright (List.getD l 0 default)), vI (Tgt.place (List.getD l 0 default)), vI (Tgt.length (List.getD l 0 default)), vI (Tgt.from_ (List.getD l 0 default)), vI (Tgt.to (List.getD l 0 default)), vI (Tgt.limit (List.getD l 0 default))])]⟩ (sb rfl rfl rfl) rfl ?_
        refine RO (Body.loadBA rfl rfl rfl ag24 sz24 rfl rfl) ?_
        refine RO (Body.loadBA rfl rfl rfl ag46 sz46 rfl rfl) ?_
        refine mv rfl ?_
        refine RO (Body.call (w30 start W (List.getD l 0 default) (List.getD o 0 0) (by first | omega | exact Nat.le_of_ble_eq_true rfl | (simp only [List.length_take, List.length_drop]; omega))) rfl rfl rfl) ?_
        refine rn rfl ?_
        refine rn rfl ?_
        refine rn rfl ?_
        refine ag rfl ?_
        refine ag rfl ?_
        refine RN ?_
        refine Ap rfl ?_
        refine NR ⟨[(7, .bref 8 0), (9, vI (chkNightF start W)), (17, vI (List.getD o 0 0)), (18, .bref 19 0), (19, vI (begT start W (List.getD l 0 default) (List.getD o 0 0))), (20, vI (begE start W (List.getD l 0 default) (List.getD o 0 0)))], [(8, .box 26 [vI start, vL eI W]), (19, .box 46 [vS (Tgt.name (List.getD l 0 default)), vI (Tgt.bright (List.getD l 0 default)), vI (Tgt.place (List.getD l 0 default)), vI (Tgt.length (List.getD l 0 default)), vI (Tgt.from_ (List.getD l 0 default)), vI (Tgt.to (List.getD l 0 default)), vI (Tgt.limit (List.getD l 0 default))])]⟩ (sb rfl rfl rfl) rfl ?_
        refine mv rfl ?_
        refine RO (Body.loadBA rfl rfl rfl ag46 sz46 rfl rfl) ?_
        refine RO (Body.runZ (val := .pv (.slice (List.map eT [(List.getD l 0 default)]))) rfl (fun l => Frz.arr l _ _ _ _ _) rfl) ?_
        refine RO (Body.call (w21 [(List.getD l 0 default)] (by first | omega | exact Nat.le_of_ble_eq_true rfl | (simp only [List.length_take, List.length_drop]; omega))) rfl rfl rfl) ?_
        refine mv rfl ?_
        refine RO (Body.lss rfl rfl) ?_
        refine mv rfl ?_
        refine RG.cons (EfR.sym rfl (fun hc => Body.move rfl) rfl) ?_
        refine RG.cons (EfR.sym rfl (fun hc => Body.gtr (ev1_gd rfl hc) rfl) rfl) ?_
        refine RO (Body.pick rfl rfl rfl rfl (gdB rfl) (pick_or _)) ?_
        refine RO (Body.call (w28 (bif (decide ((List.getD o 0 0) < 0)) then true else (decide (1440 < (List.getD o 0 0)))) 3) rfl rfl rfl) ?_
        refine RO (Body.runZ (val := .pv (.slice (List.map eI [(chkNightF start W), (chkTgtsF [(List.getD l 0 default)]), (whenF (bif (decide ((List.getD o 0 0) < 0)) then true else (decide (1440 < (List.getD o 0 0)))) 3)]))) rfl (fun l => Frz.arr l _ _ _ _ _) rfl) ?_
        refine RO (Body.call (w25 [(chkNightF start W), (chkTgtsF [(List.getD l 0 default)]), (whenF (bif (decide ((List.getD o 0 0) < 0)) then true else (decide (1440 < (List.getD o 0 0)))) 3)] (Nat.le_of_ble_eq_true rfl)) rfl rfl rfl) ?_
        refine ag rfl ?_
        refine RN ?_
        refine Ap rfl ?_
        refine NR ⟨[(7, .bref 8 0), (17, vI (List.getD o 0 0)), (18, .bref 19 0), (19, vI (begT start W (List.getD l 0 default) (List.getD o 0 0))), (20, vI (begE start W (List.getD l 0 default) (List.getD o 0 0))), (21, vI (firstF [(chkNightF start W), (chkTgtsF [(List.getD l 0 default)]), (whenF (bif (decide ((List.getD o 0 0) < 0)) then true else (decide (1440 < (List.getD o 0 0)))) 3)]))], [(8, .box 26 [vI start, vL eI W]), (19, .box 46 [vS (Tgt.name (List.getD l 0 default)), vI (Tgt.bright (List.getD l 0 default)), vI (Tgt.place (List.getD l 0 default)), vI (Tgt.length (List.getD l 0 default)), vI (Tgt.from_ (List.getD l 0 default)), vI (Tgt.to (List.getD l 0 default)), vI (Tgt.limit (List.getD l 0 default))])]⟩ (sb rfl rfl rfl) rfl ?_
        refine ag rfl ?_
        refine RN ?_
        refine Ap rfl ?_
        refine TK.norm ⟨[(7, .bref 8 0), (17, vI (List.getD o 0 0)), (18, .bref 19 0), (19, vI (begT start W (List.getD l 0 default) (List.getD o 0 0))), (20, vI (begE start W (List.getD l 0 default) (List.getD o 0 0))), (21, vI (firstF [(chkNightF start W), (chkTgtsF [(List.getD l 0 default)]), (whenF (bif (decide ((List.getD o 0 0) < 0)) then true else (decide (1440 < (List.getD o 0 0)))) 3)])), (22, vI 0)], [(8, .box 26 [vI start, vL eI W]), (19, .box 46 [vS (Tgt.name (List.getD l 0 default)), vI (Tgt.bright (List.getD l 0 default)), vI (Tgt.place (List.getD l 0 default)), vI (Tgt.length (List.getD l 0 default)), vI (Tgt.from_ (List.getD l 0 default)), vI (Tgt.to (List.getD l 0 default)), vI (Tgt.limit (List.getD l 0 default))])]⟩ (sb rfl rfl rfl) ?_
        rw [badB_eq]
        refine TK.rg (Y := tab) mixed rfl ?_
        refine mv rfl ?_
        refine RO (Body.eql rfl rfl) ?_
        refine RN ?_
        refine Ap rfl ?_
        refine TK.norm ⟨[(7, .bref 8 0), (17, vI (List.getD o 0 0)), (18, .bref 19 0), (19, vI (begT start W (List.getD l 0 default) (List.getD o 0 0))), (20, vI (begE start W (List.getD l 0 default) (List.getD o 0 0))), (21, vI (badB start W (List.getD l 0 default) (List.getD o 0 0))), (22, vI 0), (129, vB (decide ((badB start W (List.getD l 0 default) (List.getD o 0 0)) = 0)))], [(8, .box 26 [vI start, vL eI W]), (19, .box 46 [vS (Tgt.name (List.getD l 0 default)), vI (Tgt.bright (List.getD l 0 default)), vI (Tgt.place (List.getD l 0 default)), vI (Tgt.length (List.getD l 0 default)), vI (Tgt.from_ (List.getD l 0 default)), vI (Tgt.to (List.getD l 0 default)), vI (Tgt.limit (List.getD l 0 default))])]⟩ (sb rfl rfl rfl) ?_
        refine TK.condP rfl (fun h8 => ?_) (fun h8 => ?_)
        ·
         refine At rfl ?_
         refine TK.norm ⟨[(7, .bref 8 0), (17, vI (List.getD o 0 0)), (18, .bref 19 0), (19, vI (begT start W (List.getD l 0 default) (List.getD o 0 0))), (20, vI (begE start W (List.getD l 0 default) (List.getD o 0 0))), (21, vI (badB start W (List.getD l 0 default) (List.getD o 0 0)))], [(8, .box 26 [vI start, vL eI W]), (19, .box 46 [vS (Tgt.name (List.getD l 0 default)), vI (Tgt.bright (List.getD l 0 default)), vI (Tgt.place (List.getD l 0 default)), vI (Tgt.length (List.getD l 0 default)), vI (Tgt.from_ (List.getD l 0 default)), vI (Tgt.to (List.getD l 0 default)), vI (Tgt.limit (List.getD l 0 default))])]⟩ (sb rfl rfl rfl) ?_
         obtain ⟨hq1, hq2, hq3⟩ := beg_parts (by assumption : badB start W (List.getD l 0 default) (List.getD o 0 0) = 0)
         refine TK.rg (Y := tab) mixed rfl ?_
         refine RO (Body.loadBA rfl rfl rfl ag26 sz26 rfl rfl) ?_
         refine RO (Body.loadBA rfl rfl rfl ag46 sz46 rfl rfl) ?_
         refine mv rfl ?_
         refine RO (Body.call (w31 start W (List.getD l 0 default) (List.getD o 0 0) (by first | omega | (unfold apartF; omega))) rfl rfl rfl) ?_
         refine ag rfl ?_
         refine RN ?_
         refine Ap rfl ?_
         refine NR ⟨[(19, vI (begT start W (List.getD l 0 default) (List.getD o 0 0))), (20, vI (begE start W (List.getD l 0 default) (List.getD o 0 0))), (21, vI (badB start W (List.getD l 0 default) (List.getD o 0 0))), (22, vI (begF W (List.getD l 0 default) (List.getD o 0 0)))], []⟩ (sb rfl rfl rfl) rfl ?_
         refine mv rfl ?_
         refine RO (Body.lss rfl rfl) ?_
         refine RN ?_
         refine Ap rfl ?_
         refine TK.norm ⟨[(19, vI (begT start W (List.getD l 0 default) (List.getD o 0 0))), (20, vI (begE start W (List.getD l 0 default) (List.getD o 0 0))), (21, vI (badB start W (List.getD l 0 default) (List.getD o 0 0))), (22, vI (begF W (List.getD l 0 default) (List.getD o 0 0))), (135, vB (decide ((begF W (List.getD l 0 default) (List.getD o 0 0)) < 0)))], []⟩ (sb rfl rfl rfl) ?_
         refine TK.condP rfl (fun h9 => ?_) (fun h9 => ?_)
         ·
          refine At rfl ?_
          refine NR ⟨[(19, vI (begT start W (List.getD l 0 default) (List.getD o 0 0))), (20, vI (begE start W (List.getD l 0 default) (List.getD o 0 0)))], []⟩ (sb rfl rfl rfl) rfl ?_
          refine ag rfl ?_
          refine ag rfl ?_
          refine RN ?_
          refine Ap rfl ?_
          refine NR ⟨[(19, vI (begT start W (List.getD l 0 default) (List.getD o 0 0))), (20, vI (begE start W (List.getD l 0 default) (List.getD o 0 0))), (21, vI 7), (22, vI 0)], []⟩ (sb rfl rfl rfl) rfl ?_
          refine mv rfl ?_
          refine mv rfl ?_
          refine RO (Body.eql rfl rfl) ?_
          refine mv rfl ?_
          refine RG.cons (EfR.sym rfl (fun hc => Body.move rfl) rfl) ?_
          refine RG.cons (EfR.sym rfl (fun hc => Body.move rfl) rfl) ?_
          refine RG.cons (EfR.sym rfl (fun hc => Body.eql (ev1_gd rfl hc) (ev1_gd rfl hc)) rfl) ?_
          refine RO (Body.pick rfl rfl rfl (gdB rfl) rfl (pick_and _)) ?_
          refine mv rfl ?_
          refine RG.cons (EfR.sym rfl (fun hc => Body.call (ha) rfl rfl rfl) rfl) ?_
          refine RO (Body.pick rfl rfl rfl (gdB rfl) rfl (pick_and _)) ?_
          refine ag rfl ?_
          refine RN ?_
          refine Ap rfl ?_
          refine TK.ret ?_
          refine PK.ret ?_
          refine leaf (val0 := vB (bif (bif (decide ((begE start W (List.getD l 0 default) (List.getD o 0 0)) = 7)) then (decide ((begT start W (List.getD l 0 default) (List.getD o 0 0)) = 0)) else false) then true else false)) (by kernel_rfl) ?_
          exact lb (by first
          | rfl
          | exact g0 (by assumption)
          | exact g1 (start := start) (W := W) (l := l) (o := o) (by assumption) (by assumption)
          | exact g2 (start := start) (W := W) (l := l) (o := o) (by assumption) (by assumption)
          | exact f1 (by assumption)
          | exact f2 (by assumption) (by assumption)
          | exact f3 (by assumption) (by assumption))
         ·
          refine At rfl ?_
          refine NR ⟨[(19, vI (begT start W (List.getD l 0 default) (List.getD o 0 0))), (20, vI (begE start W (List.getD l 0 default) (List.getD o 0 0))), (21, vI (badB start W (List.getD l 0 default) (List.getD o 0 0))), (22, vI (begF W (List.getD l 0 default) (List.getD o 0 0)))], []⟩ (sb rfl rfl rfl) rfl ?_
          refine mv rfl ?_
          refine mv rfl ?_
          refine RO (Body.eql rfl rfl) ?_
          refine mv rfl ?_
          refine RG.cons (EfR.sym rfl (fun hc => Body.move rfl) rfl) ?_
          refine RG.cons (EfR.sym rfl (fun hc => Body.move rfl) rfl) ?_
          refine RG.cons (EfR.sym rfl (fun hc => Body.eql (ev1_gd rfl hc) (ev1_gd rfl hc)) rfl) ?_
          refine RO (Body.pick rfl rfl rfl (gdB rfl) rfl (pick_and _)) ?_
          refine mv rfl ?_
          refine RG.cons (EfR.sym rfl (fun hc => Body.call (ha) rfl rfl rfl) rfl) ?_
          refine RO (Body.pick rfl rfl rfl (gdB rfl) rfl (pick_and _)) ?_
          refine ag rfl ?_
          refine RN ?_
          refine Ap rfl ?_
          refine TK.ret ?_
          refine PK.ret ?_
          refine leaf (val0 := vB (bif (bif (decide ((begE start W (List.getD l 0 default) (List.getD o 0 0)) = (badB start W (List.getD l 0 default) (List.getD o 0 0)))) then (decide ((begT start W (List.getD l 0 default) (List.getD o 0 0)) = (begF W (List.getD l 0 default) (List.getD o 0 0)))) else false) then true else false)) (by kernel_rfl) ?_
          exact lb (by first
          | rfl
          | exact g0 (by assumption)
          | exact g1 (start := start) (W := W) (l := l) (o := o) (by assumption) (by assumption)
          | exact g2 (start := start) (W := W) (l := l) (o := o) (by assumption) (by assumption)
          | exact f1 (by assumption)
          | exact f2 (by assumption) (by assumption)
          | exact f3 (by assumption) (by assumption))
        ·
         refine At rfl ?_
         refine NR ⟨[(19, vI (begT start W (List.getD l 0 default) (List.getD o 0 0))), (20, vI (begE start W (List.getD l 0 default) (List.getD o 0 0))), (21, vI (badB start W (List.getD l 0 default) (List.getD o 0 0))), (22, vI 0)], []⟩ (sb rfl rfl rfl) rfl ?_
         refine mv rfl ?_
         refine mv rfl ?_
         refine RO (Body.eql rfl rfl) ?_
         refine mv rfl ?_
         refine RG.cons (EfR.sym rfl (fun hc => Body.move rfl) rfl) ?_
         refine RG.cons (EfR.sym rfl (fun hc => Body.move rfl) rfl) ?_
         refine RG.cons (EfR.sym rfl (fun hc => Body.eql (ev1_gd rfl hc) (ev1_gd rfl hc)) rfl) ?_
         refine RO (Body.pick rfl rfl rfl (gdB rfl) rfl (pick_and _)) ?_
         refine mv rfl ?_
         refine RG.cons (EfR.sym rfl (fun hc => Body.call (ha) rfl rfl rfl) rfl) ?_
         refine RO (Body.pick rfl rfl rfl (gdB rfl) rfl (pick_and _)) ?_
         refine ag rfl ?_
         refine RN ?_
         refine Ap rfl ?_
         refine TK.ret ?_
         refine PK.ret ?_
         refine leaf (val0 := vB (bif (bif (decide ((begE start W (List.getD l 0 default) (List.getD o 0 0)) = (badB start W (List.getD l 0 default) (List.getD o 0 0)))) then (decide ((begT start W (List.getD l 0 default) (List.getD o 0 0)) = 0)) else false) then true else false)) (by kernel_rfl) ?_
         exact lb (by first
          | rfl
          | exact g0 (by assumption)
          | exact g1 (start := start) (W := W) (l := l) (o := o) (by assumption) (by assumption)
          | exact g2 (start := start) (W := W) (l := l) (o := o) (by assumption) (by assumption)
          | exact f1 (by assumption)
          | exact f2 (by assumption) (by assumption)
          | exact f3 (by assumption) (by assumption))
      ·
       refine At rfl ?_
       refine NR ⟨[(3, .bref 4 0), (7, .bref 8 0), (9, vI (chkNightF start W)), (17, vI (List.getD o 0 0)), (18, .bref 19 0)], [(4, .box 24 [vI start, vL eI W]), (8, .box 26 [vI start, vL eI W]), (19, .box 46 [vS ⟨#[]⟩, vI 0, vI 0, vI 0, vI 0, vI 0, vI 0])]⟩ (sb rfl rfl rfl) rfl ?_
       refine RO (Body.fadB rfl fa46_0 rfl) ?_
       refine RO (Body.loadB rfl rfl rfl ag9 sz9 rfl) ?_
       refine RO (Body.lenS rfl un9) ?_
       refine RO (Body.gtr rfl rfl) ?_
       refine RN ?_
       refine Ap rfl ?_
       refine TK.norm ⟨[(3, .bref 4 0), (7, .bref 8 0), (9, vI (chkNightF start W)), (17, vI (List.getD o 0 0)), (18, .bref 19 0), (106, vB (decide (40 < ((ByteArray.size ⟨#[]⟩ : Nat) : Int))))], [(4, .box 24 [vI start, vL eI W]), (8, .box 26 [vI start, vL eI W]), (19, .box 46 [vS ⟨#[]⟩, vI 0, vI 0, vI 0, vI 0, vI 0, vI 0])]⟩ (sb rfl rfl rfl) ?_
       refine TK.condP rfl (fun h10 => ?_) (fun h10 => ?_)
       ·
        refine At rfl ?_
        refine NR ⟨[], []⟩ (sb rfl rfl rfl) rfl ?_
        refine RO (Body.call (ha) rfl rfl rfl) ?_
        refine ag rfl ?_
        refine RN ?_
        refine Ap rfl ?_
        refine TK.ret ?_
        refine PK.ret ?_
        refine leaf (val0 := vB true) (by kernel_rfl) ?_
        exact rfl
       ·
        refine At rfl ?_
        refine NR ⟨[(3, .bref 4 0), (7, .bref 8 0), (9, vI (chkNightF start W)), (17, vI (List.getD o 0 0)), (18, .bref 19 0)], [(4, .box 24 [vI start, vL eI W]), (8, .box 26 [vI start, vL eI W]), (19, .box 46 [vS ⟨#[]⟩, vI 0, vI 0, vI 0, vI 0, vI 0, vI 0])]⟩ (sb rfl rfl rfl) rfl ?_
        refine RO (Body.loadBA rfl rfl rfl ag24 sz24 rfl rfl) ?_
        refine RO (Body.loadBA rfl rfl rfl ag46 sz46 rfl rfl) ?_
        refine mv rfl ?_
        refine RO (Body.call (w30 start W default (List.getD o 0 0) (by first | omega | exact Nat.le_of_ble_eq_true rfl | (simp only [List.length_take, List.length_drop]; omega))) rfl rfl rfl) ?_
        refine rn rfl ?_
        refine rn rfl ?_
        refine rn rfl ?_
        refine ag rfl ?_
        refine ag rfl ?_
        refine RN ?_
        refine Ap rfl ?_
        refine NR ⟨[(7, .bref 8 0), (9, vI (chkNightF start W)), (17, vI (List.getD o 0 0)), (18, .bref 19 0), (19, vI (begT start W default (List.getD o 0 0))), (20, vI (begE start W default (List.getD o 0 0)))], [(8, .box 26 [vI start, vL eI W]), (19, .box 46 [vS ⟨#[]⟩, vI 0, vI 0, vI 0, vI 0, vI 0, vI 0])]⟩ (sb rfl rfl rfl) rfl ?_
        refine mv rfl ?_
        refine RO (Body.loadBA rfl rfl rfl ag46 sz46 rfl rfl) ?_
        refine RO (Body.runZ (val := .pv (.slice (List.map eT [default]))) rfl (fun l => Frz.arr l _ _ _ _ _) rfl) ?_
        refine RO (Body.call (w21 [default] (by first | omega | exact Nat.le_of_ble_eq_true rfl | (simp only [List.length_take, List.length_drop]; omega))) rfl rfl rfl) ?_
        refine mv rfl ?_
        refine RO (Body.lss rfl rfl) ?_
        refine mv rfl ?_
        refine RG.cons (EfR.sym rfl (fun hc => Body.move rfl) rfl) ?_
        refine RG.cons (EfR.sym rfl (fun hc => Body.gtr (ev1_gd rfl hc) rfl) rfl) ?_
        refine RO (Body.pick rfl rfl rfl rfl (gdB rfl) (pick_or _)) ?_
        refine RO (Body.call (w28 (bif (decide ((List.getD o 0 0) < 0)) then true else (decide (1440 < (List.getD o 0 0)))) 3) rfl rfl rfl) ?_
        refine RO (Body.runZ (val := .pv (.slice (List.map eI [(chkNightF start W), (chkTgtsF [default]), (whenF (bif (decide ((List.getD o 0 0) < 0)) then true else (decide (1440 < (List.getD o 0 0)))) 3)]))) rfl (fun l => Frz.arr l _ _ _ _ _) rfl) ?_
        refine RO (Body.call (w25 [(chkNightF start W), (chkTgtsF [default]), (whenF (bif (decide ((List.getD o 0 0) < 0)) then true else (decide (1440 < (List.getD o 0 0)))) 3)] (Nat.le_of_ble_eq_true rfl)) rfl rfl rfl) ?_
        refine ag rfl ?_
        refine RN ?_
        refine Ap rfl ?_
        refine NR ⟨[(7, .bref 8 0), (17, vI (List.getD o 0 0)), (18, .bref 19 0), (19, vI (begT start W default (List.getD o 0 0))), (20, vI (begE start W default (List.getD o 0 0))), (21, vI (firstF [(chkNightF start W), (chkTgtsF [default]), (whenF (bif (decide ((List.getD o 0 0) < 0)) then true else (decide (1440 < (List.getD o 0 0)))) 3)]))], [(8, .box 26 [vI start, vL eI W]), (19, .box 46 [vS ⟨#[]⟩, vI 0, vI 0, vI 0, vI 0, vI 0, vI 0])]⟩ (sb rfl rfl rfl) rfl ?_
        refine ag rfl ?_
        refine RN ?_
        refine Ap rfl ?_
        refine TK.norm ⟨[(7, .bref 8 0), (17, vI (List.getD o 0 0)), (18, .bref 19 0), (19, vI (begT start W default (List.getD o 0 0))), (20, vI (begE start W default (List.getD o 0 0))), (21, vI (firstF [(chkNightF start W), (chkTgtsF [default]), (whenF (bif (decide ((List.getD o 0 0) < 0)) then true else (decide (1440 < (List.getD o 0 0)))) 3)])), (22, vI 0)], [(8, .box 26 [vI start, vL eI W]), (19, .box 46 [vS ⟨#[]⟩, vI 0, vI 0, vI 0, vI 0, vI 0, vI 0])]⟩ (sb rfl rfl rfl) ?_
        rw [badB_eq]
        refine TK.rg (Y := tab) mixed rfl ?_
        refine mv rfl ?_
        refine RO (Body.eql rfl rfl) ?_
        refine RN ?_
        refine Ap rfl ?_
        refine TK.norm ⟨[(7, .bref 8 0), (17, vI (List.getD o 0 0)), (18, .bref 19 0), (19, vI (begT start W default (List.getD o 0 0))), (20, vI (begE start W default (List.getD o 0 0))), (21, vI (badB start W default (List.getD o 0 0))), (22, vI 0), (129, vB (decide ((badB start W default (List.getD o 0 0)) = 0)))], [(8, .box 26 [vI start, vL eI W]), (19, .box 46 [vS ⟨#[]⟩, vI 0, vI 0, vI 0, vI 0, vI 0, vI 0])]⟩ (sb rfl rfl rfl) ?_
        refine TK.condP rfl (fun h11 => ?_) (fun h11 => ?_)
        ·
         refine At rfl ?_
         refine TK.norm ⟨[(7, .bref 8 0), (17, vI (List.getD o 0 0)), (18, .bref 19 0), (19, vI (begT start W default (List.getD o 0 0))), (20, vI (begE start W default (List.getD o 0 0))), (21, vI (badB start W default (List.getD o 0 0)))], [(8, .box 26 [vI start, vL eI W]), (19, .box 46 [vS ⟨#[]⟩, vI 0, vI 0, vI 0, vI 0, vI 0, vI 0])]⟩ (sb rfl rfl rfl) ?_
         obtain ⟨hq1, hq2, hq3⟩ := beg_parts (by assumption : badB start W default (List.getD o 0 0) = 0)
         refine TK.rg (Y := tab) mixed rfl ?_
         refine RO (Body.loadBA rfl rfl rfl ag26 sz26 rfl rfl) ?_
         refine RO (Body.loadBA rfl rfl rfl ag46 sz46 rfl rfl) ?_
         refine mv rfl ?_
         refine RO (Body.call (w31 start W default (List.getD o 0 0) (by first | omega | (unfold apartF; omega))) rfl rfl rfl) ?_
         refine ag rfl ?_
         refine RN ?_
         refine Ap rfl ?_
         refine NR ⟨[(19, vI (begT start W default (List.getD o 0 0))), (20, vI (begE start W default (List.getD o 0 0))), (21, vI (badB start W default (List.getD o 0 0))), (22, vI (begF W default (List.getD o 0 0)))], []⟩ (sb rfl rfl rfl) rfl ?_
         refine mv rfl ?_
         refine RO (Body.lss rfl rfl) ?_
         refine RN ?_
         refine Ap rfl ?_
         refine TK.norm ⟨[(19, vI (begT start W default (List.getD o 0 0))), (20, vI (begE start W default (List.getD o 0 0))), (21, vI (badB start W default (List.getD o 0 0))), (22, vI (begF W default (List.getD o 0 0))), (135, vB (decide ((begF W default (List.getD o 0 0)) < 0)))], []⟩ (sb rfl rfl rfl) ?_
         refine TK.condP rfl (fun h12 => ?_) (fun h12 => ?_)
         ·
          refine At rfl ?_
          refine NR ⟨[(19, vI (begT start W default (List.getD o 0 0))), (20, vI (begE start W default (List.getD o 0 0)))], []⟩ (sb rfl rfl rfl) rfl ?_
          refine ag rfl ?_
          refine ag rfl ?_
          refine RN ?_
          refine Ap rfl ?_
          refine NR ⟨[(19, vI (begT start W default (List.getD o 0 0))), (20, vI (begE start W default (List.getD o 0 0))), (21, vI 7), (22, vI 0)], []⟩ (sb rfl rfl rfl) rfl ?_
          refine mv rfl ?_
          refine mv rfl ?_
          refine RO (Body.eql rfl rfl) ?_
          refine mv rfl ?_
          refine RG.cons (EfR.sym rfl (fun hc => Body.move rfl) rfl) ?_
          refine RG.cons (EfR.sym rfl (fun hc => Body.move rfl) rfl) ?_
          refine RG.cons (EfR.sym rfl (fun hc => Body.eql (ev1_gd rfl hc) (ev1_gd rfl hc)) rfl) ?_
          refine RO (Body.pick rfl rfl rfl (gdB rfl) rfl (pick_and _)) ?_
          refine mv rfl ?_
          refine RG.cons (EfR.sym rfl (fun hc => Body.call (ha) rfl rfl rfl) rfl) ?_
          refine RO (Body.pick rfl rfl rfl (gdB rfl) rfl (pick_and _)) ?_
          refine ag rfl ?_
          refine RN ?_
          refine Ap rfl ?_
          refine TK.ret ?_
          refine PK.ret ?_
          refine leaf (val0 := vB (bif (bif (decide ((begE start W default (List.getD o 0 0)) = 7)) then (decide ((begT start W default (List.getD o 0 0)) = 0)) else false) then true else false)) (by kernel_rfl) ?_
          exact lb (by first
          | rfl
          | exact g0 (by assumption)
          | exact g1 (start := start) (W := W) (l := l) (o := o) (by assumption) (by assumption)
          | exact g2 (start := start) (W := W) (l := l) (o := o) (by assumption) (by assumption)
          | exact f1 (by assumption)
          | exact f2 (by assumption) (by assumption)
          | exact f3 (by assumption) (by assumption))
         ·
          refine At rfl ?_
          refine NR ⟨[(19, vI (begT start W default (List.getD o 0 0))), (20, vI (begE start W default (List.getD o 0 0))), (21, vI (badB start W default (List.getD o 0 0))), (22, vI (begF W default (List.getD o 0 0)))], []⟩ (sb rfl rfl rfl) rfl ?_
          refine mv rfl ?_
          refine mv rfl ?_
          refine RO (Body.eql rfl rfl) ?_
          refine mv rfl ?_
          refine RG.cons (EfR.sym rfl (fun hc => Body.move rfl) rfl) ?_
          refine RG.cons (EfR.sym rfl (fun hc => Body.move rfl) rfl) ?_
          refine RG.cons (EfR.sym rfl (fun hc => Body.eql (ev1_gd rfl hc) (ev1_gd rfl hc)) rfl) ?_
          refine RO (Body.pick rfl rfl rfl (gdB rfl) rfl (pick_and _)) ?_
          refine mv rfl ?_
          refine RG.cons (EfR.sym rfl (fun hc => Body.call (ha) rfl rfl rfl) rfl) ?_
          refine RO (Body.pick rfl rfl rfl (gdB rfl) rfl (pick_and _)) ?_
          refine ag rfl ?_
          refine RN ?_
          refine Ap rfl ?_
          refine TK.ret ?_
          refine PK.ret ?_
          refine leaf (val0 := vB (bif (bif (decide ((begE start W default (List.getD o 0 0)) = (badB start W default (List.getD o 0 0)))) then (decide ((begT start W default (List.getD o 0 0)) = (begF W default (List.getD o 0 0)))) else false) then true else false)) (by kernel_rfl) ?_
          exact lb (by first
          | rfl
          | exact g0 (by assumption)
          | exact g1 (start := start) (W := W) (l := l) (o := o) (by assumption) (by assumption)
          | exact g2 (start := start) (W := W) (l := l) (o := o) (by assumption) (by assumption)
          | exact f1 (by assumption)
          | exact f2 (by assumption) (by assumption)
          | exact f3 (by assumption) (by assumption))
        ·
         refine At rfl ?_
         refine NR ⟨[(19, vI (begT start W default (List.getD o 0 0))), (20, vI (begE start W default (List.getD o 0 0))), (21, vI (badB start W default (List.getD o 0 0))), (22, vI 0)], []⟩ (sb rfl rfl rfl) rfl ?_
         refine mv rfl ?_
         refine mv rfl ?_
         refine RO (Body.eql rfl rfl) ?_
         refine mv rfl ?_
         refine RG.cons (EfR.sym rfl (fun hc => Body.move rfl) rfl) ?_
         refine RG.cons (EfR.sym rfl (fun hc => Body.move rfl) rfl) ?_
         refine RG.cons (EfR.sym rfl (fun hc => Body.eql (ev1_gd rfl hc) (ev1_gd rfl hc)) rfl) ?_
         refine RO (Body.pick rfl rfl rfl (gdB rfl) rfl (pick_and _)) ?_
         refine mv rfl ?_
         refine RG.cons (EfR.sym rfl (fun hc => Body.call (ha) rfl rfl rfl) rfl) ?_
         refine RO (Body.pick rfl rfl rfl (gdB rfl) rfl (pick_and _)) ?_
         refine ag rfl ?_
         refine RN ?_
         refine Ap rfl ?_
         refine TK.ret ?_
         refine PK.ret ?_
         refine leaf (val0 := vB (bif (bif (decide ((begE start W default (List.getD o 0 0)) = (badB start W default (List.getD o 0 0)))) then (decide ((begT start W default (List.getD o 0 0)) = 0)) else false) then true else false)) (by kernel_rfl) ?_
         exact lb (by first
          | rfl
          | exact g0 (by assumption)
          | exact g1 (start := start) (W := W) (l := l) (o := o) (by assumption) (by assumption)
          | exact g2 (start := start) (W := W) (l := l) (o := o) (by assumption) (by assumption)
          | exact f1 (by assumption)
          | exact f2 (by assumption) (by assumption)
          | exact f3 (by assumption) (by assumption))
     ·
      refine At rfl ?_
      refine NR ⟨[(1, vL eT l), (3, .bref 4 0), (7, .bref 8 0), (9, vI (chkNightF start W)), (17, vI 0)], [(4, .box 24 [vI start, vL eI W]), (8, .box 26 [vI start, vL eI W])]⟩ (sb rfl rfl rfl) rfl ?_
      refine rn rfl ?_
      refine RN ?_
      refine Ap rfl ?_
      refine NR ⟨[(1, vL eT l), (3, .bref 4 0), (7, .bref 8 0), (9, vI (chkNightF start W)), (17, vI 0), (18, .bref 19 0)], [(4, .box 24 [vI start, vL eI W]), (8, .box 26 [vI start, vL eI W]), (19, .box 46 [vS ⟨#[]⟩, vI 0, vI 0, vI 0, vI 0, vI 0, vI 0])]⟩ (sb rfl rfl rfl) rfl ?_
      refine mv rfl ?_
      refine RO (Body.lenL rfl un25) ?_
      refine RO (Body.gtr rfl rfl) ?_
      refine RN ?_
      refine Ap rfl ?_
      refine TK.norm ⟨[(1, vL eT l), (3, .bref 4 0), (7, .bref 8 0), (9, vI (chkNightF start W)), (17, vI 0), (18, .bref 19 0), (99, vB (decide (0 < ((List.length l : Nat) : Int))))], [(4, .box 24 [vI start, vL eI W]), (8, .box 26 [vI start, vL eI W]), (19, .box 46 [vS ⟨#[]⟩, vI 0, vI 0, vI 0, vI 0, vI 0, vI 0])]⟩ (sb rfl rfl rfl) ?_
      refine TK.condP rfl (fun h13 => ?_) (fun h13 => ?_)
      ·
       refine At rfl ?_
       refine NR ⟨[(1, vL eT l), (3, .bref 4 0), (7, .bref 8 0), (9, vI (chkNightF start W)), (17, vI 0), (18, .bref 19 0)], [(4, .box 24 [vI start, vL eI W]), (8, .box 26 [vI start, vL eI W]), (19, .box 46 [vS ⟨#[]⟩, vI 0, vI 0, vI 0, vI 0, vI 0, vI 0])]⟩ (sb rfl rfl rfl) rfl ?_
       refine mv rfl ?_
       refine RO (Body.idx (z := default) (i := 0) rfl rfl un25 sz46 (fun _ => rfl) rfl (by omega)) ?_
       refine RO (Body.loadA (ds := [pS (Tgt.name (List.getD l 0 default)), pI (Tgt.bright (List.getD l 0 default)), pI (Tgt.place (List.getD l 0 default)), pI (Tgt.length (List.getD l 0 default)), pI (Tgt.from_ (List.getD l 0 default)), pI (Tgt.to (List.getD l 0 default)), pI (Tgt.limit (List.getD l 0 default))]) rfl ag46 sz46 (Nat.le_of_ble_eq_true rfl) rfl) ?_
       refine rn rfl ?_
       refine RN ?_
       refine Ap rfl ?_
       refine NR ⟨[(3, .bref 4 0), (7, .bref 8 0), (9, vI (chkNightF start W)), (17, vI 0), (18, .bref 19 0)], [(4, .box 24 [vI start, vL eI W]), (8, .box 26 [vI start, vL eI W]), (19, .box 46 [vS (Tgt.name (List.getD l 0 default)), vI (Tgt.bright (List.getD l 0 default)), vI (Tgt.place (List.getD l 0 default)), vI (Tgt.length (List.getD l 0 default)), vI (Tgt.from_ (List.getD l 0 default)), vI (Tgt.to (List.getD l 0 default)), vI (Tgt.limit (List.getD l 0 default))])]⟩ (sb rfl rfl rfl) rfl ?_
       refine RO (Body.fadB rfl fa46_0 rfl) ?_
       refine RO (Body.loadB rfl rfl rfl ag9 sz9 rfl) ?_
       refine RO (Body.lenS rfl un9) ?_
       refine RO (Body.gtr rfl rfl) ?_
       refine RN ?_
       refine Ap rfl ?_
       refine TK.norm ⟨[(3, .bref 4 0), (7, .bref 8 0), (9, vI (chkNightF start W)), (17, vI 0), (18, .bref 19 0), (106, vB (decide (40 < ((ByteArray.size (Tgt.name (List.getD l 0 default)) : Nat) : Int))))], [(4, .box 24 [vI start, vL eI W]), (8, .box 26 [vI start, vL eI W]), (19, .box 46 [vS (Tgt.name (List.getD l 0 default)), vI (Tgt.bright (List.getD l 0 default)), vI (Tgt.place (List.getD l 0 default)), vI (Tgt.length (List.getD l 0 default)), vI (Tgt.from_ (List.getD l 0 default)), vI (Tgt.to (List.getD l 0 default)), vI (Tgt.limit (List.getD l 0 default))])]⟩ (sb rfl rfl rfl) ?_
       refine TK.condP rfl (fun h14 => ?_) (fun h14 => ?_)
       ·
        refine At rfl ?_
        refine NR ⟨[], []⟩ (sb rfl rfl rfl) rfl ?_
        refine RO (Body.call (ha) rfl rfl rfl) ?_
        refine ag rfl ?_
        refine RN ?_
        refine Ap rfl ?_
        refine TK.ret ?_
        refine PK.ret ?_
        refine leaf (val0 := vB true) (by kernel_rfl) ?_
        exact rfl
       ·
        refine At rfl ?_
        refine NR ⟨[(3, .bref 4 0), (7, .bref 8 0), (9, vI (chkNightF start W)), (17, vI 0), (18, .bref 19 0)], [(4, .box 24 [vI start, vL eI W]), (8, .box 26 [vI start, vL eI W]), (19, .box 46 [vS (Tgt.name (List.getD l 0 default)), vI (Tgt.bright (List.getD l 0 default)), vI (Tgt.place (List.getD l 0 default)), vI (Tgt.length (List.getD l 0 default)), vI (Tgt.from_ (List.getD l 0 default)), vI (Tgt.to (List.getD l 0 default)), vI (Tgt.limit (List.getD l 0 default))])]⟩ (sb rfl rfl rfl) rfl ?_
        refine RO (Body.loadBA rfl rfl rfl ag24 sz24 rfl rfl) ?_
        refine RO (Body.loadBA rfl rfl rfl ag46 sz46 rfl rfl) ?_
        refine mv rfl ?_
        refine RO (Body.call (w30 start W (List.getD l 0 default) 0 (by first | omega | exact Nat.le_of_ble_eq_true rfl | (simp only [List.length_take, List.length_drop]; omega))) rfl rfl rfl) ?_
        refine rn rfl ?_
        refine rn rfl ?_
        refine rn rfl ?_
        refine ag rfl ?_
        refine ag rfl ?_
        refine RN ?_
        refine Ap rfl ?_
        refine NR ⟨[(7, .bref 8 0), (9, vI (chkNightF start W)), (17, vI 0), (18, .bref 19 0), (19, vI (begT start W (List.getD l 0 default) 0)), (20, vI (begE start W (List.getD l 0 default) 0))], [(8, .box 26 [vI start, vL eI W]), (19, .box 46 [vS (Tgt.name (List.getD l 0 default)), vI (Tgt.bright (List.getD l 0 default)), vI (Tgt.place (List.getD l 0 default)), vI (Tgt.length (List.getD l 0 default)), vI (Tgt.from_ (List.getD l 0 default)), vI (Tgt.to (List.getD l 0 default)), vI (Tgt.limit (List.getD l 0 default))])]⟩ (sb rfl rfl rfl) rfl ?_
        refine mv rfl ?_
        refine RO (Body.loadBA rfl rfl rfl ag46 sz46 rfl rfl) ?_
        refine RO (Body.runZ (val := .pv (.slice (List.map eT [(List.getD l 0 default)]))) rfl (fun l => Frz.arr l _ _ _ _ _) rfl) ?_
        refine RO (Body.call (w21 [(List.getD l 0 default)] (by first | omega | exact Nat.le_of_ble_eq_true rfl | (simp only [List.length_take, List.length_drop]; omega))) rfl rfl rfl) ?_
        refine mv rfl ?_
        refine RO (Body.lss rfl rfl) ?_
        refine mv rfl ?_
        refine RG.cons (EfR.sym rfl (fun hc => Body.move rfl) rfl) ?_
        refine RG.cons (EfR.sym rfl (fun hc => Body.gtr (ev1_gd rfl hc) rfl) rfl) ?_
        refine RO (Body.pick rfl rfl rfl rfl (gdB rfl) (pick_or _)) ?_
        refine RO (Body.call (w28 (bif (decide (0 < 0)) then true else (decide (1440 < 0))) 3) rfl rfl rfl) ?_
        refine RO (Body.runZ (val := .pv (.slice (List.map eI [(chkNightF start W), (chkTgtsF [(List.getD l 0 default)]), (whenF (bif (decide (0 < 0)) then true else (decide (1440 < 0))) 3)]))) rfl (fun l => Frz.arr l _ _ _ _ _) rfl) ?_
        refine RO (Body.call (w25 [(chkNightF start W), (chkTgtsF [(List.getD l 0 default)]), (whenF (bif (decide (0 < 0)) then true else (decide (1440 < 0))) 3)] (Nat.le_of_ble_eq_true rfl)) rfl rfl rfl) ?_
        refine ag rfl ?_
        refine RN ?_
        refine Ap rfl ?_
        refine NR ⟨[(7, .bref 8 0), (17, vI 0), (18, .bref 19 0), (19, vI (begT start W (List.getD l 0 default) 0)), (20, vI (begE start W (List.getD l 0 default) 0)), (21, vI (firstF [(chkNightF start W), (chkTgtsF [(List.getD l 0 default)]), (whenF (bif (decide (0 < 0)) then true else (decide (1440 < 0))) 3)]))], [(8, .box 26 [vI start, vL eI W]), (19, .box 46 [vS (Tgt.name (List.getD l 0 default)), vI (Tgt.bright (List.getD l 0 default)), vI (Tgt.place (List.getD l 0 default)), vI (Tgt.length (List.getD l 0 default)), vI (Tgt.from_ (List.getD l 0 default)), vI (Tgt.to (List.getD l 0 default)), vI (Tgt.limit (List.getD l 0 default))])]⟩ (sb rfl rfl rfl) rfl ?_
        refine ag rfl ?_
        refine RN ?_
        refine Ap rfl ?_
        refine TK.norm ⟨[(7, .bref 8 0), (17, vI 0), (18, .bref 19 0), (19, vI (begT start W (List.getD l 0 default) 0)), (20, vI (begE start W (List.getD l 0 default) 0)), (21, vI (firstF [(chkNightF start W), (chkTgtsF [(List.getD l 0 default)]), (whenF (bif (decide (0 < 0)) then true else (decide (1440 < 0))) 3)])), (22, vI 0)], [(8, .box 26 [vI start, vL eI W]), (19, .box 46 [vS (Tgt.name (List.getD l 0 default)), vI (Tgt.bright (List.getD l 0 default)), vI (Tgt.place (List.getD l 0 default)), vI (Tgt.length (List.getD l 0 default)), vI (Tgt.from_ (List.getD l 0 default)), vI (Tgt.to (List.getD l 0 default)), vI (Tgt.limit (List.getD l 0 default))])]⟩ (sb rfl rfl rfl) ?_
        rw [badB_eq]
        refine TK.rg (Y := tab) mixed rfl ?_
        refine mv rfl ?_
        refine RO (Body.eql rfl rfl) ?_
        refine RN ?_
        refine Ap rfl ?_
        refine TK.norm ⟨[(7, .bref 8 0), (17, vI 0), (18, .bref 19 0), (19, vI (begT start W (List.getD l 0 default) 0)), (20, vI (begE start W (List.getD l 0 default) 0)), (21, vI (badB start W (List.getD l 0 default) 0)), (22, vI 0), (129, vB (decide ((badB start W (List.getD l 0 default) 0) = 0)))], [(8, .box 26 [vI start, vL eI W]), (19, .box 46 [vS (Tgt.name (List.getD l 0 default)), vI (Tgt.bright (List.getD l 0 default)), vI (Tgt.place (List.getD l 0 default)), vI (Tgt.length (List.getD l 0 default)), vI (Tgt.from_ (List.getD l 0 default)), vI (Tgt.to (List.getD l 0 default)), vI (Tgt.limit (List.getD l 0 default))])]⟩ (sb rfl rfl rfl) ?_
        refine TK.condP rfl (fun h15 => ?_) (fun h15 => ?_)
        ·
         refine At rfl ?_
         refine TK.norm ⟨[(7, .bref 8 0), (17, vI 0), (18, .bref 19 0), (19, vI (begT start W (List.getD l 0 default) 0)), (20, vI (begE start W (List.getD l 0 default) 0)), (21, vI (badB start W (List.getD l 0 default) 0))], [(8, .box 26 [vI start, vL eI W]), (19, .box 46 [vS (Tgt.name (List.getD l 0 default)), vI (Tgt.bright (List.getD l 0 default)), vI (Tgt.place (List.getD l 0 default)), vI (Tgt.length (List.getD l 0 default)), vI (Tgt.from_ (List.getD l 0 default)), vI (Tgt.to (List.getD l 0 default)), vI (Tgt.limit (List.getD l 0 default))])]⟩ (sb rfl rfl rfl) ?_
         obtain ⟨hq1, hq2, hq3⟩ := beg_parts (by assumption : badB start W (List.getD l 0 default) 0 = 0)
         refine TK.rg (Y := tab) mixed rfl ?_
         refine RO (Body.loadBA rfl rfl rfl ag26 sz26 rfl rfl) ?_
         refine RO (Body.loadBA rfl rfl rfl ag46 sz46 rfl rfl) ?_
         refine mv rfl ?_
         refine RO (Body.call (w31 start W (List.getD l 0 default) 0 (by first | omega | (unfold apartF; omega))) rfl rfl rfl) ?_
         refine ag rfl ?_
         refine RN ?_
         refine Ap rfl ?_
         refine NR ⟨[(19, vI (begT start W (List.getD l 0 default) 0)), (20, vI (begE start W (List.getD l 0 default) 0)), (21, vI (badB start W (List.getD l 0 default) 0)), (22, vI (begF W (List.getD l 0 default) 0))], []⟩ (sb rfl rfl rfl) rfl ?_
         refine mv rfl ?_
         refine RO (Body.lss rfl rfl) ?_
         refine RN ?_
         refine Ap rfl ?_
         refine TK.norm ⟨[(19, vI (begT start W (List.getD l 0 default) 0)), (20, vI (begE start W (List.getD l 0 default) 0)), (21, vI (badB start W (List.getD l 0 default) 0)), (22, vI (begF W (List.getD l 0 default) 0)), (135, vB (decide ((begF W (List.getD l 0 default) 0) < 0)))], []⟩ (sb rfl rfl rfl) ?_
         refine TK.condP rfl (fun h16 => ?_) (fun h16 => ?_)
         ·
          refine At rfl ?_
          refine NR ⟨[(19, vI (begT start W (List.getD l 0 default) 0)), (20, vI (begE start W (List.getD l 0 default) 0))], []⟩ (sb rfl rfl rfl) rfl ?_
          refine ag rfl ?_
          refine ag rfl ?_
          refine RN ?_
          refine Ap rfl ?_
          refine NR ⟨[(19, vI (begT start W (List.getD l 0 default) 0)), (20, vI (begE start W (List.getD l 0 default) 0)), (21, vI 7), (22, vI 0)], []⟩ (sb rfl rfl rfl) rfl ?_
          refine mv rfl ?_
          refine mv rfl ?_
          refine RO (Body.eql rfl rfl) ?_
          refine mv rfl ?_
          refine RG.cons (EfR.sym rfl (fun hc => Body.move rfl) rfl) ?_
          refine RG.cons (EfR.sym rfl (fun hc => Body.move rfl) rfl) ?_
          refine RG.cons (EfR.sym rfl (fun hc => Body.eql (ev1_gd rfl hc) (ev1_gd rfl hc)) rfl) ?_
          refine RO (Body.pick rfl rfl rfl (gdB rfl) rfl (pick_and _)) ?_
          refine mv rfl ?_
          refine RG.cons (EfR.sym rfl (fun hc => Body.call (ha) rfl rfl rfl) rfl) ?_
          refine RO (Body.pick rfl rfl rfl (gdB rfl) rfl (pick_and _)) ?_
          refine ag rfl ?_
          refine RN ?_
          refine Ap rfl ?_
          refine TK.ret ?_
          refine PK.ret ?_
          refine leaf (val0 := vB (bif (bif (decide ((begE start W (List.getD l 0 default) 0) = 7)) then (decide ((begT start W (List.getD l 0 default) 0) = 0)) else false) then true else false)) (by kernel_rfl) ?_
          exact lb (by first
          | rfl
          | exact g0 (by assumption)
          | exact g1 (start := start) (W := W) (l := l) (o := o) (by assumption) (by assumption)
          | exact g2 (start := start) (W := W) (l := l) (o := o) (by assumption) (by assumption)
          | exact f1 (by assumption)
          | exact f2 (by assumption) (by assumption)
          | exact f3 (by assumption) (by assumption))
         ·
          refine At rfl ?_
          refine NR ⟨[(19, vI (begT start W (List.getD l 0 default) 0)), (20, vI (begE start W (List.getD l 0 default) 0)), (21, vI (badB start W (List.getD l 0 default) 0)), (22, vI (begF W (List.getD l 0 default) 0))], []⟩ (sb rfl rfl rfl) rfl ?_
          refine mv rfl ?_
          refine mv rfl ?_
          refine RO (Body.eql rfl rfl) ?_
          refine mv rfl ?_
          refine RG.cons (EfR.sym rfl (fun hc => Body.move rfl) rfl) ?_
          refine RG.cons (EfR.sym rfl (fun hc => Body.move rfl) rfl) ?_
          refine RG.cons (EfR.sym rfl (fun hc => Body.eql (ev1_gd rfl hc) (ev1_gd rfl hc)) rfl) ?_
          refine RO (Body.pick rfl rfl rfl (gdB rfl) rfl (pick_and _)) ?_
          refine mv rfl ?_
          refine RG.cons (EfR.sym rfl (fun hc => Body.call (ha) rfl rfl rfl) rfl) ?_
          refine RO (Body.pick rfl rfl rfl (gdB rfl) rfl (pick_and _)) ?_
          refine ag rfl ?_
          refine RN ?_
          refine Ap rfl ?_
          refine TK.ret ?_
          refine PK.ret ?_
          refine leaf (val0 := vB (bif (bif (decide ((begE start W (List.getD l 0 default) 0) = (badB start W (List.getD l 0 default) 0))) then (decide ((begT start W (List.getD l 0 default) 0) = (begF W (List.getD l 0 default) 0))) else false) then true else false)) (by kernel_rfl) ?_
          exact lb (by first
          | rfl
          | exact g0 (by assumption)
          | exact g1 (start := start) (W := W) (l := l) (o := o) (by assumption) (by assumption)
          | exact g2 (start := start) (W := W) (l := l) (o := o) (by assumption) (by assumption)
          | exact f1 (by assumption)
          | exact f2 (by assumption) (by assumption)
          | exact f3 (by assumption) (by assumption))
        ·
         refine At rfl ?_
         refine NR ⟨[(19, vI (begT start W (List.getD l 0 default) 0)), (20, vI (begE start W (List.getD l 0 default) 0)), (21, vI (badB start W (List.getD l 0 default) 0)), (22, vI 0)], []⟩ (sb rfl rfl rfl) rfl ?_
         refine mv rfl ?_
         refine mv rfl ?_
         refine RO (Body.eql rfl rfl) ?_
         refine mv rfl ?_
         refine RG.cons (EfR.sym rfl (fun hc => Body.move rfl) rfl) ?_
         refine RG.cons (EfR.sym rfl (fun hc => Body.move rfl) rfl) ?_
         refine RG.cons (EfR.sym rfl (fun hc => Body.eql (ev1_gd rfl hc) (ev1_gd rfl hc)) rfl) ?_
         refine RO (Body.pick rfl rfl rfl (gdB rfl) rfl (pick_and _)) ?_
         refine mv rfl ?_
         refine RG.cons (EfR.sym rfl (fun hc => Body.call (ha) rfl rfl rfl) rfl) ?_
         refine RO (Body.pick rfl rfl rfl (gdB rfl) rfl (pick_and _)) ?_
         refine ag rfl ?_
         refine RN ?_
         refine Ap rfl ?_
         refine TK.ret ?_
         refine PK.ret ?_
         refine leaf (val0 := vB (bif (bif (decide ((begE start W (List.getD l 0 default) 0) = (badB start W (List.getD l 0 default) 0))) then (decide ((begT start W (List.getD l 0 default) 0) = 0)) else false) then true else false)) (by kernel_rfl) ?_
         exact lb (by first
          | rfl
          | exact g0 (by assumption)
          | exact g1 (start := start) (W := W) (l := l) (o := o) (by assumption) (by assumption)
          | exact g2 (start := start) (W := W) (l := l) (o := o) (by assumption) (by assumption)
          | exact f1 (by assumption)
          | exact f2 (by assumption) (by assumption)
          | exact f3 (by assumption) (by assumption))
      ·
       refine At rfl ?_
       refine NR ⟨[(3, .bref 4 0), (7, .bref 8 0), (9, vI (chkNightF start W)), (17, vI 0), (18, .bref 19 0)], [(4, .box 24 [vI start, vL eI W]), (8, .box 26 [vI start, vL eI W]), (19, .box 46 [vS ⟨#[]⟩, vI 0, vI 0, vI 0, vI 0, vI 0, vI 0])]⟩ (sb rfl rfl rfl) rfl ?_
       refine RO (Body.fadB rfl fa46_0 rfl) ?_
       refine RO (Body.loadB rfl rfl rfl ag9 sz9 rfl) ?_
       refine RO (Body.lenS rfl un9) ?_
       refine RO (Body.gtr rfl rfl) ?_
       refine RN ?_
       refine Ap rfl ?_
       refine TK.norm ⟨[(3, .bref 4 0), (7, .bref 8 0), (9, vI (chkNightF start W)), (17, vI 0), (18, .bref 19 0), (106, vB (decide (40 < ((ByteArray.size ⟨#[]⟩ : Nat) : Int))))], [(4, .box 24 [vI start, vL eI W]), (8, .box 26 [vI start, vL eI W]), (19, .box 46 [vS ⟨#[]⟩, vI 0, vI 0, vI 0, vI 0, vI 0, vI 0])]⟩ (sb rfl rfl rfl) ?_
       refine TK.condP rfl (fun h17 => ?_) (fun h17 => ?_)
       ·
        refine At rfl ?_
        refine NR ⟨[], []⟩ (sb rfl rfl rfl) rfl ?_
        refine RO (Body.call (ha) rfl rfl rfl) ?_
        refine ag rfl ?_
        refine RN ?_
        refine Ap rfl ?_
        refine TK.ret ?_
        refine PK.ret ?_
        refine leaf (val0 := vB true) (by kernel_rfl) ?_
        exact rfl
       ·
        refine At rfl ?_
        refine NR ⟨[(3, .bref 4 0), (7, .bref 8 0), (9, vI (chkNightF start W)), (17, vI 0), (18, .bref 19 0)], [(4, .box 24 [vI start, vL eI W]), (8, .box 26 [vI start, vL eI W]), (19, .box 46 [vS ⟨#[]⟩, vI 0, vI 0, vI 0, vI 0, vI 0, vI 0])]⟩ (sb rfl rfl rfl) rfl ?_
        refine RO (Body.loadBA rfl rfl rfl ag24 sz24 rfl rfl) ?_
        refine RO (Body.loadBA rfl rfl rfl ag46 sz46 rfl rfl) ?_
        refine mv rfl ?_
        refine RO (Body.call (w30 start W default 0 (by first | omega | exact Nat.le_of_ble_eq_true rfl | (simp only [List.length_take, List.length_drop]; omega))) rfl rfl rfl) ?_
        refine rn rfl ?_
        refine rn rfl ?_
        refine rn rfl ?_
        refine ag rfl ?_
        refine ag rfl ?_
        refine RN ?_
        refine Ap rfl ?_
        refine NR ⟨[(7, .bref 8 0), (9, vI (chkNightF start W)), (17, vI 0), (18, .bref 19 0), (19, vI (begT start W default 0)), (20, vI (begE start W default 0))], [(8, .box 26 [vI start, vL eI W]), (19, .box 46 [vS ⟨#[]⟩, vI 0, vI 0, vI 0, vI 0, vI 0, vI 0])]⟩ (sb rfl rfl rfl) rfl ?_
        refine mv rfl ?_
        refine RO (Body.loadBA rfl rfl rfl ag46 sz46 rfl rfl) ?_
        refine RO (Body.runZ (val := .pv (.slice (List.map eT [default]))) rfl (fun l => Frz.arr l _ _ _ _ _) rfl) ?_
        refine RO (Body.call (w21 [default] (by first | omega | exact Nat.le_of_ble_eq_true rfl | (simp only [List.length_take, List.length_drop]; omega))) rfl rfl rfl) ?_
        refine mv rfl ?_
        refine RO (Body.lss rfl rfl) ?_
        refine mv rfl ?_
        refine RG.cons (EfR.sym rfl (fun hc => Body.move rfl) rfl) ?_
        refine RG.cons (EfR.sym rfl (fun hc => Body.gtr (ev1_gd rfl hc) rfl) rfl) ?_
        refine RO (Body.pick rfl rfl rfl rfl (gdB rfl) (pick_or _)) ?_
        refine RO (Body.call (w28 (bif (decide (0 < 0)) then true else (decide (1440 < 0))) 3) rfl rfl rfl) ?_
        refine RO (Body.runZ (val := .pv (.slice (List.map eI [(chkNightF start W), (chkTgtsF [default]), (whenF (bif (decide (0 < 0)) then true else (decide (1440 < 0))) 3)]))) rfl (fun l => Frz.arr l _ _ _ _ _) rfl) ?_
        refine RO (Body.call (w25 [(chkNightF start W), (chkTgtsF [default]), (whenF (bif (decide (0 < 0)) then true else (decide (1440 < 0))) 3)] (Nat.le_of_ble_eq_true rfl)) rfl rfl rfl) ?_
        refine ag rfl ?_
        refine RN ?_
        refine Ap rfl ?_
        refine NR ⟨[(7, .bref 8 0), (17, vI 0), (18, .bref 19 0), (19, vI (begT start W default 0)), (20, vI (begE start W default 0)), (21, vI (firstF [(chkNightF start W), (chkTgtsF [default]), (whenF (bif (decide (0 < 0)) then true else (decide (1440 < 0))) 3)]))], [(8, .box 26 [vI start, vL eI W]), (19, .box 46 [vS ⟨#[]⟩, vI 0, vI 0, vI 0, vI 0, vI 0, vI 0])]⟩ (sb rfl rfl rfl) rfl ?_
        refine ag rfl ?_
        refine RN ?_
        refine Ap rfl ?_
        refine TK.norm ⟨[(7, .bref 8 0), (17, vI 0), (18, .bref 19 0), (19, vI (begT start W default 0)), (20, vI (begE start W default 0)), (21, vI (firstF [(chkNightF start W), (chkTgtsF [default]), (whenF (bif (decide (0 < 0)) then true else (decide (1440 < 0))) 3)])), (22, vI 0)], [(8, .box 26 [vI start, vL eI W]), (19, .box 46 [vS ⟨#[]⟩, vI 0, vI 0, vI 0, vI 0, vI 0, vI 0])]⟩ (sb rfl rfl rfl) ?_
        rw [badB_eq]
        refine TK.rg (Y := tab) mixed rfl ?_
        refine mv rfl ?_
        refine RO (Body.eql rfl rfl) ?_
        refine RN ?_
        refine Ap rfl ?_
        refine TK.norm ⟨[(7, .bref 8 0), (17, vI 0), (18, .bref 19 0), (19, vI (begT start W default 0)), (20, vI (begE start W default 0)), (21, vI (badB start W default 0)), (22, vI 0), (129, vB (decide ((badB start W default 0) = 0)))], [(8, .box 26 [vI start, vL eI W]), (19, .box 46 [vS ⟨#[]⟩, vI 0, vI 0, vI 0, vI 0, vI 0, vI 0])]⟩ (sb rfl rfl rfl) ?_
        refine TK.condP rfl (fun h18 => ?_) (fun h18 => ?_)
        ·
         refine At rfl ?_
         refine TK.norm ⟨[(7, .bref 8 0), (17, vI 0), (18, .bref 19 0), (19, vI (begT start W default 0)), (20, vI (begE start W default 0)), (21, vI (badB start W default 0))], [(8, .box 26 [vI start, vL eI W]), (19, .box 46 [vS ⟨#[]⟩, vI 0, vI 0, vI 0, vI 0, vI 0, vI 0])]⟩ (sb rfl rfl rfl) ?_
         obtain ⟨hq1, hq2, hq3⟩ := beg_parts (by assumption : badB start W default 0 = 0)
         refine TK.rg (Y := tab) mixed rfl ?_
         refine RO (Body.loadBA rfl rfl rfl ag26 sz26 rfl rfl) ?_
         refine RO (Body.loadBA rfl rfl rfl ag46 sz46 rfl rfl) ?_
         refine mv rfl ?_
         refine RO (Body.call (w31 start W default 0 (by first | omega | (unfold apartF; omega))) rfl rfl rfl) ?_
         refine ag rfl ?_
         refine RN ?_
         refine Ap rfl ?_
         refine NR ⟨[(19, vI (begT start W default 0)), (20, vI (begE start W default 0)), (21, vI (badB start W default 0)), (22, vI (begF W default 0))], []⟩ (sb rfl rfl rfl) rfl ?_
         refine mv rfl ?_
         refine RO (Body.lss rfl rfl) ?_
         refine RN ?_
         refine Ap rfl ?_
         refine TK.norm ⟨[(19, vI (begT start W default 0)), (20, vI (begE start W default 0)), (21, vI (badB start W default 0)), (22, vI (begF W default 0)), (135, vB (decide ((begF W default 0) < 0)))], []⟩ (sb rfl rfl rfl) ?_
         refine TK.condP rfl (fun h19 => ?_) (fun h19 => ?_)
         ·
          refine At rfl ?_
          refine NR ⟨[(19, vI (begT start W default 0)), (20, vI (begE start W default 0))], []⟩ (sb rfl rfl rfl) rfl ?_
          refine ag rfl ?_
          refine ag rfl ?_
          refine RN ?_
          refine Ap rfl ?_
          refine NR ⟨[(19, vI (begT start W default 0)), (20, vI (begE start W default 0)), (21, vI 7), (22, vI 0)], []⟩ (sb rfl rfl rfl) rfl ?_
          refine mv rfl ?_
          refine mv rfl ?_
          refine RO (Body.eql rfl rfl) ?_
          refine mv rfl ?_
          refine RG.cons (EfR.sym rfl (fun hc => Body.move rfl) rfl) ?_
          refine RG.cons (EfR.sym rfl (fun hc => Body.move rfl) rfl) ?_
          refine RG.cons (EfR.sym rfl (fun hc => Body.eql (ev1_gd rfl hc) (ev1_gd rfl hc)) rfl) ?_
          refine RO (Body.pick rfl rfl rfl (gdB rfl) rfl (pick_and _)) ?_
          refine mv rfl ?_
          refine RG.cons (EfR.sym rfl (fun hc => Body.call (ha) rfl rfl rfl) rfl) ?_
          refine RO (Body.pick rfl rfl rfl (gdB rfl) rfl (pick_and _)) ?_
          refine ag rfl ?_
          refine RN ?_
          refine Ap rfl ?_
          refine TK.ret ?_
          refine PK.ret ?_
          refine leaf (val0 := vB (bif (bif (decide ((begE start W default 0) = 7)) then (decide ((begT start W default 0) = 0)) else false) then true else false)) (by kernel_rfl) ?_
          exact lb (by first
          | rfl
          | exact g0 (by assumption)
          | exact g1 (start := start) (W := W) (l := l) (o := o) (by assumption) (by assumption)
          | exact g2 (start := start) (W := W) (l := l) (o := o) (by assumption) (by assumption)
          | exact f1 (by assumption)
          | exact f2 (by assumption) (by assumption)
          | exact f3 (by assumption) (by assumption))
         ·
          refine At rfl ?_
          refine NR ⟨[(19, vI (begT start W default 0)), (20, vI (begE start W default 0)), (21, vI (badB start W default 0)), (22, vI (begF W default 0))], []⟩ (sb rfl rfl rfl) rfl ?_
          refine mv rfl ?_
          refine mv rfl ?_
          refine RO (Body.eql rfl rfl) ?_
          refine mv rfl ?_
          refine RG.cons (EfR.sym rfl (fun hc => Body.move rfl) rfl) ?_
          refine RG.cons (EfR.sym rfl (fun hc => Body.move rfl) rfl) ?_
          refine RG.cons (EfR.sym rfl (fun hc => Body.eql (ev1_gd rfl hc) (ev1_gd rfl hc)) rfl) ?_
          refine RO (Body.pick rfl rfl rfl (gdB rfl) rfl (pick_and _)) ?_
          refine mv rfl ?_
          refine RG.cons (EfR.sym rfl (fun hc => Body.call (ha) rfl rfl rfl) rfl) ?_
          refine RO (Body.pick rfl rfl rfl (gdB rfl) rfl (pick_and _)) ?_
          refine ag rfl ?_
          refine RN ?_
          refine Ap rfl ?_
          refine TK.ret ?_
          refine PK.ret ?_
          refine leaf (val0 := vB (bif (bif (decide ((begE start W default 0) = (badB start W default 0))) then (decide ((begT start W default 0) = (begF W default 0))) else false) then true else false)) (by kernel_rfl) ?_
          exact lb (by first
          | rfl
          | exact g0 (by assumption)
          | exact g1 (start := start) (W := W) (l := l) (o := o) (by assumption) (by assumption)
          | exact g2 (start := start) (W := W) (l := l) (o := o) (by assumption) (by assumption)
          | exact f1 (by assumption)
          | exact f2 (by assumption) (by assumption)
          | exact f3 (by assumption) (by assumption))
        ·
         refine At rfl ?_
         refine NR ⟨[(19, vI (begT start W default 0)), (20, vI (begE start W default 0)), (21, vI (badB start W default 0)), (22, vI 0)], []⟩ (sb rfl rfl rfl) rfl ?_
         refine mv rfl ?_
         refine mv rfl ?_
         refine RO (Body.eql rfl rfl) ?_
         refine mv rfl ?_
         refine RG.cons (EfR.sym rfl (fun hc => Body.move rfl) rfl) ?_
         refine RG.cons (EfR.sym rfl (fun hc => Body.move rfl) rfl) ?_
         refine RG.cons (EfR.sym rfl (fun hc => Body.eql (ev1_gd rfl hc) (ev1_gd rfl hc)) rfl) ?_
         refine RO (Body.pick rfl rfl rfl (gdB rfl) rfl (pick_and _)) ?_
         refine mv rfl ?_
         refine RG.cons (EfR.sym rfl (fun hc => Body.call (ha) rfl rfl rfl) rfl) ?_
         refine RO (Body.pick rfl rfl rfl (gdB rfl) rfl (pick_and _)) ?_
         refine ag rfl ?_
         refine RN ?_
         refine Ap rfl ?_
         refine TK.ret ?_
         refine PK.ret ?_
         refine leaf (val0 := vB (bif (bif (decide ((begE start W default 0) = (badB start W default 0))) then (decide ((begT start W default 0) = 0)) else false) then true else false)) (by kernel_rfl) ?_
         exact lb (by first
          | rfl
          | exact g0 (by assumption)
          | exact g1 (start := start) (W := W) (l := l) (o := o) (by assumption) (by assumption)
          | exact g2 (start := start) (W := W) (l := l) (o := o) (by assumption) (by assumption)
          | exact f1 (by assumption)
          | exact f2 (by assumption) (by assumption)
          | exact f3 (by assumption) (by assumption))
   ·
    refine At rfl ?_
    refine NR ⟨[(1, vL eT l), (2, vL eI o), (3, .bref 4 0), (7, .bref 8 0), (9, vI (chkNightF start W)), (11, vL eI (tlT start W l o)), (12, vI (tlE start W l o)), (13, vI (firstF [(chkNightF start W), (chkTgtsF l), (chkOrdF ((List.length l : Nat) : Int) o)])), (14, vL eI [])], [(4, .box 24 [vI start, vL eI W]), (8, .box 26 [vI start, vL eI W])]⟩ (sb rfl rfl rfl) rfl ?_
    refine mv rfl ?_
    refine mv rfl ?_
    refine RO (Body.neq rfl rfl) ?_
    refine mv rfl ?_
    refine RG.cons (EfR.sym rfl (fun hc => Body.move rfl) rfl) ?_
    refine RG.cons (EfR.sym rfl (fun hc => Body.move rfl) rfl) ?_
    refine RG.cons (EfR.sym rfl (fun hc => Body.call (w29 (tlT start W l o) [] (by first | omega | exact Nat.le_trans (tlT_len _ _ _ _) (by omega))) rfl (ds2 (ev1_gd rfl hc) (ev1_gd rfl hc)) rfl) rfl) ?_
    refine RG.cons (EfR.sym rfl (fun hc => Body.not (ev1_gd rfl hc)) rfl) ?_
    refine RO (Body.pick rfl rfl rfl rfl (gdB rfl) (pick_or _)) ?_
    refine RN ?_
    refine Ap rfl ?_
    refine TK.norm ⟨[(1, vL eT l), (2, vL eI o), (3, .bref 4 0), (7, .bref 8 0), (9, vI (chkNightF start W)), (90, vB (bif (decide ((tlE start W l o) ≠ (firstF [(chkNightF start W), (chkTgtsF l), (chkOrdF ((List.length l : Nat) : Int) o)]))) then true else (!(decide ((tlT start W l o) = [])))))], [(4, .box 24 [vI start, vL eI W]), (8, .box 26 [vI start, vL eI W])]⟩ (sb rfl rfl rfl) ?_
    refine TK.cond rfl (fun h20 => ?_) (fun h20 => ?_)
    ·
     refine At rfl ?_
     refine NR ⟨[], []⟩ (sb rfl rfl rfl) rfl ?_
     refine ag rfl ?_
     refine RN ?_
     refine Ap rfl ?_
     refine TK.ret ?_
     refine PK.ret ?_
     refine leaf (val0 := vB false) (by kernel_rfl) ?_
     exact lb (by first
          | rfl
          | exact g0 (by assumption)
          | exact g1 (start := start) (W := W) (l := l) (o := o) (by assumption) (by assumption)
          | exact g2 (start := start) (W := W) (l := l) (o := o) (by assumption) (by assumption)
          | exact f1 (by assumption)
          | exact f2 (by assumption) (by assumption)
          | exact f3 (by assumption) (by assumption))
    ·
     refine At rfl ?_
     refine NR ⟨[(1, vL eT l), (2, vL eI o), (3, .bref 4 0), (7, .bref 8 0), (9, vI (chkNightF start W))], [(4, .box 24 [vI start, vL eI W]), (8, .box 26 [vI start, vL eI W])]⟩ (sb rfl rfl rfl) rfl ?_
     refine ag rfl ?_
     refine RN ?_
     refine Ap rfl ?_
     refine NR ⟨[(1, vL eT l), (2, vL eI o), (3, .bref 4 0), (7, .bref 8 0), (9, vI (chkNightF start W)), (17, vI 0)], [(4, .box 24 [vI start, vL eI W]), (8, .box 26 [vI start, vL eI W])]⟩ (sb rfl rfl rfl) rfl ?_
     refine mv rfl ?_
     refine RO (Body.lenL rfl un22) ?_
     refine RO (Body.gtr rfl rfl) ?_
     refine RN ?_
     refine Ap rfl ?_
     refine TK.norm ⟨[(1, vL eT l), (2, vL eI o), (3, .bref 4 0), (7, .bref 8 0), (9, vI (chkNightF start W)), (17, vI 0), (93, vB (decide (0 < ((List.length o : Nat) : Int))))], [(4, .box 24 [vI start, vL eI W]), (8, .box 26 [vI start, vL eI W])]⟩ (sb rfl rfl rfl) ?_
     refine TK.condP rfl (fun h21 => ?_) (fun h21 => ?_)
     ·
      refine At rfl ?_
      refine NR ⟨[(1, vL eT l), (2, vL eI o), (3, .bref 4 0), (7, .bref 8 0), (9, vI (chkNightF start W))], [(4, .box 24 [vI start, vL eI W]), (8, .box 26 [vI start, vL eI W])]⟩ (sb rfl rfl rfl) rfl ?_
      refine mv rfl ?_
      refine RO (Body.idx (z := 0) (i := 0) rfl rfl un22 sz3 (fun _ => rfl) rfl (by omega)) ?_
      refine RO (Body.loadP rfl ag3 sz3) ?_
      refine ag rfl ?_
      refine RN ?_
      refine Ap rfl ?_
      refine NR ⟨[(1, vL eT l), (3, .bref 4 0), (7, .bref 8 0), (9, vI (chkNightF start W)), (17, vI (List.getD o 0 0))], [(4, .box 24 [vI start, vL eI W]), (8, .box 26 [vI start, vL eI W])]⟩ (sb rfl rfl rfl) rfl ?_
      refine rn rfl ?_
      refine RN ?_
      refine Ap rfl ?_
      refine NR ⟨[(1, vL eT l), (3, .bref 4 0), (7, .bref 8 0), (9, vI (chkNightF start W)), (17, vI (List.getD o 0 0)), (18, .bref 19 0)], [(4, .box 24 [vI start, vL eI W]), (8, .box 26 [vI start, vL eI W]), (19, .box 46 [vS ⟨#[]⟩, vI 0, vI 0, vI 0, vI 0, vI 0, vI 0])]⟩ (sb rfl rfl rfl) rfl ?_
      refine mv rfl ?_
      refine RO (Body.lenL rfl un25) ?_
      refine RO (Body.gtr rfl rfl) ?_
      refine RN ?_
      refine Ap rfl ?_
      refine TK.norm ⟨[(1, vL eT l), (3, .bref 4 0), (7, .bref 8 0), (9, vI (chkNightF start W)), (17, vI (List.getD o 0 0)), (18, .bref 19 0), (99, vB (decide (0 < ((List.length l : Nat) : Int))))], [(4, .box 24 [vI start, vL eI W]), (8, .box 26 [vI start, vL eI W]), (19, .box 46 [vS ⟨#[]⟩, vI 0, vI 0, vI 0, vI 0, vI 0, vI 0])]⟩ (sb rfl rfl rfl) ?_
      refine TK.condP rfl (fun h22 => ?_) (fun h22 => ?_)
      ·
       refine At rfl ?_
       refine NR ⟨[(1, vL eT l), (3, .bref 4 0), (7, .bref 8 0), (9, vI (chkNightF start W)), (17, vI (List.getD o 0 0)), (18, .bref 19 0)], [(4, .box 24 [vI start, vL eI W]), (8, .box 26 [vI start, vL eI W]), (19, .box 46 [vS ⟨#[]⟩, vI 0, vI 0, vI 0, vI 0, vI 0, vI 0])]⟩ (sb rfl rfl rfl) rfl ?_
       refine mv rfl ?_
       refine RO (Body.idx (z := default) (i := 0) rfl rfl un25 sz46 (fun _ => rfl) rfl (by omega)) ?_
       refine RO (Body.loadA (ds := [pS (Tgt.name (List.getD l 0 default)), pI (Tgt.bright (List.getD l 0 default)), pI (Tgt.place (List.getD l 0 default)), pI (Tgt.length (List.getD l 0 default)), pI (Tgt.from_ (List.getD l 0 default)), pI (Tgt.to (List.getD l 0 default)), pI (Tgt.limit (List.getD l 0 default))]) rfl ag46 sz46 (Nat.le_of_ble_eq_true rfl) rfl) ?_
       refine rn rfl ?_
       refine RN ?_
       refine Ap rfl ?_
       refine NR ⟨[(3, .bref 4 0), (7, .bref 8 0), (9, vI (chkNightF start W)), (17, vI (List.getD o 0 0)), (18, .bref 19 0)], [(4, .box 24 [vI start, vL eI W]), (8, .box 26 [vI start, vL eI W]), (19, .box 46 [vS (Tgt.name (List.getD l 0 default)), vI (Tgt.bright (List.getD l 0 default)), vI (Tgt.place (List.getD l 0 default)), vI (Tgt.length (List.getD l 0 default)), vI (Tgt.from_ (List.getD l 0 default)), vI (Tgt.to (List.getD l 0 default)), vI (Tgt.limit (List.getD l 0 default))])]⟩ (sb rfl rfl rfl) rfl ?_
       refine RO (Body.fadB rfl fa46_0 rfl) ?_
       refine RO (Body.loadB rfl rfl rfl ag9 sz9 rfl) ?_
       refine RO (Body.lenS rfl un9) ?_
       refine RO (Body.gtr rfl rfl) ?_
       refine RN ?_
       refine Ap rfl ?_
       refine TK.norm ⟨[(3, .bref 4 0), (7, .bref 8 0), (9, vI (chkNightF start W)), (17, vI (List.getD o 0 0)), (18, .bref 19 0), (106, vB (decide (40 < ((ByteArray.size (Tgt.name (List.getD l 0 default)) : Nat) : Int))))], [(4, .box 24 [vI start, vL eI W]), (8, .box 26 [vI start, vL eI W]), (19, .box 46 [vS (Tgt.name (List.getD l 0 default)), vI (Tgt.bright (List.getD l 0 default)), vI (Tgt.place (List.getD l 0 default)), vI (Tgt.length (List.getD l 0 default)), vI (Tgt.from_ (List.getD l 0 default)), vI (Tgt.to (List.getD l 0 default)), vI (Tgt.limit (List.getD l 0 default))])]⟩ (sb rfl rfl rfl) ?_
       refine TK.condP rfl (fun h23 => ?_) (fun h23 => ?_)
       ·
        refine At rfl ?_
        refine NR ⟨[], []⟩ (sb rfl rfl rfl) rfl ?_
        refine RO (Body.call (ha) rfl rfl rfl) ?_
        refine ag rfl ?_
        refine RN ?_
        refine Ap rfl ?_
        refine TK.ret ?_
        refine PK.ret ?_
        refine leaf (val0 := vB true) (by kernel_rfl) ?_
        exact rfl
       ·
        refine At rfl ?_
        refine NR ⟨[(3, .bref 4 0), (7, .bref 8 0), (9, vI (chkNightF start W)), (17, vI (List.getD o 0 0)), (18, .bref 19 0)], [(4, .box 24 [vI start, vL eI W]), (8, .box 26 [vI start, vL eI W]), (19, .box 46 [vS (Tgt.name (List.getD l 0 default)), vI (Tgt.bright (List.getD l 0 default)), vI (Tgt.place (List.getD l 0 default)), vI (Tgt.length (List.getD l 0 default)), vI (Tgt.from_ (List.getD l 0 default)), vI (Tgt.to (List.getD l 0 default)), vI (Tgt.limit (List.getD l 0 default))])]⟩ (sb rfl rfl rfl) rfl ?_
        refine RO (Body.loadBA rfl rfl rfl ag24 sz24 rfl rfl) ?_
        refine RO (Body.loadBA rfl rfl rfl ag46 sz46 rfl rfl) ?_
        refine mv rfl ?_
        refine RO (Body.call (w30 start W (List.getD l 0 default) (List.getD o 0 0) (by first | omega | exact Nat.le_of_ble_eq_true rfl | (simp only [List.length_take, List.length_drop]; omega))) rfl rfl rfl) ?_
        refine rn rfl ?_
        refine rn rfl ?_
        refine rn rfl ?_
        refine ag rfl ?_
        refine ag rfl ?_
        refine RN ?_
        refine Ap rfl ?_
        refine NR ⟨[(7, .bref 8 0), (9, vI (chkNightF start W)), (17, vI (List.getD o 0 0)), (18, .bref 19 0), (19, vI (begT start W (List.getD l 0 default) (List.getD o 0 0))), (20, vI (begE start W (List.getD l 0 default) (List.getD o 0 0)))], [(8, .box 26 [vI start, vL eI W]), (19, .box 46 [vS (Tgt.name (List.getD l 0 default)), vI (Tgt.bright (List.getD l 0 default)), vI (Tgt.place (List.getD l 0 default)), vI (Tgt.length (List.getD l 0 default)), vI (Tgt.from_ (List.getD l 0 default)), vI (Tgt.to (List.getD l 0 default)), vI (Tgt.limit (List.getD l 0 default))])]⟩ (sb rfl rfl rfl) rfl ?_
        refine mv rfl ?_
        refine RO (Body.loadBA rfl rfl rfl ag46 sz46 rfl rfl) ?_
        refine RO (Body.runZ (val := .pv (.slice (List.map eT [(List.getD l 0 default)]))) rfl (fun l => Frz.arr l _ _ _ _ _) rfl) ?_
        refine RO (Body.call (w21 [(List.getD l 0 default)] (by first | omega | exact Nat.le_of_ble_eq_true rfl | (simp only [List.length_take, List.length_drop]; omega))) rfl rfl rfl) ?_
        refine mv rfl ?_
        refine RO (Body.lss rfl rfl) ?_
        refine mv rfl ?_
        refine RG.cons (EfR.sym rfl (fun hc => Body.move rfl) rfl) ?_
        refine RG.cons (EfR.sym rfl (fun hc => Body.gtr (ev1_gd rfl hc) rfl) rfl) ?_
        refine RO (Body.pick rfl rfl rfl rfl (gdB rfl) (pick_or _)) ?_
        refine RO (Body.call (w28 (bif (decide ((List.getD o 0 0) < 0)) then true else (decide (1440 < (List.getD o 0 0)))) 3) rfl rfl rfl) ?_
        refine RO (Body.runZ (val := .pv (.slice (List.map eI [(chkNightF start W), (chkTgtsF [(List.getD l 0 default)]), (whenF (bif (decide ((List.getD o 0 0) < 0)) then true else (decide (1440 < (List.getD o 0 0)))) 3)]))) rfl (fun l => Frz.arr l _ _ _ _ _) rfl) ?_
        refine RO (Body.call (w25 [(chkNightF start W), (chkTgtsF [(List.getD l 0 default)]), (whenF (bif (decide ((List.getD o 0 0) < 0)) then true else (decide (1440 < (List.getD o 0 0)))) 3)] (Nat.le_of_ble_eq_true rfl)) rfl rfl rfl) ?_
        refine ag rfl ?_
        refine RN ?_
        refine Ap rfl ?_
        refine NR ⟨[(7, .bref 8 0), (17, vI (List.getD o 0 0)), (18, .bref 19 0), (19, vI (begT start W (List.getD l 0 default) (List.getD o 0 0))), (20, vI (begE start W (List.getD l 0 default) (List.getD o 0 0))), (21, vI (firstF [(chkNightF start W), (chkTgtsF [(List.getD l 0 default)]), (whenF (bif (decide ((List.getD o 0 0) < 0)) then true else (decide (1440 < (List.getD o 0 0)))) 3)]))], [(8, .box 26 [vI start, vL eI W]), (19, .box 46 [vS (Tgt.name (List.getD l 0 default)), vI (Tgt.bright (List.getD l 0 default)), vI (Tgt.place (List.getD l 0 default)), vI (Tgt.length (List.getD l 0 default)), vI (Tgt.from_ (List.getD l 0 default)), vI (Tgt.to (List.getD l 0 default)), vI (Tgt.limit (List.getD l 0 default))])]⟩ (sb rfl rfl rfl) rfl ?_
        refine ag rfl ?_
        refine RN ?_
        refine Ap rfl ?_
        refine TK.norm ⟨[(7, .bref 8 0), (17, vI (List.getD o 0 0)), (18, .bref 19 0), (19, vI (begT start W (List.getD l 0 default) (List.getD o 0 0))), (20, vI (begE start W (List.getD l 0 default) (List.getD o 0 0))), (21, vI (firstF [(chkNightF start W), (chkTgtsF [(List.getD l 0 default)]), (whenF (bif (decide ((List.getD o 0 0) < 0)) then true else (decide (1440 < (List.getD o 0 0)))) 3)])), (22, vI 0)], [(8, .box 26 [vI start, vL eI W]), (19, .box 46 [vS (Tgt.name (List.getD l 0 default)), vI (Tgt.bright (List.getD l 0 default)), vI (Tgt.place (List.getD l 0 default)), vI (Tgt.length (List.getD l 0 default)), vI (Tgt.from_ (List.getD l 0 default)), vI (Tgt.to (List.getD l 0 default)), vI (Tgt.limit (List.getD l 0 default))])]⟩ (sb rfl rfl rfl) ?_
        rw [badB_eq]
        refine TK.rg (Y := tab) mixed rfl ?_
        refine mv rfl ?_
        refine RO (Body.eql rfl rfl) ?_
        refine RN ?_
        refine Ap rfl ?_
        refine TK.norm ⟨[(7, .bref 8 0), (17, vI (List.getD o 0 0)), (18, .bref 19 0), (19, vI (begT start W (List.getD l 0 default) (List.getD o 0 0))), (20, vI (begE start W (List.getD l 0 default) (List.getD o 0 0))), (21, vI (badB start W (List.getD l 0 default) (List.getD o 0 0))), (22, vI 0), (129, vB (decide ((badB start W (List.getD l 0 default) (List.getD o 0 0)) = 0)))], [(8, .box 26 [vI start, vL eI W]), (19, .box 46 [vS (Tgt.name (List.getD l 0 default)), vI (Tgt.bright (List.getD l 0 default)), vI (Tgt.place (List.getD l 0 default)), vI (Tgt.length (List.getD l 0 default)), vI (Tgt.from_ (List.getD l 0 default)), vI (Tgt.to (List.getD l 0 default)), vI (Tgt.limit (List.getD l 0 default))])]⟩ (sb rfl rfl rfl) ?_
        refine TK.condP rfl (fun h24 => ?_) (fun h24 => ?_)
        ·
         refine At rfl ?_
         refine TK.norm ⟨[(7, .bref 8 0), (17, vI (List.getD o 0 0)), (18, .bref 19 0), (19, vI (begT start W (List.getD l 0 default) (List.getD o 0 0))), (20, vI (begE start W (List.getD l 0 default) (List.getD o 0 0))), (21, vI (badB start W (List.getD l 0 default) (List.getD o 0 0)))], [(8, .box 26 [vI start, vL eI W]), (19, .box 46 [vS (Tgt.name (List.getD l 0 default)), vI (Tgt.bright (List.getD l 0 default)), vI (Tgt.place (List.getD l 0 default)), vI (Tgt.length (List.getD l 0 default)), vI (Tgt.from_ (List.getD l 0 default)), vI (Tgt.to (List.getD l 0 default)), vI (Tgt.limit (List.getD l 0 default))])]⟩ (sb rfl rfl rfl) ?_
         obtain ⟨hq1, hq2, hq3⟩ := beg_parts (by assumption : badB start W (List.getD l 0 default) (List.getD o 0 0) = 0)
         refine TK.rg (Y := tab) mixed rfl ?_
         refine RO (Body.loadBA rfl rfl rfl ag26 sz26 rfl rfl) ?_
         refine RO (Body.loadBA rfl rfl rfl ag46 sz46 rfl rfl) ?_
         refine mv rfl ?_
         refine RO (Body.call (w31 start W (List.getD l 0 default) (List.getD o 0 0) (by first | omega | (unfold apartF; omega))) rfl rfl rfl) ?_
         refine ag rfl ?_
         refine RN ?_
         refine Ap rfl ?_
         refine NR ⟨[(19, vI (begT start W (List.getD l 0 default) (List.getD o 0 0))), (20, vI (begE start W (List.getD l 0 default) (List.getD o 0 0))), (21, vI (badB start W (List.getD l 0 default) (List.getD o 0 0))), (22, vI (begF W (List.getD l 0 default) (List.getD o 0 0)))], []⟩ (sb rfl rfl rfl) rfl ?_
         refine mv rfl ?_
         refine RO (Body.lss rfl rfl) ?_
         refine RN ?_
         refine Ap rfl ?_
         refine TK.norm ⟨[(19, vI (begT start W (List.getD l 0 default) (List.getD o 0 0))), (20, vI (begE start W (List.getD l 0 default) (List.getD o 0 0))), (21, vI (badB start W (List.getD l 0 default) (List.getD o 0 0))), (22, vI (begF W (List.getD l 0 default) (List.getD o 0 0))), (135, vB (decide ((begF W (List.getD l 0 default) (List.getD o 0 0)) < 0)))], []⟩ (sb rfl rfl rfl) ?_
         refine TK.condP rfl (fun h25 => ?_) (fun h25 => ?_)
         ·
          refine At rfl ?_
          refine NR ⟨[(19, vI (begT start W (List.getD l 0 default) (List.getD o 0 0))), (20, vI (begE start W (List.getD l 0 default) (List.getD o 0 0)))], []⟩ (sb rfl rfl rfl) rfl ?_
          refine ag rfl ?_
          refine ag rfl ?_
          refine RN ?_
          refine Ap rfl ?_
          refine NR ⟨[(19, vI (begT start W (List.getD l 0 default) (List.getD o 0 0))), (20, vI (begE start W (List.getD l 0 default) (List.getD o 0 0))), (21, vI 7), (22, vI 0)], []⟩ (sb rfl rfl rfl) rfl ?_
          refine mv rfl ?_
          refine mv rfl ?_
          refine RO (Body.eql rfl rfl) ?_
          refine mv rfl ?_
          refine RG.cons (EfR.sym rfl (fun hc => Body.move rfl) rfl) ?_
          refine RG.cons (EfR.sym rfl (fun hc => Body.move rfl) rfl) ?_
          refine RG.cons (EfR.sym rfl (fun hc => Body.eql (ev1_gd rfl hc) (ev1_gd rfl hc)) rfl) ?_
          refine RO (Body.pick rfl rfl rfl (gdB rfl) rfl (pick_and _)) ?_
          refine mv rfl ?_
          refine RG.cons (EfR.sym rfl (fun hc => Body.call (ha) rfl rfl rfl) rfl) ?_
          refine RO (Body.pick rfl rfl rfl (gdB rfl) rfl (pick_and _)) ?_
          refine ag rfl ?_
          refine RN ?_
          refine Ap rfl ?_
          refine TK.ret ?_
          refine PK.ret ?_
          refine leaf (val0 := vB (bif (bif (decide ((begE start W (List.getD l 0 default) (List.getD o 0 0)) = 7)) then (decide ((begT start W (List.getD l 0 default) (List.getD o 0 0)) = 0)) else false) then true else false)) (by kernel_rfl) ?_
          exact lb (by first
          | rfl
          | exact g0 (by assumption)
          | exact g1 (start := start) (W := W) (l := l) (o := o) (by assumption) (by assumption)
          | exact g2 (start := start) (W := W) (l := l) (o := o) (by assumption) (by assumption)
          | exact f1 (by assumption)
          | exact f2 (by assumption) (by assumption)
          | exact f3 (by assumption) (by assumption))
         ·
          refine At rfl ?_
          refine NR ⟨[(19, vI (begT start W (List.getD l 0 default) (List.getD o 0 0))), (20, vI (begE start W (List.getD l 0 default) (List.getD o 0 0))), (21, vI (badB start W (List.getD l 0 default) (List.getD o 0 0))), (22, vI (begF W (List.getD l 0 default) (List.getD o 0 0)))], []⟩ (sb rfl rfl rfl) rfl ?_
          refine mv rfl ?_
          refine mv rfl ?_
          refine RO (Body.eql rfl rfl) ?_
          refine mv rfl ?_
          refine RG.cons (EfR.sym rfl (fun hc => Body.move rfl) rfl) ?_
          refine RG.cons (EfR.sym rfl (fun hc => Body.move rfl) rfl) ?_
          refine RG.cons (EfR.sym rfl (fun hc => Body.eql (ev1_gd rfl hc) (ev1_gd rfl hc)) rfl) ?_
          refine RO (Body.pick rfl rfl rfl (gdB rfl) rfl (pick_and _)) ?_
          refine mv rfl ?_
          refine RG.cons (EfR.sym rfl (fun hc => Body.call (ha) rfl rfl rfl) rfl) ?_
          refine RO (Body.pick rfl rfl rfl (gdB rfl) rfl (pick_and _)) ?_
          refine ag rfl ?_
          refine RN ?_
          refine Ap rfl ?_
          refine TK.ret ?_
          refine PK.ret ?_
          refine leaf (val0 := vB (bif (bif (decide ((begE start W (List.getD l 0 default) (List.getD o 0 0)) = (badB start W (List.getD l 0 default) (List.getD o 0 0)))) then (decide ((begT start W (List.getD l 0 default) (List.getD o 0 0)) = (begF W (List.getD l 0 default) (List.getD o 0 0)))) else false) then true else false)) (by kernel_rfl) ?_
          exact lb (by first
          | rfl
          | exact g0 (by assumption)
          | exact g1 (start := start) (W := W) (l := l) (o := o) (by assumption) (by assumption)
          | exact g2 (start := start) (W := W) (l := l) (o := o) (by assumption) (by assumption)
          | exact f1 (by assumption)
          | exact f2 (by assumption) (by assumption)
          | exact f3 (by assumption) (by assumption))
        ·
         refine At rfl ?_
         refine NR ⟨[(19, vI (begT start W (List.getD l 0 default) (List.getD o 0 0))), (20, vI (begE start W (List.getD l 0 default) (List.getD o 0 0))), (21, vI (badB start W (List.getD l 0 default) (List.getD o 0 0))), (22, vI 0)], []⟩ (sb rfl rfl rfl) rfl ?_
         refine mv rfl ?_
         refine mv rfl ?_
         refine RO (Body.eql rfl rfl) ?_
         refine mv rfl ?_
         refine RG.cons (EfR.sym rfl (fun hc => Body.move rfl) rfl) ?_
         refine RG.cons (EfR.sym rfl (fun hc => Body.move rfl) rfl) ?_
         refine RG.cons (EfR.sym rfl (fun hc => Body.eql (ev1_gd rfl hc) (ev1_gd rfl hc)) rfl) ?_
         refine RO (Body.pick rfl rfl rfl (gdB rfl) rfl (pick_and _)) ?_
         refine mv rfl ?_
         refine RG.cons (EfR.sym rfl (fun hc => Body.call (ha) rfl rfl rfl) rfl) ?_
         refine RO (Body.pick rfl rfl rfl (gdB rfl) rfl (pick_and _)) ?_
         refine ag rfl ?_
         refine RN ?_
         refine Ap rfl ?_
         refine TK.ret ?_
         refine PK.ret ?_
         refine leaf (val0 := vB (bif (bif (decide ((begE start W (List.getD l 0 default) (List.getD o 0 0)) = (badB start W (List.getD l 0 default) (List.getD o 0 0)))) then (decide ((begT start W (List.getD l 0 default) (List.getD o 0 0)) = 0)) else false) then true else false)) (by kernel_rfl) ?_
         exact lb (by first
          | rfl
          | exact g0 (by assumption)
          | exact g1 (start := start) (W := W) (l := l) (o := o) (by assumption) (by assumption)
          | exact g2 (start := start) (W := W) (l := l) (o := o) (by assumption) (by assumption)
          | exact f1 (by assumption)
          | exact f2 (by assumption) (by assumption)
          | exact f3 (by assumption) (by assumption))
      ·
       refine At rfl ?_
       refine NR ⟨[(3, .bref 4 0), (7, .bref 8 0), (9, vI (chkNightF start W)), (17, vI (List.getD o 0 0)), (18, .bref 19 0)], [(4, .box 24 [vI start, vL eI W]), (8, .box 26 [vI start, vL eI W]), (19, .box 46 [vS ⟨#[]⟩, vI 0, vI 0, vI 0, vI 0, vI 0, vI 0])]⟩ (sb rfl rfl rfl) rfl ?_
       refine RO (Body.fadB rfl fa46_0 rfl) ?_
       refine RO (Body.loadB rfl rfl rfl ag9 sz9 rfl) ?_
       refine RO (Body.lenS rfl un9) ?_
       refine RO (Body.gtr rfl rfl) ?_
       refine RN ?_
       refine Ap rfl ?_
       refine TK.norm ⟨[(3, .bref 4 0), (7, .bref 8 0), (9, vI (chkNightF start W)), (17, vI (List.getD o 0 0)), (18, .bref 19 0), (106, vB (decide (40 < ((ByteArray.size ⟨#[]⟩ : Nat) : Int))))], [(4, .box 24 [vI start, vL eI W]), (8, .box 26 [vI start, vL eI W]), (19, .box 46 [vS ⟨#[]⟩, vI 0, vI 0, vI 0, vI 0, vI 0, vI 0])]⟩ (sb rfl rfl rfl) ?_
       refine TK.condP rfl (fun h26 => ?_) (fun h26 => ?_)
       ·
        refine At rfl ?_
        refine NR ⟨[], []⟩ (sb rfl rfl rfl) rfl ?_
        refine RO (Body.call (ha) rfl rfl rfl) ?_
        refine ag rfl ?_
        refine RN ?_
        refine Ap rfl ?_
        refine TK.ret ?_
        refine PK.ret ?_
        refine leaf (val0 := vB true) (by kernel_rfl) ?_
        exact rfl
       ·
        refine At rfl ?_
        refine NR ⟨[(3, .bref 4 0), (7, .bref 8 0), (9, vI (chkNightF start W)), (17, vI (List.getD o 0 0)), (18, .bref 19 0)], [(4, .box 24 [vI start, vL eI W]), (8, .box 26 [vI start, vL eI W]), (19, .box 46 [vS ⟨#[]⟩, vI 0, vI 0, vI 0, vI 0, vI 0, vI 0])]⟩ (sb rfl rfl rfl) rfl ?_
        refine RO (Body.loadBA rfl rfl rfl ag24 sz24 rfl rfl) ?_
        refine RO (Body.loadBA rfl rfl rfl ag46 sz46 rfl rfl) ?_
        refine mv rfl ?_
        refine RO (Body.call (w30 start W default (List.getD o 0 0) (by first | omega | exact Nat.le_of_ble_eq_true rfl | (simp only [List.length_take, List.length_drop]; omega))) rfl rfl rfl) ?_
        refine rn rfl ?_
        refine rn rfl ?_
        refine rn rfl ?_
        refine ag rfl ?_
        refine ag rfl ?_
        refine RN ?_
        refine Ap rfl ?_
        refine NR ⟨[(7, .bref 8 0), (9, vI (chkNightF start W)), (17, vI (List.getD o 0 0)), (18, .bref 19 0), (19, vI (begT start W default (List.getD o 0 0))), (20, vI (begE start W default (List.getD o 0 0)))], [(8, .box 26 [vI start, vL eI W]), (19, .box 46 [vS ⟨#[]⟩, vI 0, vI 0, vI 0, vI 0, vI 0, vI 0])]⟩ (sb rfl rfl rfl) rfl ?_
        refine mv rfl ?_
        refine RO (Body.loadBA rfl rfl rfl ag46 sz46 rfl rfl) ?_
        refine RO (Body.runZ (val := .pv (.slice (List.map eT [default]))) rfl (fun l => Frz.arr l _ _ _ _ _) rfl) ?_
        refine RO (Body.call (w21 [default] (by first | omega | exact Nat.le_of_ble_eq_true rfl | (simp only [List.length_take, List.length_drop]; omega))) rfl rfl rfl) ?_
        refine mv rfl ?_
        refine RO (Body.lss rfl rfl) ?_
        refine mv rfl ?_
        refine RG.cons (EfR.sym rfl (fun hc => Body.move rfl) rfl) ?_
        refine RG.cons (EfR.sym rfl (fun hc => Body.gtr (ev1_gd rfl hc) rfl) rfl) ?_
        refine RO (Body.pick rfl rfl rfl rfl (gdB rfl) (pick_or _)) ?_
        refine RO (Body.call (w28 (bif (decide ((List.getD o 0 0) < 0)) then true else (decide (1440 < (List.getD o 0 0)))) 3) rfl rfl rfl) ?_
        refine RO (Body.runZ (val := .pv (.slice (List.map eI [(chkNightF start W), (chkTgtsF [default]), (whenF (bif (decide ((List.getD o 0 0) < 0)) then true else (decide (1440 < (List.getD o 0 0)))) 3)]))) rfl (fun l => Frz.arr l _ _ _ _ _) rfl) ?_
        refine RO (Body.call (w25 [(chkNightF start W), (chkTgtsF [default]), (whenF (bif (decide ((List.getD o 0 0) < 0)) then true else (decide (1440 < (List.getD o 0 0)))) 3)] (Nat.le_of_ble_eq_true rfl)) rfl rfl rfl) ?_
        refine ag rfl ?_
        refine RN ?_
        refine Ap rfl ?_
        refine NR ⟨[(7, .bref 8 0), (17, vI (List.getD o 0 0)), (18, .bref 19 0), (19, vI (begT start W default (List.getD o 0 0))), (20, vI (begE start W default (List.getD o 0 0))), (21, vI (firstF [(chkNightF start W), (chkTgtsF [default]), (whenF (bif (decide ((List.getD o 0 0) < 0)) then true else (decide (1440 < (List.getD o 0 0)))) 3)]))], [(8, .box 26 [vI start, vL eI W]), (19, .box 46 [vS ⟨#[]⟩, vI 0, vI 0, vI 0, vI 0, vI 0, vI 0])]⟩ (sb rfl rfl rfl) rfl ?_
        refine ag rfl ?_
        refine RN ?_
        refine Ap rfl ?_
        refine TK.norm ⟨[(7, .bref 8 0), (17, vI (List.getD o 0 0)), (18, .bref 19 0), (19, vI (begT start W default (List.getD o 0 0))), (20, vI (begE start W default (List.getD o 0 0))), (21, vI (firstF [(chkNightF start W), (chkTgtsF [default]), (whenF (bif (decide ((List.getD o 0 0) < 0)) then true else (decide (1440 < (List.getD o 0 0)))) 3)])), (22, vI 0)], [(8, .box 26 [vI start, vL eI W]), (19, .box 46 [vS ⟨#[]⟩, vI 0, vI 0, vI 0, vI 0, vI 0, vI 0])]⟩ (sb rfl rfl rfl) ?_
        rw [badB_eq]
        refine TK.rg (Y := tab) mixed rfl ?_
        refine mv rfl ?_
        refine RO (Body.eql rfl rfl) ?_
        refine RN ?_
        refine Ap rfl ?_
        refine TK.norm ⟨[(7, .bref 8 0), (17, vI (List.getD o 0 0)), (18, .bref 19 0), (19, vI (begT start W default (List.getD o 0 0))), (20, vI (begE start W default (List.getD o 0 0))), (21, vI (badB start W default (List.getD o 0 0))), (22, vI 0), (129, vB (decide ((badB start W default (List.getD o 0 0)) = 0)))], [(8, .box 26 [vI start, vL eI W]), (19, .box 46 [vS ⟨#[]⟩, vI 0, vI 0, vI 0, vI 0, vI 0, vI 0])]⟩ (sb rfl rfl rfl) ?_
        refine TK.condP rfl (fun h27 => ?_) (fun h27 => ?_)
        ·
         refine At rfl ?_
         refine TK.norm ⟨[(7, .bref 8 0), (17, vI (List.getD o 0 0)), (18, .bref 19 0), (19, vI (begT start W default (List.getD o 0 0))), (20, vI (begE start W default (List.getD o 0 0))), (21, vI (badB start W default (List.getD o 0 0)))], [(8, .box 26 [vI start, vL eI W]), (19, .box 46 [vS ⟨#[]⟩, vI 0, vI 0, vI 0, vI 0, vI 0, vI 0])]⟩ (sb rfl rfl rfl) ?_
         obtain ⟨hq1, hq2, hq3⟩ := beg_parts (by assumption : badB start W default (List.getD o 0 0) = 0)
         refine TK.rg (Y := tab) mixed rfl ?_
         refine RO (Body.loadBA rfl rfl rfl ag26 sz26 rfl rfl) ?_
         refine RO (Body.loadBA rfl rfl rfl ag46 sz46 rfl rfl) ?_
         refine mv rfl ?_
         refine RO (Body.call (w31 start W default (List.getD o 0 0) (by first | omega | (unfold apartF; omega))) rfl rfl rfl) ?_
         refine ag rfl ?_
         refine RN ?_
         refine Ap rfl ?_
         refine NR ⟨[(19, vI (begT start W default (List.getD o 0 0))), (20, vI (begE start W default (List.getD o 0 0))), (21, vI (badB start W default (List.getD o 0 0))), (22, vI (begF W default (List.getD o 0 0)))], []⟩ (sb rfl rfl rfl) rfl ?_
         refine mv rfl ?_
         refine RO (Body.lss rfl rfl) ?_
         refine RN ?_
         refine Ap rfl ?_
         refine TK.norm ⟨[(19, vI (begT start W default (List.getD o 0 0))), (20, vI (begE start W default (List.getD o 0 0))), (21, vI (badB start W default (List.getD o 0 0))), (22, vI (begF W default (List.getD o 0 0))), (135, vB (decide ((begF W default (List.getD o 0 0)) < 0)))], []⟩ (sb rfl rfl rfl) ?_
         refine TK.condP rfl (fun h28 => ?_) (fun h28 => ?_)
         ·
          refine At rfl ?_
          refine NR ⟨[(19, vI (begT start W default (List.getD o 0 0))), (20, vI (begE start W default (List.getD o 0 0)))], []⟩ (sb rfl rfl rfl) rfl ?_
          refine ag rfl ?_
          refine ag rfl ?_
          refine RN ?_
          refine Ap rfl ?_
          refine NR ⟨[(19, vI (begT start W default (List.getD o 0 0))), (20, vI (begE start W default (List.getD o 0 0))), (21, vI 7), (22, vI 0)], []⟩ (sb rfl rfl rfl) rfl ?_
          refine mv rfl ?_
          refine mv rfl ?_
          refine RO (Body.eql rfl rfl) ?_
          refine mv rfl ?_
          refine RG.cons (EfR.sym rfl (fun hc => Body.move rfl) rfl) ?_
          refine RG.cons (EfR.sym rfl (fun hc => Body.move rfl) rfl) ?_
          refine RG.cons (EfR.sym rfl (fun hc => Body.eql (ev1_gd rfl hc) (ev1_gd rfl hc)) rfl) ?_
          refine RO (Body.pick rfl rfl rfl (gdB rfl) rfl (pick_and _)) ?_
          refine mv rfl ?_
          refine RG.cons (EfR.sym rfl (fun hc => Body.call (ha) rfl rfl rfl) rfl) ?_
          refine RO (Body.pick rfl rfl rfl (gdB rfl) rfl (pick_and _)) ?_
          refine ag rfl ?_
          refine RN ?_
          refine Ap rfl ?_
          refine TK.ret ?_
          refine PK.ret ?_
          refine leaf (val0 := vB (bif (bif (decide ((begE start W default (List.getD o 0 0)) = 7)) then (decide ((begT start W default (List.getD o 0 0)) = 0)) else false) then true else false)) (by kernel_rfl) ?_
          exact lb (by first
          | rfl
          | exact g0 (by assumption)
          | exact g1 (start := start) (W := W) (l := l) (o := o) (by assumption) (by assumption)
          | exact g2 (start := start) (W := W) (l := l) (o := o) (by assumption) (by assumption)
          | exact f1 (by assumption)
          | exact f2 (by assumption) (by assumption)
          | exact f3 (by assumption) (by assumption))
         ·
          refine At rfl ?_
          refine NR ⟨[(19, vI (begT start W default (List.getD o 0 0))), (20, vI (begE start W default (List.getD o 0 0))), (21, vI (badB start W default (List.getD o 0 0))), (22, vI (begF W default (List.getD o 0 0)))], []⟩ (sb rfl rfl rfl) rfl ?_
          refine mv rfl ?_
          refine mv rfl ?_
          refine RO (Body.eql rfl rfl) ?_
          refine mv rfl ?_
          refine RG.cons (EfR.sym rfl (fun hc => Body.move rfl) rfl) ?_
          refine RG.cons (EfR.sym rfl (fun hc => Body.move rfl) rfl) ?_
          refine RG.cons (EfR.sym rfl (fun hc => Body.eql (ev1_gd rfl hc) (ev1_gd rfl hc)) rfl) ?_
          refine RO (Body.pick rfl rfl rfl (gdB rfl) rfl (pick_and _)) ?_
          refine mv rfl ?_
          refine RG.cons (EfR.sym rfl (fun hc => Body.call (ha) rfl rfl rfl) rfl) ?_
          refine RO (Body.pick rfl rfl rfl (gdB rfl) rfl (pick_and _)) ?_
          refine ag rfl ?_
          refine RN ?_
          refine Ap rfl ?_
          refine TK.ret ?_
          refine PK.ret ?_
          refine leaf (val0 := vB (bif (bif (decide ((begE start W default (List.getD o 0 0)) = (badB start W default (List.getD o 0 0)))) then (decide ((begT start W default (List.getD o 0 0)) = (begF W default (List.getD o 0 0)))) else false) then true else false)) (by kernel_rfl) ?_
          exact lb (by first
          | rfl
          | exact g0 (by assumption)
          | exact g1 (start := start) (W := W) (l := l) (o := o) (by assumption) (by assumption)
          | exact g2 (start := start) (W := W) (l := l) (o := o) (by assumption) (by assumption)
          | exact f1 (by assumption)
          | exact f2 (by assumption) (by assumption)
          | exact f3 (by assumption) (by assumption))
        ·
         refine At rfl ?_
         refine NR ⟨[(19, vI (begT start W default (List.getD o 0 0))), (20, vI (begE start W default (List.getD o 0 0))), (21, vI (badB start W default (List.getD o 0 0))), (22, vI 0)], []⟩ (sb rfl rfl rfl) rfl ?_
         refine mv rfl ?_
         refine mv rfl ?_
         refine RO (Body.eql rfl rfl) ?_
         refine mv rfl ?_
         refine RG.cons (EfR.sym rfl (fun hc => Body.move rfl) rfl) ?_
         refine RG.cons (EfR.sym rfl (fun hc => Body.move rfl) rfl) ?_
         refine RG.cons (EfR.sym rfl (fun hc => Body.eql (ev1_gd rfl hc) (ev1_gd rfl hc)) rfl) ?_
         refine RO (Body.pick rfl rfl rfl (gdB rfl) rfl (pick_and _)) ?_
         refine mv rfl ?_
         refine RG.cons (EfR.sym rfl (fun hc => Body.call (ha) rfl rfl rfl) rfl) ?_
         refine RO (Body.pick rfl rfl rfl (gdB rfl) rfl (pick_and _)) ?_
         refine ag rfl ?_
         refine RN ?_
         refine Ap rfl ?_
         refine TK.ret ?_
         refine PK.ret ?_
         refine leaf (val0 := vB (bif (bif (decide ((begE start W default (List.getD o 0 0)) = (badB start W default (List.getD o 0 0)))) then (decide ((begT start W default (List.getD o 0 0)) = 0)) else false) then true else false)) (by kernel_rfl) ?_
         exact lb (by first
          | rfl
          | exact g0 (by assumption)
          | exact g1 (start := start) (W := W) (l := l) (o := o) (by assumption) (by assumption)
          | exact g2 (start := start) (W := W) (l := l) (o := o) (by assumption) (by assumption)
          | exact f1 (by assumption)
          | exact f2 (by assumption) (by assumption)
          | exact f3 (by assumption) (by assumption))
     ·
      refine At rfl ?_
      refine NR ⟨[(1, vL eT l), (3, .bref 4 0), (7, .bref 8 0), (9, vI (chkNightF start W)), (17, vI 0)], [(4, .box 24 [vI start, vL eI W]), (8, .box 26 [vI start, vL eI W])]⟩ (sb rfl rfl rfl) rfl ?_
      refine rn rfl ?_
      refine RN ?_
      refine Ap rfl ?_
      refine NR ⟨[(1, vL eT l), (3, .bref 4 0), (7, .bref 8 0), (9, vI (chkNightF start W)), (17, vI 0), (18, .bref 19 0)], [(4, .box 24 [vI start, vL eI W]), (8, .box 26 [vI start, vL eI W]), (19, .box 46 [vS ⟨#[]⟩, vI 0, vI 0, vI 0, vI 0, vI 0, vI 0])]⟩ (sb rfl rfl rfl) rfl ?_
      refine mv rfl ?_
      refine RO (Body.lenL rfl un25) ?_
      refine RO (Body.gtr rfl rfl) ?_
      refine RN ?_
      refine Ap rfl ?_
      refine TK.norm ⟨[(1, vL eT l), (3, .bref 4 0), (7, .bref 8 0), (9, vI (chkNightF start W)), (17, vI 0), (18, .bref 19 0), (99, vB (decide (0 < ((List.length l : Nat) : Int))))], [(4, .box 24 [vI start, vL eI W]), (8, .box 26 [vI start, vL eI W]), (19, .box 46 [vS ⟨#[]⟩, vI 0, vI 0, vI 0, vI 0, vI 0, vI 0])]⟩ (sb rfl rfl rfl) ?_
      refine TK.condP rfl (fun h29 => ?_) (fun h29 => ?_)
      ·
       refine At rfl ?_
       refine NR ⟨[(1, vL eT l), (3, .bref 4 0), (7, .bref 8 0), (9, vI (chkNightF start W)), (17, vI 0), (18, .bref 19 0)], [(4, .box 24 [vI start, vL eI W]), (8, .box 26 [vI start, vL eI W]), (19, .box 46 [vS ⟨#[]⟩, vI 0, vI 0, vI 0, vI 0, vI 0, vI 0])]⟩ (sb rfl rfl rfl) rfl ?_
       refine mv rfl ?_
       refine RO (Body.idx (z := default) (i := 0) rfl rfl un25 sz46 (fun _ => rfl) rfl (by omega)) ?_
       refine RO (Body.loadA (ds := [pS (Tgt.name (List.getD l 0 default)), pI (Tgt.bright (List.getD l 0 default)), pI (Tgt.place (List.getD l 0 default)), pI (Tgt.length (List.getD l 0 default)), pI (Tgt.from_ (List.getD l 0 default)), pI (Tgt.to (List.getD l 0 default)), pI (Tgt.limit (List.getD l 0 default))]) rfl ag46 sz46 (Nat.le_of_ble_eq_true rfl) rfl) ?_
       refine rn rfl ?_
       refine RN ?_
       refine Ap rfl ?_
       refine NR ⟨[(3, .bref 4 0), (7, .bref 8 0), (9, vI (chkNightF start W)), (17, vI 0), (18, .bref 19 0)], [(4, .box 24 [vI start, vL eI W]), (8, .box 26 [vI start, vL eI W]), (19, .box 46 [vS (Tgt.name (List.getD l 0 default)), vI (Tgt.bright (List.getD l 0 default)), vI (Tgt.place (List.getD l 0 default)), vI (Tgt.length (List.getD l 0 default)), vI (Tgt.from_ (List.getD l 0 default)), vI (Tgt.to (List.getD l 0 default)), vI (Tgt.limit (List.getD l 0 default))])]⟩ (sb rfl rfl rfl) rfl ?_
       refine RO (Body.fadB rfl fa46_0 rfl) ?_
       refine RO (Body.loadB rfl rfl rfl ag9 sz9 rfl) ?_
       refine RO (Body.lenS rfl un9) ?_
       refine RO (Body.gtr rfl rfl) ?_
       refine RN ?_
       refine Ap rfl ?_
       refine TK.norm ⟨[(3, .bref 4 0), (7, .bref 8 0), (9, vI (chkNightF start W)), (17, vI 0), (18, .bref 19 0), (106, vB (decide (40 < ((ByteArray.size (Tgt.name (List.getD l 0 default)) : Nat) : Int))))], [(4, .box 24 [vI start, vL eI W]), (8, .box 26 [vI start, vL eI W]), (19, .box 46 [vS (Tgt.name (List.getD l 0 default)), vI (Tgt.bright (List.getD l 0 default)), vI (Tgt.place (List.getD l 0 default)), vI (Tgt.length (List.getD l 0 default)), vI (Tgt.from_ (List.getD l 0 default)), vI (Tgt.to (List.getD l 0 default)), vI (Tgt.limit (List.getD l 0 default))])]⟩ (sb rfl rfl rfl) ?_
       refine TK.condP rfl (fun h30 => ?_) (fun h30 => ?_)
       ·
        refine At rfl ?_
        refine NR ⟨[], []⟩ (sb rfl rfl rfl) rfl ?_
        refine RO (Body.call (ha) rfl rfl rfl) ?_
        refine ag rfl ?_
        refine RN ?_
        refine Ap rfl ?_
        refine TK.ret ?_
        refine PK.ret ?_
        refine leaf (val0 := vB true) (by kernel_rfl) ?_
        exact rfl
       ·
        refine At rfl ?_
        refine NR ⟨[(3, .bref 4 0), (7, .bref 8 0), (9, vI (chkNightF start W)), (17, vI 0), (18, .bref 19 0)], [(4, .box 24 [vI start, vL eI W]), (8, .box 26 [vI start, vL eI W]), (19, .box 46 [vS (Tgt.name (List.getD l 0 default)), vI (Tgt.bright (List.getD l 0 default)), vI (Tgt.place (List.getD l 0 default)), vI (Tgt.length (List.getD l 0 default)), vI (Tgt.from_ (List.getD l 0 default)), vI (Tgt.to (List.getD l 0 default)), vI (Tgt.limit (List.getD l 0 default))])]⟩ (sb rfl rfl rfl) rfl ?_
        refine RO (Body.loadBA rfl rfl rfl ag24 sz24 rfl rfl) ?_
        refine RO (Body.loadBA rfl rfl rfl ag46 sz46 rfl rfl) ?_
        refine mv rfl ?_
        refine RO (Body.call (w30 start W (List.getD l 0 default) 0 (by first | omega | exact Nat.le_of_ble_eq_true rfl | (simp only [List.length_take, List.length_drop]; omega))) rfl rfl rfl) ?_
        refine rn rfl ?_
        refine rn rfl ?_
        refine rn rfl ?_
        refine ag rfl ?_
        refine ag rfl ?_
        refine RN ?_
        refine Ap rfl ?_
        refine NR ⟨[(7, .bref 8 0), (9, vI (chkNightF start W)), (17, vI 0), (18, .bref 19 0), (19, vI (begT start W (List.getD l 0 default) 0)), (20, vI (begE start W (List.getD l 0 default) 0))], [(8, .box 26 [vI start, vL eI W]), (19, .box 46 [vS (Tgt.name (List.getD l 0 default)), vI (Tgt.bright (List.getD l 0 default)), vI (Tgt.place (List.getD l 0 default)), vI (Tgt.length (List.getD l 0 default)), vI (Tgt.from_ (List.getD l 0 default)), vI (Tgt.to (List.getD l 0 default)), vI (Tgt.limit (List.getD l 0 default))])]⟩ (sb rfl rfl rfl) rfl ?_
        refine mv rfl ?_
        refine RO (Body.loadBA rfl rfl rfl ag46 sz46 rfl rfl) ?_
        refine RO (Body.runZ (val := .pv (.slice (List.map eT [(List.getD l 0 default)]))) rfl (fun l => Frz.arr l _ _ _ _ _) rfl) ?_
        refine RO (Body.call (w21 [(List.getD l 0 default)] (by first | omega | exact Nat.le_of_ble_eq_true rfl | (simp only [List.length_take, List.length_drop]; omega))) rfl rfl rfl) ?_
        refine mv rfl ?_
        refine RO (Body.lss rfl rfl) ?_
        refine mv rfl ?_
        refine RG.cons (EfR.sym rfl (fun hc => Body.move rfl) rfl) ?_
        refine RG.cons (EfR.sym rfl (fun hc => Body.gtr (ev1_gd rfl hc) rfl) rfl) ?_
        refine RO (Body.pick rfl rfl rfl rfl (gdB rfl) (pick_or _)) ?_
        refine RO (Body.call (w28 (bif (decide (0 < 0)) then true else (decide (1440 < 0))) 3) rfl rfl rfl) ?_
        refine RO (Body.runZ (val := .pv (.slice (List.map eI [(chkNightF start W), (chkTgtsF [(List.getD l 0 default)]), (whenF (bif (decide (0 < 0)) then true else (decide (1440 < 0))) 3)]))) rfl (fun l => Frz.arr l _ _ _ _ _) rfl) ?_
        refine RO (Body.call (w25 [(chkNightF start W), (chkTgtsF [(List.getD l 0 default)]), (whenF (bif (decide (0 < 0)) then true else (decide (1440 < 0))) 3)] (Nat.le_of_ble_eq_true rfl)) rfl rfl rfl) ?_
        refine ag rfl ?_
        refine RN ?_
        refine Ap rfl ?_
        refine NR ⟨[(7, .bref 8 0), (17, vI 0), (18, .bref 19 0), (19, vI (begT start W (List.getD l 0 default) 0)), (20, vI (begE start W (List.getD l 0 default) 0)), (21, vI (firstF [(chkNightF start W), (chkTgtsF [(List.getD l 0 default)]), (whenF (bif (decide (0 < 0)) then true else (decide (1440 < 0))) 3)]))], [(8, .box 26 [vI start, vL eI W]), (19, .box 46 [vS (Tgt.name (List.getD l 0 default)), vI (Tgt.bright (List.getD l 0 default)), vI (Tgt.place (List.getD l 0 default)), vI (Tgt.length (List.getD l 0 default)), vI (Tgt.from_ (List.getD l 0 default)), vI (Tgt.to (List.getD l 0 default)), vI (Tgt.limit (List.getD l 0 default))])]⟩ (sb rfl rfl rfl) rfl ?_
        refine ag rfl ?_
        refine RN ?_
        refine Ap rfl ?_
        refine TK.norm ⟨[(7, .bref 8 0), (17, vI 0), (18, .bref 19 0), (19, vI (begT start W (List.getD l 0 default) 0)), (20, vI (begE start W (List.getD l 0 default) 0)), (21, vI (firstF [(chkNightF start W), (chkTgtsF [(List.getD l 0 default)]), (whenF (bif (decide (0 < 0)) then true else (decide (1440 < 0))) 3)])), (22, vI 0)], [(8, .box 26 [vI start, vL eI W]), (19, .box 46 [vS (Tgt.name (List.getD l 0 default)), vI (Tgt.bright (List.getD l 0 default)), vI (Tgt.place (List.getD l 0 default)), vI (Tgt.length (List.getD l 0 default)), vI (Tgt.from_ (List.getD l 0 default)), vI (Tgt.to (List.getD l 0 default)), vI (Tgt.limit (List.getD l 0 default))])]⟩ (sb rfl rfl rfl) ?_
        rw [badB_eq]
        refine TK.rg (Y := tab) mixed rfl ?_
        refine mv rfl ?_
        refine RO (Body.eql rfl rfl) ?_
        refine RN ?_
        refine Ap rfl ?_
        refine TK.norm ⟨[(7, .bref 8 0), (17, vI 0), (18, .bref 19 0), (19, vI (begT start W (List.getD l 0 default) 0)), (20, vI (begE start W (List.getD l 0 default) 0)), (21, vI (badB start W (List.getD l 0 default) 0)), (22, vI 0), (129, vB (decide ((badB start W (List.getD l 0 default) 0) = 0)))], [(8, .box 26 [vI start, vL eI W]), (19, .box 46 [vS (Tgt.name (List.getD l 0 default)), vI (Tgt.bright (List.getD l 0 default)), vI (Tgt.place (List.getD l 0 default)), vI (Tgt.length (List.getD l 0 default)), vI (Tgt.from_ (List.getD l 0 default)), vI (Tgt.to (List.getD l 0 default)), vI (Tgt.limit (List.getD l 0 default))])]⟩ (sb rfl rfl rfl) ?_
        refine TK.condP rfl (fun h31 => ?_) (fun h31 => ?_)
        ·
         refine At rfl ?_
         refine TK.norm ⟨[(7, .bref 8 0), (17, vI 0), (18, .bref 19 0), (19, vI (begT start W (List.getD l 0 default) 0)), (20, vI (begE start W (List.getD l 0 default) 0)), (21, vI (badB start W (List.getD l 0 default) 0))], [(8, .box 26 [vI start, vL eI W]), (19, .box 46 [vS (Tgt.name (List.getD l 0 default)), vI (Tgt.bright (List.getD l 0 default)), vI (Tgt.place (List.getD l 0 default)), vI (Tgt.length (List.getD l 0 default)), vI (Tgt.from_ (List.getD l 0 default)), vI (Tgt.to (List.getD l 0 default)), vI (Tgt.limit (List.getD l 0 default))])]⟩ (sb rfl rfl rfl) ?_
         obtain ⟨hq1, hq2, hq3⟩ := beg_parts (by assumption : badB start W (List.getD l 0 default) 0 = 0)
         refine TK.rg (Y := tab) mixed rfl ?_
         refine RO (Body.loadBA rfl rfl rfl ag26 sz26 rfl rfl) ?_
         refine RO (Body.loadBA rfl rfl rfl ag46 sz46 rfl rfl) ?_
         refine mv rfl ?_
         refine RO (Body.call (w31 start W (List.getD l 0 default) 0 (by first | omega | (unfold apartF; omega))) rfl rfl rfl) ?_
         refine ag rfl ?_
         refine RN ?_
         refine Ap rfl ?_
         refine NR ⟨[(19, vI (begT start W (List.getD l 0 default) 0)), (20, vI (begE start W (List.getD l 0 default) 0)), (21, vI (badB start W (List.getD l 0 default) 0)), (22, vI (begF W (List.getD l 0 default) 0))], []⟩ (sb rfl rfl rfl) rfl ?_
         refine mv rfl ?_
         refine RO (Body.lss rfl rfl) ?_
         refine RN ?_
         refine Ap rfl ?_
         refine TK.norm ⟨[(19, vI (begT start W (List.getD l 0 default) 0)), (20, vI (begE start W (List.getD l 0 default) 0)), (21, vI (badB start W (List.getD l 0 default) 0)), (22, vI (begF W (List.getD l 0 default) 0)), (135, vB (decide ((begF W (List.getD l 0 default) 0) < 0)))], []⟩ (sb rfl rfl rfl) ?_
         refine TK.condP rfl (fun h32 => ?_) (fun h32 => ?_)
         ·
          refine At rfl ?_
          refine NR ⟨[(19, vI (begT start W (List.getD l 0 default) 0)), (20, vI (begE start W (List.getD l 0 default) 0))], []⟩ (sb rfl rfl rfl) rfl ?_
          refine ag rfl ?_
          refine ag rfl ?_
          refine RN ?_
          refine Ap rfl ?_
          refine NR ⟨[(19, vI (begT start W (List.getD l 0 default) 0)), (20, vI (begE start W (List.getD l 0 default) 0)), (21, vI 7), (22, vI 0)], []⟩ (sb rfl rfl rfl) rfl ?_
          refine mv rfl ?_
          refine mv rfl ?_
          refine RO (Body.eql rfl rfl) ?_
          refine mv rfl ?_
          refine RG.cons (EfR.sym rfl (fun hc => Body.move rfl) rfl) ?_
          refine RG.cons (EfR.sym rfl (fun hc => Body.move rfl) rfl) ?_
          refine RG.cons (EfR.sym rfl (fun hc => Body.eql (ev1_gd rfl hc) (ev1_gd rfl hc)) rfl) ?_
          refine RO (Body.pick rfl rfl rfl (gdB rfl) rfl (pick_and _)) ?_
          refine mv rfl ?_
          refine RG.cons (EfR.sym rfl (fun hc => Body.call (ha) rfl rfl rfl) rfl) ?_
          refine RO (Body.pick rfl rfl rfl (gdB rfl) rfl (pick_and _)) ?_
          refine ag rfl ?_
          refine RN ?_
          refine Ap rfl ?_
          refine TK.ret ?_
          refine PK.ret ?_
          refine leaf (val0 := vB (bif (bif (decide ((begE start W (List.getD l 0 default) 0) = 7)) then (decide ((begT start W (List.getD l 0 default) 0) = 0)) else false) then true else false)) (by kernel_rfl) ?_
          exact lb (by first
          | rfl
          | exact g0 (by assumption)
          | exact g1 (start := start) (W := W) (l := l) (o := o) (by assumption) (by assumption)
          | exact g2 (start := start) (W := W) (l := l) (o := o) (by assumption) (by assumption)
          | exact f1 (by assumption)
          | exact f2 (by assumption) (by assumption)
          | exact f3 (by assumption) (by assumption))
         ·
          refine At rfl ?_
          refine NR ⟨[(19, vI (begT start W (List.getD l 0 default) 0)), (20, vI (begE start W (List.getD l 0 default) 0)), (21, vI (badB start W (List.getD l 0 default) 0)), (22, vI (begF W (List.getD l 0 default) 0))], []⟩ (sb rfl rfl rfl) rfl ?_
          refine mv rfl ?_
          refine mv rfl ?_
          refine RO (Body.eql rfl rfl) ?_
          refine mv rfl ?_
          refine RG.cons (EfR.sym rfl (fun hc => Body.move rfl) rfl) ?_
          refine RG.cons (EfR.sym rfl (fun hc => Body.move rfl) rfl) ?_
          refine RG.cons (EfR.sym rfl (fun hc => Body.eql (ev1_gd rfl hc) (ev1_gd rfl hc)) rfl) ?_
          refine RO (Body.pick rfl rfl rfl (gdB rfl) rfl (pick_and _)) ?_
          refine mv rfl ?_
          refine RG.cons (EfR.sym rfl (fun hc => Body.call (ha) rfl rfl rfl) rfl) ?_
          refine RO (Body.pick rfl rfl rfl (gdB rfl) rfl (pick_and _)) ?_
          refine ag rfl ?_
          refine RN ?_
          refine Ap rfl ?_
          refine TK.ret ?_
          refine PK.ret ?_
          refine leaf (val0 := vB (bif (bif (decide ((begE start W (List.getD l 0 default) 0) = (badB start W (List.getD l 0 default) 0))) then (decide ((begT start W (List.getD l 0 default) 0) = (begF W (List.getD l 0 default) 0))) else false) then true else false)) (by kernel_rfl) ?_
          exact lb (by first
          | rfl
          | exact g0 (by assumption)
          | exact g1 (start := start) (W := W) (l := l) (o := o) (by assumption) (by assumption)
          | exact g2 (start := start) (W := W) (l := l) (o := o) (by assumption) (by assumption)
          | exact f1 (by assumption)
          | exact f2 (by assumption) (by assumption)
          | exact f3 (by assumption) (by assumption))
        ·
         refine At rfl ?_
         refine NR ⟨[(19, vI (begT start W (List.getD l 0 default) 0)), (20, vI (begE start W (List.getD l 0 default) 0)), (21, vI (badB start W (List.getD l 0 default) 0)), (22, vI 0)], []⟩ (sb rfl rfl rfl) rfl ?_
         refine mv rfl ?_
         refine mv rfl ?_
         refine RO (Body.eql rfl rfl) ?_
         refine mv rfl ?_
         refine RG.cons (EfR.sym rfl (fun hc => Body.move rfl) rfl) ?_
         refine RG.cons (EfR.sym rfl (fun hc => Body.move rfl) rfl) ?_
         refine RG.cons (EfR.sym rfl (fun hc => Body.eql (ev1_gd rfl hc) (ev1_gd rfl hc)) rfl) ?_
         refine RO (Body.pick rfl rfl rfl (gdB rfl) rfl (pick_and _)) ?_
         refine mv rfl ?_
         refine RG.cons (EfR.sym rfl (fun hc => Body.call (ha) rfl rfl rfl) rfl) ?_
         refine RO (Body.pick rfl rfl rfl (gdB rfl) rfl (pick_and _)) ?_
         refine ag rfl ?_
         refine RN ?_
         refine Ap rfl ?_
         refine TK.ret ?_
         refine PK.ret ?_
         refine leaf (val0 := vB (bif (bif (decide ((begE start W (List.getD l 0 default) 0) = (badB start W (List.getD l 0 default) 0))) then (decide ((begT start W (List.getD l 0 default) 0) = 0)) else false) then true else false)) (by kernel_rfl) ?_
         exact lb (by first
          | rfl
          | exact g0 (by assumption)
          | exact g1 (start := start) (W := W) (l := l) (o := o) (by assumption) (by assumption)
          | exact g2 (start := start) (W := W) (l := l) (o := o) (by assumption) (by assumption)
          | exact f1 (by assumption)
          | exact f2 (by assumption) (by assumption)
          | exact f3 (by assumption) (by assumption))
      ·
       refine At rfl ?_
       refine NR ⟨[(3, .bref 4 0), (7, .bref 8 0), (9, vI (chkNightF start W)), (17, vI 0), (18, .bref 19 0)], [(4, .box 24 [vI start, vL eI W]), (8, .box 26 [vI start, vL eI W]), (19, .box 46 [vS ⟨#[]⟩, vI 0, vI 0, vI 0, vI 0, vI 0, vI 0])]⟩ (sb rfl rfl rfl) rfl ?_
       refine RO (Body.fadB rfl fa46_0 rfl) ?_
       refine RO (Body.loadB rfl rfl rfl ag9 sz9 rfl) ?_
       refine RO (Body.lenS rfl un9) ?_
       refine RO (Body.gtr rfl rfl) ?_
       refine RN ?_
       refine Ap rfl ?_
       refine TK.norm ⟨[(3, .bref 4 0), (7, .bref 8 0), (9, vI (chkNightF start W)), (17, vI 0), (18, .bref 19 0), (106, vB (decide (40 < ((ByteArray.size ⟨#[]⟩ : Nat) : Int))))], [(4, .box 24 [vI start, vL eI W]), (8, .box 26 [vI start, vL eI W]), (19, .box 46 [vS ⟨#[]⟩, vI 0, vI 0, vI 0, vI 0, vI 0, vI 0])]⟩ (sb rfl rfl rfl) ?_
       refine TK.condP rfl (fun h33 => ?_) (fun h33 => ?_)
       ·
        refine At rfl ?_
        refine NR ⟨[], []⟩ (sb rfl rfl rfl) rfl ?_
        refine RO (Body.call (ha) rfl rfl rfl) ?_
        refine ag rfl ?_
        refine RN ?_
        refine Ap rfl ?_
        refine TK.ret ?_
        refine PK.ret ?_
        refine leaf (val0 := vB true) (by kernel_rfl) ?_
        exact rfl
       ·
        refine At rfl ?_
        refine NR ⟨[(3, .bref 4 0), (7, .bref 8 0), (9, vI (chkNightF start W)), (17, vI 0), (18, .bref 19 0)], [(4, .box 24 [vI start, vL eI W]), (8, .box 26 [vI start, vL eI W]), (19, .box 46 [vS ⟨#[]⟩, vI 0, vI 0, vI 0, vI 0, vI 0, vI 0])]⟩ (sb rfl rfl rfl) rfl ?_
        refine RO (Body.loadBA rfl rfl rfl ag24 sz24 rfl rfl) ?_
        refine RO (Body.loadBA rfl rfl rfl ag46 sz46 rfl rfl) ?_
        refine mv rfl ?_
        refine RO (Body.call (w30 start W default 0 (by first | omega | exact Nat.le_of_ble_eq_true rfl | (simp only [List.length_take, List.length_drop]; omega))) rfl rfl rfl) ?_
        refine rn rfl ?_
        refine rn rfl ?_
        refine rn rfl ?_
        refine ag rfl ?_
        refine ag rfl ?_
        refine RN ?_
        refine Ap rfl ?_
        refine NR ⟨[(7, .bref 8 0), (9, vI (chkNightF start W)), (17, vI 0), (18, .bref 19 0), (19, vI (begT start W default 0)), (20, vI (begE start W default 0))], [(8, .box 26 [vI start, vL eI W]), (19, .box 46 [vS ⟨#[]⟩, vI 0, vI 0, vI 0, vI 0, vI 0, vI 0])]⟩ (sb rfl rfl rfl) rfl ?_
        refine mv rfl ?_
        refine RO (Body.loadBA rfl rfl rfl ag46 sz46 rfl rfl) ?_
        refine RO (Body.runZ (val := .pv (.slice (List.map eT [default]))) rfl (fun l => Frz.arr l _ _ _ _ _) rfl) ?_
        refine RO (Body.call (w21 [default] (by first | omega | exact Nat.le_of_ble_eq_true rfl | (simp only [List.length_take, List.length_drop]; omega))) rfl rfl rfl) ?_
        refine mv rfl ?_
        refine RO (Body.lss rfl rfl) ?_
        refine mv rfl ?_
        refine RG.cons (EfR.sym rfl (fun hc => Body.move rfl) rfl) ?_
        refine RG.cons (EfR.sym rfl (fun hc => Body.gtr (ev1_gd rfl hc) rfl) rfl) ?_
        refine RO (Body.pick rfl rfl rfl rfl (gdB rfl) (pick_or _)) ?_
        refine RO (Body.call (w28 (bif (decide (0 < 0)) then true else (decide (1440 < 0))) 3) rfl rfl rfl) ?_
        refine RO (Body.runZ (val := .pv (.slice (List.map eI [(chkNightF start W), (chkTgtsF [default]), (whenF (bif (decide (0 < 0)) then true else (decide (1440 < 0))) 3)]))) rfl (fun l => Frz.arr l _ _ _ _ _) rfl) ?_
        refine RO (Body.call (w25 [(chkNightF start W), (chkTgtsF [default]), (whenF (bif (decide (0 < 0)) then true else (decide (1440 < 0))) 3)] (Nat.le_of_ble_eq_true rfl)) rfl rfl rfl) ?_
        refine ag rfl ?_
        refine RN ?_
        refine Ap rfl ?_
        refine NR ⟨[(7, .bref 8 0), (17, vI 0), (18, .bref 19 0), (19, vI (begT start W default 0)), (20, vI (begE start W default 0)), (21, vI (firstF [(chkNightF start W), (chkTgtsF [default]), (whenF (bif (decide (0 < 0)) then true else (decide (1440 < 0))) 3)]))], [(8, .box 26 [vI start, vL eI W]), (19, .box 46 [vS ⟨#[]⟩, vI 0, vI 0, vI 0, vI 0, vI 0, vI 0])]⟩ (sb rfl rfl rfl) rfl ?_
        refine ag rfl ?_
        refine RN ?_
        refine Ap rfl ?_
        refine TK.norm ⟨[(7, .bref 8 0), (17, vI 0), (18, .bref 19 0), (19, vI (begT start W default 0)), (20, vI (begE start W default 0)), (21, vI (firstF [(chkNightF start W), (chkTgtsF [default]), (whenF (bif (decide (0 < 0)) then true else (decide (1440 < 0))) 3)])), (22, vI 0)], [(8, .box 26 [vI start, vL eI W]), (19, .box 46 [vS ⟨#[]⟩, vI 0, vI 0, vI 0, vI 0, vI 0, vI 0])]⟩ (sb rfl rfl rfl) ?_
        rw [badB_eq]
        refine TK.rg (Y := tab) mixed rfl ?_
        refine mv rfl ?_
        refine RO (Body.eql rfl rfl) ?_
        refine RN ?_
        refine Ap rfl ?_
        refine TK.norm ⟨[(7, .bref 8 0), (17, vI 0), (18, .bref 19 0), (19, vI (begT start W default 0)), (20, vI (begE start W default 0)), (21, vI (badB start W default 0)), (22, vI 0), (129, vB (decide ((badB start W default 0) = 0)))], [(8, .box 26 [vI start, vL eI W]), (19, .box 46 [vS ⟨#[]⟩, vI 0, vI 0, vI 0, vI 0, vI 0, vI 0])]⟩ (sb rfl rfl rfl) ?_
        refine TK.condP rfl (fun h34 => ?_) (fun h34 => ?_)
        ·
         refine At rfl ?_
         refine TK.norm ⟨[(7, .bref 8 0), (17, vI 0), (18, .bref 19 0), (19, vI (begT start W default 0)), (20, vI (begE start W default 0)), (21, vI (badB start W default 0))], [(8, .box 26 [vI start, vL eI W]), (19, .box 46 [vS ⟨#[]⟩, vI 0, vI 0, vI 0, vI 0, vI 0, vI 0])]⟩ (sb rfl rfl rfl) ?_
         obtain ⟨hq1, hq2, hq3⟩ := beg_parts (by assumption : badB start W default 0 = 0)
         refine TK.rg (Y := tab) mixed rfl ?_
         refine RO (Body.loadBA rfl rfl rfl ag26 sz26 rfl rfl) ?_
         refine RO (Body.loadBA rfl rfl rfl ag46 sz46 rfl rfl) ?_
         refine mv rfl ?_
         refine RO (Body.call (w31 start W default 0 (by first | omega | (unfold apartF; omega))) rfl rfl rfl) ?_
         refine ag rfl ?_
         refine RN ?_
         refine Ap rfl ?_
         refine NR ⟨[(19, vI (begT start W default 0)), (20, vI (begE start W default 0)), (21, vI (badB start W default 0)), (22, vI (begF W default 0))], []⟩ (sb rfl rfl rfl) rfl ?_
         refine mv rfl ?_
         refine RO (Body.lss rfl rfl) ?_
         refine RN ?_
         refine Ap rfl ?_
         refine TK.norm ⟨[(19, vI (begT start W default 0)), (20, vI (begE start W default 0)), (21, vI (badB start W default 0)), (22, vI (begF W default 0)), (135, vB (decide ((begF W default 0) < 0)))], []⟩ (sb rfl rfl rfl) ?_
         refine TK.condP rfl (fun h35 => ?_) (fun h35 => ?_)
         ·
          refine At rfl ?_
          refine NR ⟨[(19, vI (begT start W default 0)), (20, vI (begE start W default 0))], []⟩ (sb rfl rfl rfl) rfl ?_
          refine ag rfl ?_
          refine ag rfl ?_
          refine RN ?_
          refine Ap rfl ?_
          refine NR ⟨[(19, vI (begT start W default 0)), (20, vI (begE start W default 0)), (21, vI 7), (22, vI 0)], []⟩ (sb rfl rfl rfl) rfl ?_
          refine mv rfl ?_
          refine mv rfl ?_
          refine RO (Body.eql rfl rfl) ?_
          refine mv rfl ?_
          refine RG.cons (EfR.sym rfl (fun hc => Body.move rfl) rfl) ?_
          refine RG.cons (EfR.sym rfl (fun hc => Body.move rfl) rfl) ?_
          refine RG.cons (EfR.sym rfl (fun hc => Body.eql (ev1_gd rfl hc) (ev1_gd rfl hc)) rfl) ?_
          refine RO (Body.pick rfl rfl rfl (gdB rfl) rfl (pick_and _)) ?_
          refine mv rfl ?_
          refine RG.cons (EfR.sym rfl (fun hc => Body.call (ha) rfl rfl rfl) rfl) ?_
          refine RO (Body.pick rfl rfl rfl (gdB rfl) rfl (pick_and _)) ?_
          refine ag rfl ?_
          refine RN ?_
          refine Ap rfl ?_
          refine TK.ret ?_
          refine PK.ret ?_
          refine leaf (val0 := vB (bif (bif (decide ((begE start W default 0) = 7)) then (decide ((begT start W default 0) = 0)) else false) then true else false)) (by kernel_rfl) ?_
          exact lb (by first
          | rfl
          | exact g0 (by assumption)
          | exact g1 (start := start) (W := W) (l := l) (o := o) (by assumption) (by assumption)
          | exact g2 (start := start) (W := W) (l := l) (o := o) (by assumption) (by assumption)
          | exact f1 (by assumption)
          | exact f2 (by assumption) (by assumption)
          | exact f3 (by assumption) (by assumption))
         ·
          refine At rfl ?_
          refine NR ⟨[(19, vI (begT start W default 0)), (20, vI (begE start W default 0)), (21, vI (badB start W default 0)), (22, vI (begF W default 0))], []⟩ (sb rfl rfl rfl) rfl ?_
          refine mv rfl ?_
          refine mv rfl ?_
          refine RO (Body.eql rfl rfl) ?_
          refine mv rfl ?_
          refine RG.cons (EfR.sym rfl (fun hc => Body.move rfl) rfl) ?_
          refine RG.cons (EfR.sym rfl (fun hc => Body.move rfl) rfl) ?_
          refine RG.cons (EfR.sym rfl (fun hc => Body.eql (ev1_gd rfl hc) (ev1_gd rfl hc)) rfl) ?_
          refine RO (Body.pick rfl rfl rfl (gdB rfl) rfl (pick_and _)) ?_
          refine mv rfl ?_
          refine RG.cons (EfR.sym rfl (fun hc => Body.call (ha) rfl rfl rfl) rfl) ?_
          refine RO (Body.pick rfl rfl rfl (gdB rfl) rfl (pick_and _)) ?_
          refine ag rfl ?_
          refine RN ?_
          refine Ap rfl ?_
          refine TK.ret ?_
          refine PK.ret ?_
          refine leaf (val0 := vB (bif (bif (decide ((begE start W default 0) = (badB start W default 0))) then (decide ((begT start W default 0) = (begF W default 0))) else false) then true else false)) (by kernel_rfl) ?_
          exact lb (by first
          | rfl
          | exact g0 (by assumption)
          | exact g1 (start := start) (W := W) (l := l) (o := o) (by assumption) (by assumption)
          | exact g2 (start := start) (W := W) (l := l) (o := o) (by assumption) (by assumption)
          | exact f1 (by assumption)
          | exact f2 (by assumption) (by assumption)
          | exact f3 (by assumption) (by assumption))
        ·
         refine At rfl ?_
         refine NR ⟨[(19, vI (begT start W default 0)), (20, vI (begE start W default 0)), (21, vI (badB start W default 0)), (22, vI 0)], []⟩ (sb rfl rfl rfl) rfl ?_
         refine mv rfl ?_
         refine mv rfl ?_
         refine RO (Body.eql rfl rfl) ?_
         refine mv rfl ?_
         refine RG.cons (EfR.sym rfl (fun hc => Body.move rfl) rfl) ?_
         refine RG.cons (EfR.sym rfl (fun hc => Body.move rfl) rfl) ?_
         refine RG.cons (EfR.sym rfl (fun hc => Body.eql (ev1_gd rfl hc) (ev1_gd rfl hc)) rfl) ?_
         refine RO (Body.pick rfl rfl rfl (gdB rfl) rfl (pick_and _)) ?_
         refine mv rfl ?_
         refine RG.cons (EfR.sym rfl (fun hc => Body.call (ha) rfl rfl rfl) rfl) ?_
         refine RO (Body.pick rfl rfl rfl (gdB rfl) rfl (pick_and _)) ?_
         refine ag rfl ?_
         refine RN ?_
         refine Ap rfl ?_
         refine TK.ret ?_
         refine PK.ret ?_
         refine leaf (val0 := vB (bif (bif (decide ((begE start W default 0) = (badB start W default 0))) then (decide ((begT start W default 0) = 0)) else false) then true else false)) (by kernel_rfl) ?_
         exact lb (by first
          | rfl
          | exact g0 (by assumption)
          | exact g1 (start := start) (W := W) (l := l) (o := o) (by assumption) (by assumption)
          | exact g2 (start := start) (W := W) (l := l) (o := o) (by assumption) (by assumption)
          | exact f1 (by assumption)
          | exact f2 (by assumption) (by assumption)
          | exact f3 (by assumption) (by assumption))
end Go.Lens.Tb
end
section
namespace Go.Lens.Tb
open Go.Proofs Go.Proofs.YtomghboflcafbaaGreatDoor Go.RowKit Go.ChangeShapes
set_option linter.unusedSectionVars false
set_option maxRecDepth 100000
theorem gPow : Tryz.prog.globalNamed "internal/strconv.uint64pow10" = some 3 := by kernel_rfl
theorem tPow : (Tryz.prog.globals[3]?).map (·.type) = some 434 := by kernel_rfl
theorem plainLaid : (Rows.nightTimesRow.laid.all fun x => x.2.handleName?.isNone) = true := by kernel_rfl
theorem powDatum : (Rows.laid_internal_strconv_uint64pow10 : DataW Unit) = Lib.tabData .u64 Lib.pow10Tab := by kernel_rfl
theorem pow_of {W : World} (h : laidMetH Tryz.prog Rows.nightTimesRow.laid W) : ∃ T fr, W.heap[3]? = some (.cells (Lib.pow10Tab.map fun z => Value.int .u64 z).toArray T fr) := by
  rw [MakeChecks.laidMetH_plain _ _ _ plainLaid] at h
  obtain ⟨ps, ⟨g0, t0, cs0, f0, p0, q0, _, _, _, _, ⟨g1, t1, cs1, f1, p1, q1, _, _, _, _, ⟨g2, t2, cs2, f2, p2, q2, hg, ht, hv, hd, _, _⟩, _⟩, _⟩, _, _⟩ := h
  obtain rfl := Option.some.inj (gPow.symm.trans hg)
  obtain rfl := Option.some.inj (tPow.symm.trans ht)
  have hd' : DataW.trod (fun _ => ()) Tryz.prog W 0 (fun _ => true) false f2 434 cs2.toList = some (Rows.laid_internal_strconv_uint64pow10, p2) := hd
  rw [powDatum] at hd'
  have hc := Lib.cells_of_tab Tryz.underlying434 Tryz.underlying406 (by kernel_rfl) (by kernel_rfl) hd'
  have hv' : (Tryz.prog.globalNamed "internal/strconv.uint64pow10").bind (fun g => match W.heap[g]? with | some (.cells cs _ _) => some cs | _ => none) = some cs2 := hv
  rw [gPow] at hv'
  simp only [Option.bind_some] at hv'
  split at hv'
  · rename_i cs T fr hb
    cases hv'
    refine ⟨T, fr, ?_⟩
    rw [hb, ← hc, Array.toArray_toList]
  · cases hv'
@[reducible] def lzOf (W : World) : Lz := ⟨fun b => if b = 3 then W.heap[3]? else none⟩
theorem lzOf_laid (W : World) : ∀ b o, (lzOf W).L b = some o → W.heap[b]? = some o := by
  intro b o h
  change (if b = 3 then W.heap[3]? else none) = some o at h
  split at h
  · rename_i e; subst e; exact h
  · cases h
theorem powLaid_of {W : World} (h : laidMetH Tryz.prog Rows.nightTimesRow.laid W) : @PowLaid (lzOf W) := by
  obtain ⟨T, fr, hb⟩ := pow_of h
  exact ⟨3, T, fr, gPow, hb⟩
section
variable {H : Type} {enc : TypeId × Value → H} {w : World} {base : Nat} {spare : Nat → Bool} {held : Bool}
theorem read_ints {fuel : Nat} {cs : List Value} {x : DataW H × List MemPlace} (h : DataW.trod enc Tryz.prog w base spare held fuel 22 cs = some x) :
    ∃ (l : List Int) (v : Value), cs = [v] ∧ RelPV (gh0.rd w) (.slice (l.map eI)) v ∧ ((l = [] ∧ x.1 = .nil) ∨ ∃ es rest, x.1 = .slice es rest ∧ es.length = l.length) :=
  read_slice (encE := eI) (vals := fun n => [.int .i64 n]) Tryz.underlying22 (show Tryz.prog.cellsOf 3 = 1 by kernel_rfl) (by omega)
    (fun n c y hy => by obtain ⟨m, e, _⟩ := DataW.trod_int Tryz.underlying3 hy; exact ⟨m, e⟩) (fun _ => rfl) (fun _ => rfl)
    (fun a b off hc => relCells_lits (vs := [.int .i64 a]) (by simp [isLit]) hc) h
theorem read_tgt {n : Nat} {c : List Value} {y : DataW H × List MemPlace} (h : DataW.trod enc Tryz.prog w base spare held n 46 c = some y) :
    ∃ t : Tgt, c = [.string t.name, .int .i64 t.bright, .int .i64 t.place, .int .i64 t.length, .int .i64 t.from_, .int .i64 t.to, .int .i64 t.limit] := by
  obtain ⟨xs, m, rfl, rfl, hl, hx, hf⟩ := DataW.trod_struct Tryz.underlying46 h
  have hl7 : c.length = 7 := hl.trans (by kernel_rfl)
  have hx7 : xs.length = 7 := hx
  match c, hl7, xs, hx7, hf with
  | [c0, c1, c2, c3', c4, c5, c6], _, [x0, x1, x2, x3, x4, x5, x6], _, hf =>
    have f0 := hf 0 _ rfl
    have f1 := hf 1 _ rfl
    have f2 := hf 2 _ rfl
    have f3 := hf 3 _ rfl
    have f4 := hf 4 _ rfl
    have f5 := hf 5 _ rfl
    have f6 := hf 6 _ rfl
    obtain ⟨s, e0, _⟩ := DataW.trod_string Tryz.underlying9 f0
    obtain ⟨n1, e1, _⟩ := DataW.trod_int Tryz.underlying3 f1
    obtain ⟨n2, e2, _⟩ := DataW.trod_int Tryz.underlying3 f2
    obtain ⟨n3, e3, _⟩ := DataW.trod_int Tryz.underlying3 f3
    obtain ⟨n4, e4, _⟩ := DataW.trod_int Tryz.underlying3 f4
    obtain ⟨n5, e5, _⟩ := DataW.trod_int Tryz.underlying3 f5
    obtain ⟨n6, e6, _⟩ := DataW.trod_int Tryz.underlying3 f6
    cases e0; cases e1; cases e2; cases e3; cases e4; cases e5; cases e6
    exact ⟨⟨s, n1, n2, n3, n4, n5, n6⟩, rfl⟩
theorem read_tgts {fuel : Nat} {cs : List Value} {x : DataW H × List MemPlace} (h : DataW.trod enc Tryz.prog w base spare held fuel 25 cs = some x) :
    ∃ (l : List Tgt) (v : Value), cs = [v] ∧ RelPV (gh0.rd w) (.slice (l.map eT)) v ∧ ((l = [] ∧ x.1 = .nil) ∨ ∃ es rest, x.1 = .slice es rest ∧ es.length = l.length) :=
  read_slice (encE := eT) (vals := fun t => [.string t.name, .int .i64 t.bright, .int .i64 t.place, .int .i64 t.length, .int .i64 t.from_, .int .i64 t.to, .int .i64 t.limit]) Tryz.underlying25 (show Tryz.prog.cellsOf 46 = 7 by kernel_rfl) (by omega)
    (fun n c y hy => read_tgt hy) (fun _ => rfl) (fun _ => rfl)
    (fun a b off hc => relCells_lits (vs := [.string a.name, .int .i64 a.bright, .int .i64 a.place, .int .i64 a.length, .int .i64 a.from_, .int .i64 a.to, .int .i64 a.limit]) (by simp [isLit]) hc) h
theorem read_night {n : Nat} {c : List Value} {y : DataW H × List MemPlace} (h : DataW.trod enc Tryz.prog w base spare held n 24 c = some y) :
    ∃ (start : Int) (W : List Int) (v : Value), c = [.int .i64 start, v] ∧ RelPV (gh0.rd w) (.slice (W.map eI)) v := by
  obtain ⟨xs, m, rfl, rfl, hl, hx, hf⟩ := DataW.trod_struct Tryz.underlying24 h
  have hl2 : c.length = 2 := hl.trans (by kernel_rfl)
  have hx2 : xs.length = 2 := hx
  match c, hl2, xs, hx2, hf with
  | [c0, c1], _, [x0, x1], _, hf =>
    have f0 := hf 0 _ rfl
    have f1 := hf 1 _ rfl
    obtain ⟨n0, e0, _⟩ := DataW.trod_int Tryz.underlying3 f0
    obtain ⟨l, v, e1, hr, _⟩ := read_ints f1
    cases e0; cases e1
    exact ⟨n0, l, _, rfl, hr⟩
end
end Go.Lens.Tb
end
