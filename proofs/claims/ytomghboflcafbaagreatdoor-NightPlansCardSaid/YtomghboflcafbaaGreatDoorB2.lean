/- A part of the proof that NightPlansCardSaid holds, without conditions. -/
import Derived.Test.YtomghboflcafbaaGreatDoorB1
import Derived.Test.YtomghboflcafbaaGreatDoorS4
import Derived.Test.YtomghboflcafbaaGreatDoorS10
import Derived.Test.YtomghboflcafbaaGreatDoorRows
import Derived.MakeChecks
import Derived.Lib.LaidTab
import Derived.LaidLaws
import Derived.Stop.Joined
import Derived.RowKit
set_option linter.unusedVariables false
set_option linter.unusedSimpArgs false
section
namespace Go.Lens.Tb
open Go.Proofs
variable [Lz]
set_option linter.unusedSectionVars false
set_option maxRecDepth 100000
attribute [local irreducible] TK PK T RG EfR Body
theorem ag25 : aggT tab 25 = some false := by kernel_rfl
theorem fa53_1 : fadQ tab 53 1 = some 1 := by kernel_rfl
theorem fa53_2 : fadQ tab 53 2 = some 2 := by kernel_rfl
theorem sz25 : szT tab 25 = some 1 := by kernel_rfl
set_option maxHeartbeats 2000000 in
theorem w112 (a : Int) (l : List Int) (hl : (a :: l).length ≤ 1000000) : CallOk Tryz.prog 112 [vL eI (a :: l)] (lookM []) (vL eI (a :: l)) [] := by
 haveI := tab_ok
 obtain ⟨fn, f1, f2, f3, f4, _, f6⟩ := qf112
 refine callOk_of (Y := tab) (F := fn112) f1 (f2.trans rfl) f3 f4 f6 (Nat.le_of_ble_eq_true rfl) rfl ?_
 clear f1 f2 f3 f4 f6
 show TK _ _ _ _ _ _ ⟨[(0, vL eI (a :: l))], []⟩
 refine At rfl ?_
 refine NR ⟨[(0, vL eI (a :: l))], []⟩ (sb rfl rfl rfl) rfl ?_
 refine RO (Body.nilS (enc := eI) rfl) ?_
 refine RN ?_
 refine Ap rfl ?_
 refine NR ⟨[(0, vL eI (a :: l))], []⟩ (sb rfl rfl rfl) rfl ?_
 refine mv rfl ?_
 refine rn rfl ?_
 refine RN ?_
 refine Ap rfl ?_
 refine TK.norm ⟨[(0, vL eI (a :: l)), (4, vB false)], []⟩ (sb rfl rfl rfl) ?_
 refine TK.condF rfl ?_
 refine At rfl ?_
 refine NR ⟨[(0, vL eI (a :: l))], []⟩ (sb rfl rfl rfl) rfl ?_
 refine rn rfl ?_
 refine mv rfl ?_
 refine RO (Body.append (enc := eI) (l := []) (r := (a :: l)) rfl rfl rfl un22 in3 rfl (fun _ => rfl) by3 (by simp only [List.length_cons, List.length_nil] at *; omega)) ?_
 refine rn rfl ?_
 refine RN ?_
 refine Ap rfl ?_
 refine TK.frz (t := 2) rfl rfl ?_
 refine TK.norm ⟨[(2, vL eI (a :: l))], []⟩ (sb rfl rfl rfl) ?_
 refine TK.ret ?_
 refine PK.ret ?_
 refine leaf (val0 := vL eI (a :: l)) (by kernel_rfl) ?_
 exact rfl
theorem v112 (o : List Int) (h : o ≠ []) (hl : o.length ≤ 1000000) : CallOk Tryz.prog 112 [vL eI o] (lookM []) (vL eI o) [] := by
 cases o with
 | nil => exact absurd rfl h
 | cons a l => exact w112 a l hl
set_option maxHeartbeats 2000000 in
theorem w113 (l : List Int) (x : Int) (hl : l.length ≤ 1000000) : CallOk Tryz.prog 113 [vL eI l, vI x] (lookM []) (vL eI (l ++ [x])) [] := by
 haveI := tab_ok
 obtain ⟨fn, f1, f2, f3, f4, _, f6⟩ := qf113
 refine callOk_of (Y := tab) (F := fn113) f1 (f2.trans rfl) f3 f4 f6 (Nat.le_of_ble_eq_true rfl) rfl ?_
 clear f1 f2 f3 f4 f6
 show TK _ _ _ _ _ _ ⟨[(0, vL eI l), (1, vI x)], []⟩
 refine At rfl ?_
 refine NR ⟨[(0, vL eI l), (1, vI x)], []⟩ (sb rfl rfl rfl) rfl ?_
 refine RO (Body.nilS (enc := eI) rfl) ?_
 refine RN ?_
 refine Ap rfl ?_
 refine NR ⟨[(0, vL eI l), (1, vI x)], []⟩ (sb rfl rfl rfl) rfl ?_
 refine mv rfl ?_
 refine RO (Body.lenL rfl un22) ?_
 refine mv rfl ?_
 refine RO (Body.lenL rfl un22) ?_
 refine RO (Body.add rfl rfl (by unfold R64; omega)) ?_
 refine RO (Body.makeSl (enc := eI) (sz := 1) (z0 := 0) (n := (Int.toNat ((List.length l : Nat) : Int))) (m := (List.length l + 1)) rfl rfl rfl un22 in3 rfl rfl rfl by3 (by first | omega | (simp only [List.length_append, List.length_cons, List.length_nil]; omega)) rfl rfl) ?_
 refine rn rfl ?_
 refine RN ?_
 refine Ap rfl ?_
 refine NR ⟨[(0, vL eI l), (1, vI x), (5, .aref 12 0)], [(12, .arr 0 1 3 (List.map eI (List.replicate (Int.toNat ((List.length l : Nat) : Int)) 0)))]⟩ (sb rfl rfl rfl) rfl ?_
 refine rn rfl ?_
 refine mv rfl ?_
 refine RO (Body.copyL rfl rfl rfl (by simp) un22 sz3 rfl (fun _ => rfl)) ?_
 refine RN ?_
 refine Ap rfl ?_
 refine NR ⟨[(1, vI x), (5, .aref 12 0)], [(12, .arr 0 1 3 (List.map eI l))]⟩ (sb rfl rfl rfl) rfl ?_
 refine rn rfl ?_
 refine mv rfl ?_
 refine RO (Body.runZ (val := .pv (.slice (List.map eI [x]))) rfl (fun l => Frz.arr l _ _ _ _ _) rfl) ?_
 refine RO (Body.append rfl rfl rfl un22 in3 rfl (fun _ => rfl) by3 (by first | omega | (simp only [List.length_append, List.length_cons, List.length_nil]; omega))) ?_
 refine rn rfl ?_
 refine RN ?_
 refine Ap rfl ?_
 refine TK.frz (t := 4) rfl rfl ?_
 refine TK.norm ⟨[(4, vL eI (l ++ [x]))], []⟩ (sb rfl rfl rfl) ?_
 refine TK.ret ?_
 refine PK.ret ?_
 refine leaf (val0 := vL eI (l ++ [x])) (by kernel_rfl) ?_
 exact rfl
set_option maxHeartbeats 8000000 in
theorem w111 (R : List Int → Int → Int → Ch → Ch) (start : Int) (W : List Int) (l : List Tgt) (o : List Int) (b br : Int) (c0 : Ch) (hS : 0 ≤ start ∧ start ≤ 1440 ∧ W.length ≤ 24 ∧ l.length ≤ 32) (hT : ∀ t ∈ l, VT t) (hg : gdO l o) (hb : 0 ≤ b ∧ b ≤ 1440) (hbr : 0 ≤ br ∧ br ≤ 1000 * o.length) (h0 : o = [] → betC ⟨o, br, endF start l o b⟩ c0 = false)
 (hrec : ∀ (i : Nat) (b' : Int) (c : Ch), i < l.length → o.any (fun j => decide (j = (i : Int))) = false → 0 ≤ b' ∧ b' ≤ 1440 → CallOk Tryz.prog 111 [vL eI (o ++ [(i : Int)]), vI b', vI (br + (l.getD i default).bright), .bref 3 0, .bref 4 0, .bref 8 0, .bref 9 0] (lookM (mS start W l c)) (.tup []) (mO start W l (R (o ++ [(i : Int)]) b' (br + (l.getD i default).bright) c))) :
 CallOk Tryz.prog 111 [vL eI o, vI b, vI br, .bref 3 0, .bref 4 0, .bref 8 0, .bref 9 0] (lookM (mS start W l c0)) (.tup []) (mO start W l (loopC start W l R o b br (updC start l o b br c0) l.length)) := by
 haveI := tab_ok
 obtain ⟨fn, f1, f2, f3, f4, _, f6⟩ := qf111
 refine callOk_ofL (Y := tab) (F := fn111) 1001 (mS start W l c0) f1 (f2.trans rfl) f3 f4 f6 (Nat.le_of_ble_eq_true rfl) rfl rfl ?_
 clear f1 f2 f3 f4 f6
 have hv := gd_VI hT hg
 have hol := gd_len hg
 have hvl : o.length ≠ 0 → VI l (o.getD (o.length - 1) 0) := fun h => hv _ (by omega)
 show TK _ _ _ _ _ _ ⟨[(0, vL eI o), (1, vI b), (2, vI br), (3, .bref 3 0), (4, .bref 4 0), (5, .bref 8 0), (6, .bref 9 0)], [(3, .box 24 [vI start, vL eI W]), (4, .box 25 [vL eT l]), (8, .box 53 [vL eI (Ch.order c0), vI (Ch.bright c0), vI (Ch.end_ c0)]), (9, .box 200 [.clos (.func 111) [] [.bref 3 0, .bref 4 0, .bref 8 0, .bref 9 0]])]⟩
 refine At rfl ?_
 refine NR ⟨[(0, vL eI o), (1, vI b), (2, vI br), (3, .bref 3 0), (4, .bref 4 0), (5, .bref 8 0), (6, .bref 9 0)], [(3, .box 24 [vI start, vL eI W]), (4, .box 25 [vL eT l]), (8, .box 53 [vL eI (Ch.order c0), vI (Ch.bright c0), vI (Ch.end_ c0)]), (9, .box 200 [.clos (.func 111) [] [.bref 3 0, .bref 4 0, .bref 8 0, .bref 9 0]])]⟩ (sb rfl rfl rfl) rfl ?_
 refine RO (Body.fadB rfl fa24_0 rfl) ?_
 refine RO (Body.loadB rfl rfl rfl ag3 sz3 rfl) ?_
 refine ag rfl ?_
 refine RN ?_
 refine Ap rfl ?_
 refine NR ⟨[(0, vL eI o), (1, vI b), (2, vI br), (3, .bref 3 0), (4, .bref 4 0), (5, .bref 8 0), (6, .bref 9 0), (10, vI start)], [(3, .box 24 [vI start, vL eI W]), (4, .box 25 [vL eT l]), (8, .box 53 [vL eI (Ch.order c0), vI (Ch.bright c0), vI (Ch.end_ c0)]), (9, .box 200 [.clos (.func 111) [] [.bref 3 0, .bref 4 0, .bref 8 0, .bref 9 0]])]⟩ (sb rfl rfl rfl) rfl ?_
 refine mv rfl ?_
 refine RO (Body.lenL rfl un22) ?_
 refine RO (Body.gtr rfl rfl) ?_
 refine RN ?_
 refine Ap rfl ?_
 refine TK.norm ⟨[(0, vL eI o), (1, vI b), (2, vI br), (3, .bref 3 0), (4, .bref 4 0), (5, .bref 8 0), (6, .bref 9 0), (10, vI start), (19, vB (decide (0 < ((List.length o : Nat) : Int))))], [(3, .box 24 [vI start, vL eI W]), (4, .box 25 [vL eT l]), (8, .box 53 [vL eI (Ch.order c0), vI (Ch.bright c0), vI (Ch.end_ c0)]), (9, .box 200 [.clos (.func 111) [] [.bref 3 0, .bref 4 0, .bref 8 0, .bref 9 0]])]⟩ (sb rfl rfl rfl) ?_
 refine TK.condJ ⟨[(0, vL eI o), (1, vI b), (2, vI br), (3, .bref 3 0), (4, .bref 4 0), (5, .bref 8 0), (6, .bref 9 0), (10, vI (endF start l o b))], [(3, .box 24 [vI start, vL eI W]), (4, .box 25 [vL eT l]), (8, .box 53 [vL eI (Ch.order c0), vI (Ch.bright c0), vI (Ch.end_ c0)]), (9, .box 200 [.clos (.func 111) [] [.bref 3 0, .bref 4 0, .bref 8 0, .bref 9 0]])]⟩ rfl rfl (fun h1 => ?_) (fun h1 => ?_) ?_
 ·
  replace h1 := of_decide_eq_true h1
  refine At rfl ?_
  refine TK.norm ⟨[(0, vL eI o), (1, vI b), (2, vI br), (3, .bref 3 0), (4, .bref 4 0), (5, .bref 8 0), (6, .bref 9 0)], [(3, .box 24 [vI start, vL eI W]), (4, .box 25 [vL eT l]), (8, .box 53 [vL eI (Ch.order c0), vI (Ch.bright c0), vI (Ch.end_ c0)]), (9, .box 200 [.clos (.func 111) [] [.bref 3 0, .bref 4 0, .bref 8 0, .bref 9 0]])]⟩ (sb rfl rfl rfl) ?_
  have hi := hv (o.length - 1) (by omega)
  refine TK.rg (Y := tab) mixed rfl ?_
  refine mv rfl ?_
  refine RO (Body.loadB rfl rfl rfl ag25 sz25 rfl) ?_
  refine mv rfl ?_
  refine mv rfl ?_
  refine RO (Body.lenL rfl un22) ?_
  refine RO (Body.sub rfl rfl (by unfold R64; omega)) ?_
  refine RO (Body.idx (z := 0) (i := (List.length o - 1)) rfl rfl un22 sz3 (fun _ => rfl) (by omega) (by first | omega | exact hi.1)) ?_
  refine RO (Body.loadP rfl ag3 sz3) ?_
  refine RO (Body.idx (z := default) (i := (Int.toNat (List.getD o (List.length o - 1) 0))) rfl rfl un25 sz46 (fun _ => rfl) (Int.toNat_of_nonneg (by first | omega | exact hi.1)).symm (by first | omega | exact hi.1)) ?_
  refine RO (Body.fadP rfl fa46_3 rfl) ?_
  refine RO (Body.loadP rfl ag3 sz3) ?_
  refine RO (Body.add rfl rfl (by unfold R64; omega)) ?_
  refine ag rfl ?_
  refine RG.nil (fun _ => by kernel_rfl) ?_
  refine Aq rfl ?_
  refine PK.lp ?_
  first | rw [endF_pos h1] | rw [endF_zero h1]
  exact sb rfl rfl rfl
 ·
  replace h1 := of_decide_eq_false h1
  refine Au rfl ?_
  refine PK.lp ?_
  first | rw [endF_pos h1] | rw [endF_zero h1]
  exact sb rfl rfl rfl
 ·
  refine At rfl ?_
  refine NR ⟨[(0, vL eI o), (1, vI b), (2, vI br), (3, .bref 3 0), (4, .bref 4 0), (5, .bref 8 0), (6, .bref 9 0), (10, vI (endF start l o b))], [(3, .box 24 [vI start, vL eI W]), (4, .box 25 [vL eT l]), (8, .box 53 [vL eI (Ch.order c0), vI (Ch.bright c0), vI (Ch.end_ c0)]), (9, .box 200 [.clos (.func 111) [] [.bref 3 0, .bref 4 0, .bref 8 0, .bref 9 0]])]⟩ (sb rfl rfl rfl) rfl ?_
  refine mv rfl ?_
  refine RO (Body.fadB rfl fa53_1 rfl) ?_
  refine RO (Body.loadB rfl rfl rfl ag3 sz3 rfl) ?_
  refine RO (Body.gtr rfl rfl) ?_
  refine mv rfl ?_
  refine RG.cons (EfR.sym rfl (fun hc => Body.move rfl) rfl) ?_
  refine RG.cons (EfR.sym rfl (fun hc => Body.fadB rfl fa53_1 rfl) rfl) ?_
  refine RG.cons (EfR.sym rfl (fun hc => Body.loadB (ev1_gd rfl hc) rfl rfl ag3 sz3 rfl) rfl) ?_
  refine RG.cons (EfR.sym rfl (fun hc => Body.eql (ev1_gd rfl hc) (ev1_gd rfl hc)) rfl) ?_
  refine RG.cons (EfR.sym rfl (fun hc => Body.move (ev1_gd rfl hc)) rfl) ?_
  refine RG.cons (EfR.sym rfl (fun hc => Body.move rfl) rfl) ?_
  refine RG.cons (EfR.sym rfl (fun hc => Body.fadB rfl fa53_2 rfl) rfl) ?_
  refine RG.cons (EfR.sym rfl (fun hc => Body.loadB (ev1_gd rfl hc) rfl rfl ag3 sz3 rfl) rfl) ?_
  refine RG.cons (EfR.sym rfl (fun hc => Body.lss (ev1_gd rfl hc) (ev1_gd rfl hc)) rfl) ?_
  refine RG.cons (EfR.sym rfl (fun hc => Body.pick (ev1_gd rfl hc) rfl rfl (gdB rfl) rfl (pick_and2 hc)) rfl) ?_
  refine RO (Body.pick rfl rfl rfl rfl (gdB rfl) (pick_or _)) ?_
  refine RN ?_
  refine Ap rfl ?_
  refine TK.norm ⟨[(0, vL eI o), (1, vI b), (2, vI br), (3, .bref 3 0), (4, .bref 4 0), (5, .bref 8 0), (6, .bref 9 0), (10, vI (endF start l o b)), (47, vB (bif (decide ((Ch.bright c0) < br)) then true else (bif (decide (br = (Ch.bright c0))) then (decide ((endF start l o b) < (Ch.end_ c0))) else false)))], [(3, .box 24 [vI start, vL eI W]), (4, .box 25 [vL eT l]), (8, .box 53 [vL eI (Ch.order c0), vI (Ch.bright c0), vI (Ch.end_ c0)]), (9, .box 200 [.clos (.func 111) [] [.bref 3 0, .bref 4 0, .bref 8 0, .bref 9 0]])]⟩ (sb rfl rfl rfl) ?_
  refine TK.condJ ⟨[(0, vL eI o), (1, vI b), (2, vI br), (3, .bref 3 0), (4, .bref 4 0), (6, .bref 9 0)], [(3, .box 24 [vI start, vL eI W]), (4, .box 25 [vL eT l]), (8, .box 53 [vL eI (Ch.order (updC start l o b br c0)), vI (Ch.bright (updC start l o b br c0)), vI (Ch.end_ (updC start l o b br c0))]), (9, .box 200 [.clos (.func 111) [] [.bref 3 0, .bref 4 0, .bref 8 0, .bref 9 0]])]⟩ rfl rfl (fun h2 => ?_) (fun h2 => ?_) ?_
  ·
   refine At rfl ?_
   refine TK.norm ⟨[(0, vL eI o), (1, vI b), (2, vI br), (3, .bref 3 0), (4, .bref 4 0), (5, .bref 8 0), (6, .bref 9 0), (10, vI (endF start l o b))], [(3, .box 24 [vI start, vL eI W]), (4, .box 25 [vL eT l]), (8, .box 53 [vL eI (Ch.order c0), vI (Ch.bright c0), vI (Ch.end_ c0)]), (9, .box 200 [.clos (.func 111) [] [.bref 3 0, .bref 4 0, .bref 8 0, .bref 9 0]])]⟩ (sb rfl rfl rfl) ?_
   have hne : o ≠ [] := fun e => by have := h0 e; rw [upd_if h2] at this; cases this
   refine TK.rg (Y := tab) mixed rfl ?_
   refine mv rfl ?_
   refine RO (Body.call (v112 o hne (by omega)) rfl rfl rfl) ?_
   refine mv rfl ?_
   refine mv rfl ?_
   refine rn rfl ?_
   refine rn rfl ?_
   refine RN ?_
   refine Aq rfl ?_
   refine PK.lp ?_
   rw [upd_of (upd_if h2)]
   exact sb rfl rfl rfl
  ·
   refine Au rfl ?_
   refine PK.lp ?_
   rw [upd_of (upd_if h2)]
   exact sb rfl rfl rfl
  ·
   refine At rfl ?_
   refine NR ⟨[(0, vL eI o), (1, vI b), (2, vI br), (3, .bref 3 0), (4, .bref 4 0), (6, .bref 9 0)], [(3, .box 24 [vI start, vL eI W]), (4, .box 25 [vL eT l]), (8, .box 53 [vL eI (Ch.order (updC start l o b br c0)), vI (Ch.bright (updC start l o b br c0)), vI (Ch.end_ (updC start l o b br c0))]), (9, .box 200 [.clos (.func 111) [] [.bref 3 0, .bref 4 0, .bref 8 0, .bref 9 0]])]⟩ (sb rfl rfl rfl) rfl ?_
   refine RO (Body.loadB rfl rfl rfl ag25 sz25 rfl) ?_
   refine RO (Body.lenL rfl un25) ?_
   refine mv rfl ?_
   refine RN ?_
   refine Ap rfl ?_
   refine TK.loop (α := Nat × Ch) (fun x => ⟨[(0, vL eI o), (1, vI b), (2, vI br), (3, .bref 3 0), (4, .bref 4 0), (6, .bref 9 0), (53, vL eT l), (54, vI ((List.length l : Nat) : Int)), (55, vI ((x.1 : Nat) : Int))], [(3, .box 24 [vI start, vL eI W]), (4, .box 25 [vL eT l]), (8, .box 53 [vL eI (Ch.order x.2), vI (Ch.bright x.2), vI (Ch.end_ x.2)]), (9, .box 200 [.clos (.func 111) [] [.bref 3 0, .bref 4 0, .bref 8 0, .bref 9 0]])]⟩) (fun x => x.1 ≤ List.length l ∧ x.2 = loopC start W l R o b br (updC start l o b br c0) x.1) (fun x => List.length l - x.1) (0, (updC start l o b br c0)) ?_ (sb rfl rfl rfl) ?_
   · show 0 ≤ List.length l ∧ (updC start l o b br c0) = loopC start W l R o b br (updC start l o b br c0) 0
     exact ⟨Nat.zero_le _, rfl⟩
   rintro ⟨k, c⟩ hI0
   replace hI0 : k ≤ List.length l ∧ c = loopC start W l R o b br (updC start l o b br c0) k := hI0
   show TK _ _ _ _ _ _ ⟨[(0, vL eI o), (1, vI b), (2, vI br), (3, .bref 3 0), (4, .bref 4 0), (6, .bref 9 0), (53, vL eT l), (54, vI ((List.length l : Nat) : Int)), (55, vI ((k : Nat) : Int))], [(3, .box 24 [vI start, vL eI W]), (4, .box 25 [vL eT l]), (8, .box 53 [vL eI (Ch.order c), vI (Ch.bright c), vI (Ch.end_ c)]), (9, .box 200 [.clos (.func 111) [] [.bref 3 0, .bref 4 0, .bref 8 0, .bref 9 0]])]⟩
   refine At rfl ?_
   refine NR ⟨[(0, vL eI o), (1, vI b), (2, vI br), (3, .bref 3 0), (4, .bref 4 0), (6, .bref 9 0), (53, vL eT l), (54, vI ((List.length l : Nat) : Int)), (55, vI ((k : Nat) : Int))], [(3, .box 24 [vI start, vL eI W]), (4, .box 25 [vL eT l]), (8, .box 53 [vL eI (Ch.order c), vI (Ch.bright c), vI (Ch.end_ c)]), (9, .box 200 [.clos (.func 111) [] [.bref 3 0, .bref 4 0, .bref 8 0, .bref 9 0]])]⟩ (sb rfl rfl rfl) rfl ?_
   refine RO (Body.lss rfl rfl) ?_
   refine RN ?_
   refine Ap rfl ?_
   refine TK.norm ⟨[(0, vL eI o), (1, vI b), (2, vI br), (3, .bref 3 0), (4, .bref 4 0), (6, .bref 9 0), (53, vL eT l), (54, vI ((List.length l : Nat) : Int)), (55, vI ((k : Nat) : Int)), (56, vB (decide (((k : Nat) : Int) < ((List.length l : Nat) : Int))))], [(3, .box 24 [vI start, vL eI W]), (4, .box 25 [vL eT l]), (8, .box 53 [vL eI (Ch.order c), vI (Ch.bright c), vI (Ch.end_ c)]), (9, .box 200 [.clos (.func 111) [] [.bref 3 0, .bref 4 0, .bref 8 0, .bref 9 0]])]⟩ (sb rfl rfl rfl) ?_
   refine TK.condP rfl (fun h3 => ?_) (fun h3 => ?_)
   ·
    refine At rfl ?_
    refine NR ⟨[(0, vL eI o), (1, vI b), (2, vI br), (3, .bref 3 0), (4, .bref 4 0), (6, .bref 9 0), (53, vL eT l), (54, vI ((List.length l : Nat) : Int)), (55, vI ((k : Nat) : Int))], [(3, .box 24 [vI start, vL eI W]), (4, .box 25 [vL eT l]), (8, .box 53 [vL eI (Ch.order c), vI (Ch.bright c), vI (Ch.end_ c)]), (9, .box 200 [.clos (.func 111) [] [.bref 3 0, .bref 4 0, .bref 8 0, .bref 9 0]])]⟩ (sb rfl rfl rfl) rfl ?_
    refine mv rfl ?_
    refine RO (Body.idx (z := default) (i := k) rfl rfl un25 sz46 (fun _ => rfl) rfl (by first | omega | exact hi.1)) ?_
    refine RO (Body.loadA (ds := [pS (Tgt.name (List.getD l k default)), pI (Tgt.bright (List.getD l k default)), pI (Tgt.place (List.getD l k default)), pI (Tgt.length (List.getD l k default)), pI (Tgt.from_ (List.getD l k default)), pI (Tgt.to (List.getD l k default)), pI (Tgt.limit (List.getD l k default))]) rfl ag46 sz46 (Nat.le_of_ble_eq_true rfl) rfl) ?_
    refine rn rfl ?_
    refine ag rfl ?_
    refine rn rfl ?_
    refine RN ?_
    refine Ap rfl ?_
    refine TK.norm ⟨[(0, vL eI o), (1, vI b), (2, vI br), (3, .bref 3 0), (4, .bref 4 0), (6, .bref 9 0), (11, vI ((k : Nat) : Int)), (12, .bref 1013 0), (53, vL eT l), (54, vI ((List.length l : Nat) : Int)), (55, vI ((k : Nat) : Int))], [(3, .box 24 [vI start, vL eI W]), (4, .box 25 [vL eT l]), (8, .box 53 [vL eI (Ch.order c), vI (Ch.bright c), vI (Ch.end_ c)]), (9, .box 200 [.clos (.func 111) [] [.bref 3 0, .bref 4 0, .bref 8 0, .bref 9 0]]), (1013, .box 46 [vS (Tgt.name (List.getD l k default)), vI (Tgt.bright (List.getD l k default)), vI (Tgt.place (List.getD l k default)), vI (Tgt.length (List.getD l k default)), vI (Tgt.from_ (List.getD l k default)), vI (Tgt.to (List.getD l k default)), vI (Tgt.limit (List.getD l k default))])]⟩ (sb rfl rfl rfl) ?_
    have hvt : VT (l.getD k default) := hT _ (getD_mem (by omega))
    refine TK.rg (Y := tab) mixed rfl ?_
    refine mv rfl ?_
    refine mv rfl ?_
    refine RO (Body.call (w106 o ((k : Nat) : Int) (by first | omega | exact Nat.le_of_ble_eq_true rfl | (simp only [List.length_take, List.length_drop]; omega))) rfl rfl rfl) ?_
    refine RN ?_
    refine Ap rfl ?_
    refine TK.norm ⟨[(0, vL eI o), (1, vI b), (2, vI br), (3, .bref 3 0), (4, .bref 4 0), (6, .bref 9 0), (11, vI ((k : Nat) : Int)), (12, .bref 1013 0), (53, vL eT l), (54, vI ((List.length l : Nat) : Int)), (55, vI ((k : Nat) : Int)), (62, vB (List.any o (fun j => decide (j = ((k : Nat) : Int)))))], [(3, .box 24 [vI start, vL eI W]), (4, .box 25 [vL eT l]), (8, .box 53 [vL eI (Ch.order c), vI (Ch.bright c), vI (Ch.end_ c)]), (9, .box 200 [.clos (.func 111) [] [.bref 3 0, .bref 4 0, .bref 8 0, .bref 9 0]]), (1013, .box 46 [vS (Tgt.name (List.getD l k default)), vI (Tgt.bright (List.getD l k default)), vI (Tgt.place (List.getD l k default)), vI (Tgt.length (List.getD l k default)), vI (Tgt.from_ (List.getD l k default)), vI (Tgt.to (List.getD l k default)), vI (Tgt.limit (List.getD l k default))])]⟩ (sb rfl rfl rfl) ?_
    refine TK.cond rfl (fun h4 => ?_) (fun h4 => ?_)
    ·
     refine At rfl ?_
     refine TK.exit ?_
     refine PK.exit rfl ?_
     refine Ap rfl ?_
     refine NR ⟨[(0, vL eI o), (1, vI b), (2, vI br), (3, .bref 3 0), (4, .bref 4 0), (6, .bref 9 0), (53, vL eT l), (54, vI ((List.length l : Nat) : Int)), (55, vI ((k : Nat) : Int))], [(3, .box 24 [vI start, vL eI W]), (4, .box 25 [vL eT l]), (8, .box 53 [vL eI (Ch.order c), vI (Ch.bright c), vI (Ch.end_ c)]), (9, .box 200 [.clos (.func 111) [] [.bref 3 0, .bref 4 0, .bref 8 0, .bref 9 0]])]⟩ (sb rfl rfl rfl) rfl ?_
     refine RO (Body.add rfl rfl (by unfold R64; omega)) ?_
     refine mv rfl ?_
     refine RN ?_
     refine Aq rfl ?_
     refine PK.lp ?_
     refine LP.mk ((k + 1), c) ?_ ?_ (sb rfl rfl rfl)
     · show (k + 1) ≤ List.length l ∧ c = loopC start W l R o b br (updC start l o b br c0) (k + 1)
       refine ⟨by omega, ?_⟩; rw [loopC, ← hI0.2]; first | exact (step_skip (by assumption)).symm | exact (step_some ha (by assumption)).symm | exact (step_none ha (by assumption)).symm
     · show List.length l - (k + 1) < List.length l - k
       omega
    ·
     refine At rfl ?_
     refine TK.norm ⟨[(0, vL eI o), (1, vI b), (2, vI br), (3, .bref 3 0), (4, .bref 4 0), (6, .bref 9 0), (11, vI ((k : Nat) : Int)), (12, .bref 1013 0), (53, vL eT l), (54, vI ((List.length l : Nat) : Int)), (55, vI ((k : Nat) : Int))], [(3, .box 24 [vI start, vL eI W]), (4, .box 25 [vL eT l]), (8, .box 53 [vL eI (Ch.order c), vI (Ch.bright c), vI (Ch.end_ c)]), (9, .box 200 [.clos (.func 111) [] [.bref 3 0, .bref 4 0, .bref 8 0, .bref 9 0]]), (1013, .box 46 [vS (Tgt.name (List.getD l k default)), vI (Tgt.bright (List.getD l k default)), vI (Tgt.place (List.getD l k default)), vI (Tgt.length (List.getD l k default)), vI (Tgt.from_ (List.getD l k default)), vI (Tgt.to (List.getD l k default)), vI (Tgt.limit (List.getD l k default))])]⟩ (sb rfl rfl rfl) ?_
     have ha : o.any (fun j => decide (j = (k : Int))) = false := h4
     have haf := afterF_rng (t := l.getD k default) (show 0 ≤ start ∧ start ≤ 1440 by omega) hb hvl hvt
     refine TK.rg (Y := tab) mixed rfl ?_
     refine RO (Body.loadBA rfl rfl rfl ag24 sz24 rfl rfl) ?_
     refine RO (Body.loadBA rfl rfl rfl ag46 sz46 rfl rfl) ?_
     refine RO (Body.loadBA rfl rfl rfl ag24 sz24 rfl rfl) ?_
     refine RO (Body.loadB rfl rfl rfl ag25 sz25 rfl) ?_
     refine mv rfl ?_
     refine mv rfl ?_
     refine RO (Body.loadBA rfl rfl rfl ag46 sz46 rfl rfl) ?_
     refine RO (Body.call (w108 start W l o b (List.getD l k default) hvl (by omega)) rfl rfl rfl) ?_
     refine RO (Body.call (w107 start W (List.getD l k default) (afterF start l o b (List.getD l k default)) hvt (by omega)) rfl rfl rfl) ?_
     refine rn rfl ?_
     refine rn rfl ?_
     refine rn rfl ?_
     refine ag rfl ?_
     refine ag rfl ?_
     refine RG.nil (fun _ => by kernel_rfl) ?_
     refine Ap rfl ?_
     refine NR ⟨[(0, vL eI o), (1, vI b), (2, vI br), (3, .bref 3 0), (4, .bref 4 0), (6, .bref 9 0), (11, vI ((k : Nat) : Int)), (12, .bref 1013 0), (13, vI (if begF W (List.getD l k default) (afterF start l o b (List.getD l k default)) < 0 then 0 else begF W (List.getD l k default) (afterF start l o b (List.getD l k default)))), (14, vB (decide (0 ≤ begF W (List.getD l k default) (afterF start l o b (List.getD l k default))))), (53, vL eT l), (54, vI ((List.length l : Nat) : Int)), (55, vI ((k : Nat) : Int))], [(3, .box 24 [vI start, vL eI W]), (4, .box 25 [vL eT l]), (8, .box 53 [vL eI (Ch.order c), vI (Ch.bright c), vI (Ch.end_ c)]), (9, .box 200 [.clos (.func 111) [] [.bref 3 0, .bref 4 0, .bref 8 0, .bref 9 0]]), (1013, .box 46 [vS (Tgt.name (List.getD l k default)), vI (Tgt.bright (List.getD l k default)), vI (Tgt.place (List.getD l k default)), vI (Tgt.length (List.getD l k default)), vI (Tgt.from_ (List.getD l k default)), vI (Tgt.to (List.getD l k default)), vI (Tgt.limit (List.getD l k default))])]⟩ (sb rfl rfl rfl) rfl ?_
     refine mv rfl ?_
     refine RN ?_
     refine Ap rfl ?_
     refine TK.norm ⟨[(0, vL eI o), (1, vI b), (2, vI br), (3, .bref 3 0), (4, .bref 4 0), (6, .bref 9 0), (11, vI ((k : Nat) : Int)), (12, .bref 1013 0), (13, vI (if begF W (List.getD l k default) (afterF start l o b (List.getD l k default)) < 0 then 0 else begF W (List.getD l k default) (afterF start l o b (List.getD l k default)))), (53, vL eT l), (54, vI ((List.length l : Nat) : Int)), (55, vI ((k : Nat) : Int)), (75, vB (decide (0 ≤ begF W (List.getD l k default) (afterF start l o b (List.getD l k default)))))], [(3, .box 24 [vI start, vL eI W]), (4, .box 25 [vL eT l]), (8, .box 53 [vL eI (Ch.order c), vI (Ch.bright c), vI (Ch.end_ c)]), (9, .box 200 [.clos (.func 111) [] [.bref 3 0, .bref 4 0, .bref 8 0, .bref 9 0]]), (1013, .box 46 [vS (Tgt.name (List.getD l k default)), vI (Tgt.bright (List.getD l k default)), vI (Tgt.place (List.getD l k default)), vI (Tgt.length (List.getD l k default)), vI (Tgt.from_ (List.getD l k default)), vI (Tgt.to (List.getD l k default)), vI (Tgt.limit (List.getD l k default))])]⟩ (sb rfl rfl rfl) ?_
     refine TK.condP rfl (fun h5 => ?_) (fun h5 => ?_)
     ·
      refine At rfl ?_
      refine NR ⟨[(0, vL eI o), (1, vI b), (2, vI br), (3, .bref 3 0), (4, .bref 4 0), (6, .bref 9 0), (11, vI ((k : Nat) : Int)), (12, .bref 1013 0), (13, vI (if begF W (List.getD l k default) (afterF start l o b (List.getD l k default)) < 0 then 0 else begF W (List.getD l k default) (afterF start l o b (List.getD l k default)))), (53, vL eT l), (54, vI ((List.length l : Nat) : Int)), (55, vI ((k : Nat) : Int))], [(3, .box 24 [vI start, vL eI W]), (4, .box 25 [vL eT l]), (8, .box 53 [vL eI (Ch.order c), vI (Ch.bright c), vI (Ch.end_ c)]), (9, .box 200 [.clos (.func 111) [] [.bref 3 0, .bref 4 0, .bref 8 0, .bref 9 0]]), (1013, .box 46 [vS (Tgt.name (List.getD l k default)), vI (Tgt.bright (List.getD l k default)), vI (Tgt.place (List.getD l k default)), vI (Tgt.length (List.getD l k default)), vI (Tgt.from_ (List.getD l k default)), vI (Tgt.to (List.getD l k default)), vI (Tgt.limit (List.getD l k default))])]⟩ (sb rfl rfl rfl) rfl ?_
      refine rn rfl ?_
      refine mv rfl ?_
      refine mv rfl ?_
      refine RO (Body.call (w113 o ((k : Nat) : Int) (by omega)) rfl rfl rfl) ?_
      refine mv rfl ?_
      refine mv rfl ?_
      refine RO (Body.fadB rfl fa46_1 rfl) ?_
      refine RO (Body.loadB rfl rfl rfl ag3 sz3 rfl) ?_
      refine RO (Body.add rfl rfl (by unfold R64; omega)) ?_
      refine RO (Body.callS (l := mS start W l c) (hrec k (if begF W (List.getD l k default) (afterF start l o b (List.getD l k default)) < 0 then 0 else begF W (List.getD l k default) (afterF start l o b (List.getD l k default))) c (by omega) ha (if_rng _ _ _)) rfl rfl ⟨rfl, rfl, rfl, rfl, trivial⟩ rfl rfl) ?_
      refine RG.nil (fun _ => by kernel_rfl) ?_
      refine Ap rfl ?_
      refine NR ⟨[(0, vL eI o), (1, vI b), (2, vI br), (3, .bref 3 0), (4, .bref 4 0), (6, .bref 9 0), (53, vL eT l), (54, vI ((List.length l : Nat) : Int)), (55, vI ((k : Nat) : Int))], [(3, .box 24 [vI start, vL eI W]), (4, .box 25 [vL eT l]), (8, .box 53 [vL eI (Ch.order (R (o ++ [((k : Nat) : Int)]) (if begF W (List.getD l k default) (afterF start l o b (List.getD l k default)) < 0 then 0 else begF W (List.getD l k default) (afterF start l o b (List.getD l k default))) (br + (Tgt.bright (List.getD l k default))) c)), vI (Ch.bright (R (o ++ [((k : Nat) : Int)]) (if begF W (List.getD l k default) (afterF start l o b (List.getD l k default)) < 0 then 0 else begF W (List.getD l k default) (afterF start l o b (List.getD l k default))) (br + (Tgt.bright (List.getD l k default))) c)), vI (Ch.end_ (R (o ++ [((k : Nat) : Int)]) (if begF W (List.getD l k default) (afterF start l o b (List.getD l k default)) < 0 then 0 else begF W (List.getD l k default) (afterF start l o b (List.getD l k default))) (br + (Tgt.bright (List.getD l k default))) c))]), (9, .box 200 [.clos (.func 111) [] [.bref 3 0, .bref 4 0, .bref 8 0, .bref 9 0]])]⟩ (sb rfl rfl rfl) rfl ?_
      refine RO (Body.add rfl rfl (by unfold R64; omega)) ?_
      refine mv rfl ?_
      refine RN ?_
      refine Aq rfl ?_
      refine PK.lp ?_
      refine LP.mk ((k + 1), (R (o ++ [((k : Nat) : Int)]) (if begF W (List.getD l k default) (afterF start l o b (List.getD l k default)) < 0 then 0 else begF W (List.getD l k default) (afterF start l o b (List.getD l k default))) (br + (Tgt.bright (List.getD l k default))) c)) ?_ ?_ (sb rfl rfl rfl)
      · show (k + 1) ≤ List.length l ∧ (R (o ++ [((k : Nat) : Int)]) (if begF W (List.getD l k default) (afterF start l o b (List.getD l k default)) < 0 then 0 else begF W (List.getD l k default) (afterF start l o b (List.getD l k default))) (br + (Tgt.bright (List.getD l k default))) c) = loopC start W l R o b br (updC start l o b br c0) (k + 1)
        refine ⟨by omega, ?_⟩; rw [loopC, ← hI0.2]; first | exact (step_skip (by assumption)).symm | exact (step_some ha (by assumption)).symm | exact (step_none ha (by assumption)).symm
      · show List.length l - (k + 1) < List.length l - k
        omega
     ·
      refine At rfl ?_
      refine NR ⟨[(0, vL eI o), (1, vI b), (2, vI br), (3, .bref 3 0), (4, .bref 4 0), (6, .bref 9 0), (53, vL eT l), (54, vI ((List.length l : Nat) : Int)), (55, vI ((k : Nat) : Int))], [(3, .box 24 [vI start, vL eI W]), (4, .box 25 [vL eT l]), (8, .box 53 [vL eI (Ch.order c), vI (Ch.bright c), vI (Ch.end_ c)]), (9, .box 200 [.clos (.func 111) [] [.bref 3 0, .bref 4 0, .bref 8 0, .bref 9 0]])]⟩ (sb rfl rfl rfl) rfl ?_
      refine RO (Body.add rfl rfl (by unfold R64; omega)) ?_
      refine mv rfl ?_
      refine RN ?_
      refine Aq rfl ?_
      refine PK.lp ?_
      refine LP.mk ((k + 1), c) ?_ ?_ (sb rfl rfl rfl)
      · show (k + 1) ≤ List.length l ∧ c = loopC start W l R o b br (updC start l o b br c0) (k + 1)
        refine ⟨by omega, ?_⟩; rw [loopC, ← hI0.2]; first | exact (step_skip (by assumption)).symm | exact (step_some ha (by assumption)).symm | exact (step_none ha (by assumption)).symm
      · show List.length l - (k + 1) < List.length l - k
        omega
   ·
    refine At rfl ?_
    refine TK.exit ?_
    refine PK.exit rfl ?_
    refine Aq rfl ?_
    refine PK.nil ?_
    have hc : c = loopC start W l R o b br (updC start l o b br c0) l.length := by rw [hI0.2, show k = l.length by omega]
    subst hc
    exact leafL (val0 := .tup []) (out0 := mO start W l (loopC start W l R o b br (updC start l o b br c0) l.length)) (.inl rfl) (by kernel_rfl) rfl rfl
end Go.Lens.Tb
end
section
namespace Go.Lens.Tb
open Go.Proofs
set_option linter.unusedSectionVars false
variable [Lz]
theorem planX_bad {S : Int} {W : List Int} {l : List Tgt} (h : firstF [chkNightF S W, chkTgtsF l, whenF (decide (8 < ((List.length l : Nat) : Int))) 22] ≠ 0) : planX S W l = ⟨[], 0, 0⟩ := by
 unfold planX; exact if_pos h
theorem planX_ok {S : Int} {W : List Int} {l : List Tgt} (h : ¬ firstF [chkNightF S W, chkTgtsF l, whenF (decide (8 < ((List.length l : Nat) : Int))) 22] ≠ 0) : planX S W l = planC S W l := by
 unfold planX; exact if_neg h
theorem v111 (start : Int) (W : List Int) (l : List Tgt) (hS : 0 ≤ start ∧ start ≤ 1440 ∧ W.length ≤ 24 ∧ l.length ≤ 32) (hT : ∀ t ∈ l, VT t) : ∀ (n : Nat) (o : List Int) (b br : Int) (c : Ch), gdO l o → l.length + 1 ≤ o.length + n → (0 ≤ b ∧ b ≤ 1440) → (0 ≤ br ∧ br ≤ 1000 * o.length) → (o = [] → betC ⟨o, br, endF start l o b⟩ c = false) →
  CallOk Tryz.prog 111 [vL eI o, vI b, vI br, .bref 3 0, .bref 4 0, .bref 8 0, .bref 9 0] (lookM (mS start W l c)) (.tup []) (mO start W l (recC start W l n o b br c)) := by
 intro n
 induction n with
 | zero => intro o b br c hg hn; exact absurd (gd_len hg) (by omega)
 | succ n ih =>
  intro o b br c hg hn hb hbr h0
  refine w111 (recC start W l n) start W l o b br c hS hT hg hb hbr h0 fun i b' c hi ha hb' => ?_
  have ht := hT _ (getD_mem (l := l) (k := i) (z := default) hi)
  refine ih _ b' _ c (gd_snoc hg hi ha) ?_ hb' ?_ (fun e => by simp at e)
  ·simp only [List.length_append, List.length_cons, List.length_nil]; omega
  ·simp only [List.length_append, List.length_cons, List.length_nil]; unfold VT at ht; omega
end Go.Lens.Tb
end
section
namespace Go.Lens.Tb
open Go.Proofs
variable [Lz]
set_option linter.unusedSectionVars false
set_option maxRecDepth 100000
attribute [local irreducible] TK PK T RG EfR Body
theorem ag53 : aggT tab 53 = some true := by kernel_rfl
theorem sz53 : szT tab 53 = some 3 := by kernel_rfl
set_option maxHeartbeats 2000000 in
theorem w32 (start : Int) (W : List Int) (l : List Tgt) (hl : l.length ≤ 1000000000 ∧ W.length ≤ 1000000000) : CallOk Tryz.prog 32 [.pv (.agg [pI start, pL eI W]), vL eT l] (lookM []) (.tup [.pv (.agg [pL eI (Ch.order (planX start W l)), pI (Ch.bright (planX start W l)), pI (Ch.end_ (planX start W l))]), vI (badP start W l)]) [] := by
 haveI := tab_ok
 obtain ⟨fn, f1, f2, f3, f4, _, f6⟩ := qf32
 refine callOk_of (Y := tab) (F := fn32) f1 (f2.trans rfl) f3 f4 f6 (Nat.le_of_ble_eq_true rfl) rfl ?_
 clear f1 f2 f3 f4 f6
 show TK _ _ _ _ _ _ ⟨[(0, .pv (.agg [pI start, pL eI W])), (1, vL eT l)], []⟩
 refine At rfl ?_
 refine NR ⟨[(0, .pv (.agg [pI start, pL eI W])), (1, vL eT l)], []⟩ (sb rfl rfl rfl) rfl ?_
 refine rn rfl ?_
 refine rn rfl ?_
 refine RO (Body.runZ rfl (fun l => Frz.boxN l rfl) rfl) ?_
 refine ag rfl ?_
 refine RN ?_
 refine Ap rfl ?_
 refine NR ⟨[(2, .bref 3 0), (3, .bref 4 0), (4, .bref 5 0)], [(3, .box 24 [vI start, vL eI W]), (4, .box 25 [vL eT l]), (5, .box 53 [vL eI [], vI 0, vI 0])]⟩ (sb rfl rfl rfl) rfl ?_
 refine RO (Body.loadBA rfl rfl rfl ag24 sz24 rfl rfl) ?_
 refine RO (Body.call (w22 start W (by omega)) rfl rfl rfl) ?_
 refine RO (Body.loadB rfl rfl rfl ag25 sz25 rfl) ?_
 refine RO (Body.call (w23 l (by omega)) rfl rfl rfl) ?_
 refine RO (Body.loadB rfl rfl rfl ag25 sz25 rfl) ?_
 refine RO (Body.lenL rfl un25) ?_
 refine RO (Body.gtr rfl rfl) ?_
 refine RO (Body.call (w101 (decide (8 < ((List.length l : Nat) : Int))) 22) rfl rfl rfl) ?_
 refine RO (Body.runZ (val := .pv (.slice (List.map eI [(chkNightF start W), (chkTgtsF l), (whenF (decide (8 < ((List.length l : Nat) : Int))) 22)]))) rfl (fun l => Frz.arr l _ _ _ _ _) rfl) ?_
 refine RO (Body.call (w100 [(chkNightF start W), (chkTgtsF l), (whenF (decide (8 < ((List.length l : Nat) : Int))) 22)] (Nat.le_of_ble_eq_true rfl)) rfl rfl rfl) ?_
 refine ag rfl ?_
 refine RG.nil (fun _ => by kernel_rfl) ?_
 refine Ap rfl ?_
 refine NR ⟨[(2, .bref 3 0), (3, .bref 4 0), (4, .bref 5 0), (6, vI (firstF [(chkNightF start W), (chkTgtsF l), (whenF (decide (8 < ((List.length l : Nat) : Int))) 22)]))], [(3, .box 24 [vI start, vL eI W]), (4, .box 25 [vL eT l]), (5, .box 53 [vL eI [], vI 0, vI 0])]⟩ (sb rfl rfl rfl) rfl ?_
 refine mv rfl ?_
 refine RO (Body.neq rfl rfl) ?_
 refine RN ?_
 refine Ap rfl ?_
 refine TK.norm ⟨[(2, .bref 3 0), (3, .bref 4 0), (4, .bref 5 0), (6, vI (firstF [(chkNightF start W), (chkTgtsF l), (whenF (decide (8 < ((List.length l : Nat) : Int))) 22)])), (20, vB (decide ((firstF [(chkNightF start W), (chkTgtsF l), (whenF (decide (8 < ((List.length l : Nat) : Int))) 22)]) ≠ 0)))], [(3, .box 24 [vI start, vL eI W]), (4, .box 25 [vL eT l]), (5, .box 53 [vL eI [], vI 0, vI 0])]⟩ (sb rfl rfl rfl) ?_
 refine TK.condP rfl (fun h1 => ?_) (fun h1 => ?_)
 ·
  refine At rfl ?_
  refine NR ⟨[(4, .bref 5 0), (6, vI (firstF [(chkNightF start W), (chkTgtsF l), (whenF (decide (8 < ((List.length l : Nat) : Int))) 22)]))], [(5, .box 53 [vL eI [], vI 0, vI 0])]⟩ (sb rfl rfl rfl) rfl ?_
  refine RO (Body.runZ (val := .pv (.agg [pL eI [], pI 0, pI 0])) rfl (fun l => Frz.aggN l rfl) rfl) ?_
  refine mv rfl ?_
  refine rn rfl ?_
  refine ag rfl ?_
  refine RN ?_
  refine Ap rfl ?_
  refine TK.ret ?_
  refine PK.ret ?_
  refine leaf (val0 := .tup [.pv (.agg [pL eI [], pI 0, pI 0]), vI (firstF [(chkNightF start W), (chkTgtsF l), (whenF (decide (8 < ((List.length l : Nat) : Int))) 22)])]) (by kernel_rfl) ?_
  exact tup2 (lag (lcons (plsl (by first | rw [planX_bad h1] | rw [planX_ok h1] | rfl | exact (Decidable.not_not.1 h1).symm)) (lcons (pli (by first | rw [planX_bad h1] | rw [planX_ok h1] | rfl | exact (Decidable.not_not.1 h1).symm)) (lcons (pli (by first | rw [planX_bad h1] | rw [planX_ok h1] | rfl | exact (Decidable.not_not.1 h1).symm)) rfl)))) (li (by first | rw [planX_bad h1] | rw [planX_ok h1] | rfl | exact (Decidable.not_not.1 h1).symm))
 ·
  refine At rfl ?_
  refine TK.norm ⟨[(2, .bref 3 0), (3, .bref 4 0), (4, .bref 5 0)], [(3, .box 24 [vI start, vL eI W]), (4, .box 25 [vL eT l]), (5, .box 53 [vL eI [], vI 0, vI 0])]⟩ (sb rfl rfl rfl) ?_
  have hp := badP_parts (show badP start W l = 0 from Decidable.not_not.1 h1)
  refine TK.rg (Y := tab) mixed rfl ?_
  refine RO (Body.fadB rfl fa24_0 rfl) ?_
  refine RO (Body.loadB rfl rfl rfl ag3 sz3 rfl) ?_
  refine RO (Body.runZ (val := .pv (.agg [pL eI [], pI 0, pI start])) rfl (fun l => Frz.aggN l rfl) rfl) ?_
  refine RO (Body.runZ rfl (fun l => Frz.boxN l rfl) rfl) ?_
  refine rn rfl ?_
  refine RN ?_
  refine Ap rfl ?_
  refine NR ⟨[(2, .bref 3 0), (3, .bref 4 0), (4, .bref 5 0), (7, .bref 8 0)], [(3, .box 24 [vI start, vL eI W]), (4, .box 25 [vL eT l]), (5, .box 53 [vL eI [], vI 0, vI 0]), (8, .box 53 [vL eI [], vI 0, vI start])]⟩ (sb rfl rfl rfl) rfl ?_
  refine rn rfl ?_
  refine RN ?_
  refine Ap rfl ?_
  refine NR ⟨[(2, .bref 3 0), (3, .bref 4 0), (4, .bref 5 0), (7, .bref 8 0), (8, .bref 9 0)], [(3, .box 24 [vI start, vL eI W]), (4, .box 25 [vL eT l]), (5, .box 53 [vL eI [], vI 0, vI 0]), (8, .box 53 [vL eI [], vI 0, vI start]), (9, .box 200 [.pv (.lit .nilFunc)])]⟩ (sb rfl rfl rfl) rfl ?_
  refine rn rfl ?_
  refine rn rfl ?_
  refine RN ?_
  refine Ap rfl ?_
  refine NR ⟨[(4, .bref 5 0), (7, .bref 8 0), (8, .bref 9 0)], [(3, .box 24 [vI start, vL eI W]), (4, .box 25 [vL eT l]), (5, .box 53 [vL eI [], vI 0, vI 0]), (8, .box 53 [vL eI [], vI 0, vI start]), (9, .box 200 [.clos (.func 111) [] [.bref 3 0, .bref 4 0, .bref 8 0, .bref 9 0]])]⟩ (sb rfl rfl rfl) rfl ?_
  refine rn rfl ?_
  refine RO (Body.callS (l := mS start W l ⟨[], 0, start⟩) (CallOk.nz (ds := [.nils, vI 0, vI 0, .bref 3 0, .bref 4 0, .bref 8 0, .bref 9 0]) (v111 start W l hp.1 hp.2 (l.length + 1) [] 0 0 ⟨[], 0, start⟩ gd_nil (by simp) (by omega) (by simp) (fun _ => bet_nil start)) rfl) rfl rfl ⟨rfl, rfl, rfl, rfl, trivial⟩ rfl rfl) ?_
  refine RN ?_
  refine Ap rfl ?_
  refine NR ⟨[(4, .bref 5 0), (7, .bref 8 0)], [(5, .box 53 [vL eI [], vI 0, vI 0]), (8, .box 53 [vL eI (Ch.order (planC start W l)), vI (Ch.bright (planC start W l)), vI (Ch.end_ (planC start W l))])]⟩ (sb rfl rfl rfl) rfl ?_
  refine RO (Body.loadBA rfl rfl rfl ag53 sz53 rfl rfl) ?_
  refine rn rfl ?_
  refine ag rfl ?_
  refine RN ?_
  refine Ap rfl ?_
  refine TK.ret ?_
  refine PK.ret ?_
  refine leaf (val0 := .tup [.pv (.agg [pL eI (Ch.order (planC start W l)), pI (Ch.bright (planC start W l)), pI (Ch.end_ (planC start W l))]), vI 0]) (by kernel_rfl) ?_
  exact tup2 (lag (lcons (plsl (by first | rw [planX_bad h1] | rw [planX_ok h1] | rfl | exact (Decidable.not_not.1 h1).symm)) (lcons (pli (by first | rw [planX_bad h1] | rw [planX_ok h1] | rfl | exact (Decidable.not_not.1 h1).symm)) (lcons (pli (by first | rw [planX_bad h1] | rw [planX_ok h1] | rfl | exact (Decidable.not_not.1 h1).symm)) rfl)))) (li (by first | rw [planX_bad h1] | rw [planX_ok h1] | rfl | exact (Decidable.not_not.1 h1).symm))
set_option maxHeartbeats 2000000 in
theorem w33 (start : Int) (W : List Int) (l : List Tgt) (hp : (0 ≤ start ∧ start ≤ 1440 ∧ W.length ≤ 24 ∧ l.length ≤ 32) ∧ ∀ t ∈ l, VT t) : CallOk Tryz.prog 33 [.pv (.agg [pI start, pL eI W]), vL eT l] (lookM []) (.pv (.agg [pL eI (Ch.order (planC start W l)), pI (Ch.bright (planC start W l)), pI (Ch.end_ (planC start W l))])) [] := by
 haveI := tab_ok
 obtain ⟨fn, f1, f2, f3, f4, _, f6⟩ := qf33
 refine callOk_of (Y := tab) (F := fn33) f1 (f2.trans rfl) f3 f4 f6 (Nat.le_of_ble_eq_true rfl) rfl ?_
 clear f1 f2 f3 f4 f6
 show TK _ _ _ _ _ _ ⟨[(0, .pv (.agg [pI start, pL eI W])), (1, vL eT l)], []⟩
 refine At rfl ?_
 refine NR ⟨[(0, .pv (.agg [pI start, pL eI W])), (1, vL eT l)], []⟩ (sb rfl rfl rfl) rfl ?_
 refine rn rfl ?_
 refine RO (Body.runZ rfl (fun l => Frz.boxN l rfl) rfl) ?_
 refine RN ?_
 refine Ap rfl ?_
 refine NR ⟨[(1, vL eT l), (2, .bref 3 0), (4, .bref 5 0)], [(3, .box 26 [vI start, vL eI W]), (5, .box 56 [vL eI [], vI 0, vI 0])]⟩ (sb rfl rfl rfl) rfl ?_
 refine RO (Body.loadBA rfl rfl rfl ag26 sz26 rfl rfl) ?_
 refine mv rfl ?_
 refine RO (Body.fadB rfl fa26_0 rfl) ?_
 refine RO (Body.loadB rfl rfl rfl ag3 sz3 rfl) ?_
 refine RO (Body.runZ (val := .pv (.agg [pL eI [], pI 0, pI start])) rfl (fun l => Frz.aggN l rfl) rfl) ?_
 refine RO (Body.call (CallOk.nz (ds := [.pv (.agg [pI start, pL eI W]), vL eT l, .nils, .pv (.agg [pL eI [], pI 0, pI start])]) (v114 start W l hp.1 hp.2 (l.length + 1) [] ⟨[], 0, start⟩ gd_nil (by simp) (fun _ => bet_nil start)) rfl) rfl rfl rfl) ?_
 refine rn rfl ?_
 refine RN ?_
 refine Ap rfl ?_
 refine TK.ret ?_
 refine PK.ret ?_
 refine leaf (val0 := .pv (.agg [pL eI (Ch.order (planC start W l)), pI (Ch.bright (planC start W l)), pI (Ch.end_ (planC start W l))])) (by kernel_rfl) ?_
 exact rfl
end Go.Lens.Tb
end
section
namespace Go.Lens.Tb
open Go.Proofs
set_option linter.unusedSectionVars false
theorem upd_gd {S : Int} {l : List Tgt} {o : List Int} {b br : Int} {c : Ch} (ho : gdO l o) (hc : gdO l c.order) : gdO l (updC S l o b br c).order := by
 unfold updC
 cases betC ⟨o, br, endF S l o b⟩ c with
 | true => exact ho
 | false => exact hc
theorem rec_gd {S : Int} {W : List Int} {l : List Tgt} : ∀ (n : Nat) (o : List Int) (b br : Int) (c : Ch), gdO l o → gdO l c.order → gdO l (recC S W l n o b br c).order
 | 0, _, _, _, _, _, hc => hc
 | n + 1, o, b, br, c, ho, hc => by
  have key : ∀ k, k ≤ l.length → gdO l (loopC S W l (recC S W l n) o b br (updC S l o b br c) k).order := by
   intro k
   induction k with
   | zero => intro _; exact upd_gd ho hc
   | succ k ih =>
    intro hk
    have h1 := ih (by omega)
    simp only [loopC]
    unfold stepC
    cases ha : o.any (fun j => decide (j = (k : Int))) with
    | true => exact h1
    | false =>
     simp only [cond_false]
     split
     ·exact h1
     ·exact rec_gd n _ _ _ _ (gd_snoc ho (by omega) ha) h1
  exact key _ (Nat.le_refl _)
theorem planX_len (S : Int) (W : List Int) (l : List Tgt) : (planX S W l).order.length ≤ l.length := by
 unfold planX
 split
 ·simp
 ·exact gd_len (rec_gd _ _ _ _ _ gd_nil gd_nil)
theorem shortT_le {l : List Tgt} {k lim : Int} (h : shortT l k lim = true) : l.length ≤ 1000000000 := by
 unfold shortT at h
 cases hq : ((decide (k < (l.length : Int)) && decide ((l.length : Int) ≤ lim)) || decide (34 < (l.length : Int))) with
 | true => rw [hq] at h; cases h
 | false =>
  simp only [Bool.or_eq_false_iff, decide_eq_false_iff_not] at hq
  omega
end Go.Lens.Tb
end
section
namespace Go.Lens.Tb
open Go.Proofs
variable [Lz]
set_option linter.unusedSectionVars false
set_option maxRecDepth 100000
attribute [local irreducible] TK PK T RG EfR Body
theorem fa53_0 : fadQ tab 53 0 = some 0 := by kernel_rfl
theorem fa56_0 : fadQ tab 56 0 = some 0 := by kernel_rfl
set_option maxHeartbeats 2000000 in
theorem w4 (ha : CallOk Tryz.prog 19 [] (lookM []) (.pv (.lit (.bool true))) []) (start : Int) (W : List Int) (l : List Tgt) (hl : l.length * 64 ≤ 140737488355328) : CallOk Tryz.prog 4 [.pv (.agg [pI start, pL eI W]), vL eT l] (lookM []) (vB true) [] := by
 haveI := tab_ok
 obtain ⟨fn, f1, f2, f3, f4, _, f6⟩ := qf4
 refine callOk_of (Y := tab) (F := fn4) f1 (f2.trans rfl) f3 f4 f6 (Nat.le_of_ble_eq_true rfl) rfl ?_
 clear f1 f2 f3 f4 f6
 show TK _ _ _ _ _ _ ⟨[(0, .pv (.agg [pI start, pL eI W])), (1, vL eT l)], []⟩
 refine At rfl ?_
 refine NR ⟨[(0, .pv (.agg [pI start, pL eI W])), (1, vL eT l)], []⟩ (sb rfl rfl rfl) rfl ?_
 refine rn rfl ?_
 refine ag rfl ?_
 refine RN ?_
 refine Ap rfl ?_
 refine NR ⟨[(1, vL eT l), (2, .bref 3 0)], [(3, .box 24 [vI start, vL eI W])]⟩ (sb rfl rfl rfl) rfl ?_
 refine RO (Body.loadBA rfl rfl rfl ag24 sz24 rfl rfl) ?_
 refine mv rfl ?_
 refine RO (Body.call (w16 l (by omega)) rfl rfl rfl) ?_
 refine RO (Body.runZ rfl (fun l => Frz.boxN l rfl) rfl) ?_
 refine rn rfl ?_
 refine ag rfl ?_
 refine RG.nil (fun _ => by kernel_rfl) ?_
 refine Ap rfl ?_
 refine NR ⟨[(1, vL eT l), (2, .bref 3 0), (5, .bref 6 0), (6, vL eT l)], [(3, .box 24 [vI start, vL eI W]), (6, .box 26 [vI start, vL eI W])]⟩ (sb rfl rfl rfl) rfl ?_
 refine RO (Body.loadBA rfl rfl rfl ag26 sz26 rfl rfl) ?_
 refine RO (Body.call (w17 start W) rfl rfl rfl) ?_
 refine RO (Body.not rfl) ?_
 refine mv rfl ?_
 refine RG.cons (EfR.sym rfl (fun hc => Body.move rfl) rfl) ?_
 refine RG.cons (EfR.sym rfl (fun hc => Body.call (w18 l 5 8 (by first | omega | exact Nat.le_of_ble_eq_true rfl | (simp only [List.length_take, List.length_drop]; omega))) rfl (ds3 (ev1_gd rfl hc) rfl rfl) rfl) rfl) ?_
 refine RG.cons (EfR.sym rfl (fun hc => Body.not (ev1_gd rfl hc)) rfl) ?_
 refine RO (Body.pick rfl rfl rfl rfl (gdB rfl) (pick_or _)) ?_
 refine RN ?_
 refine Ap rfl ?_
 refine TK.norm ⟨[(1, vL eT l), (2, .bref 3 0), (5, .bref 6 0), (6, vL eT l), (21, vB (bif (!(shortN W)) then true else (!(shortT l 5 8))))], [(3, .box 24 [vI start, vL eI W]), (6, .box 26 [vI start, vL eI W])]⟩ (sb rfl rfl rfl) ?_
 refine TK.cond rfl (fun h1 => ?_) (fun h1 => ?_)
 ·
  refine At rfl ?_
  refine NR ⟨[], []⟩ (sb rfl rfl rfl) rfl ?_
  refine RO (Body.call (ha) rfl rfl rfl) ?_
  refine ag rfl ?_
  refine RN ?_
  refine Ap rfl ?_
  refine TK.ret ?_
  refine PK.ret ?_
  refine leaf (val0 := vB true) (by kernel_rfl) ?_
  exact rfl
 ·
  refine At rfl ?_
  refine TK.norm ⟨[(1, vL eT l), (2, .bref 3 0), (5, .bref 6 0), (6, vL eT l)], [(3, .box 24 [vI start, vL eI W]), (6, .box 26 [vI start, vL eI W])]⟩ (sb rfl rfl rfl) ?_
  simp only [bif_or, Bool.or_eq_false_iff, Bool.not_eq_false', decide_eq_false_iff_not] at h1
  have hW := shortN_le h1.1
  have hlx : l.length ≤ 1000000000 := shortT_le h1.2
  refine TK.rg (Y := tab) mixed rfl ?_
  refine RO (Body.loadBA rfl rfl rfl ag24 sz24 rfl rfl) ?_
  refine mv rfl ?_
  refine RO (Body.call (w32 start W l (by omega)) rfl rfl rfl) ?_
  refine rn rfl ?_
  refine rn rfl ?_
  refine rn rfl ?_
  refine RO (Body.runZ rfl (fun l => Frz.boxN l rfl) rfl) ?_
  refine rn rfl ?_
  refine ag rfl ?_
  refine RN ?_
  refine Ap rfl ?_
  refine NR ⟨[(5, .bref 6 0), (6, vL eT l), (7, .bref 8 0), (8, vI (badP start W l))], [(6, .box 26 [vI start, vL eI W]), (8, .box 53 [vL eI (Ch.order (planX start W l)), vI (Ch.bright (planX start W l)), vI (Ch.end_ (planX start W l))])]⟩ (sb rfl rfl rfl) rfl ?_
  refine RO (Body.loadBA rfl rfl rfl ag26 sz26 rfl rfl) ?_
  refine RO (Body.call (w20 start W (by first | omega | exact Nat.le_of_ble_eq_true rfl | (simp only [List.length_take, List.length_drop]; omega))) rfl rfl rfl) ?_
  refine mv rfl ?_
  refine RO (Body.call (w21 l (by first | omega | exact Nat.le_of_ble_eq_true rfl | (simp only [List.length_take, List.length_drop]; omega))) rfl rfl rfl) ?_
  refine mv rfl ?_
  refine RO (Body.lenL rfl un27) ?_
  refine RO (Body.gtr rfl rfl) ?_
  refine RO (Body.call (w28 (decide (8 < ((List.length l : Nat) : Int))) 22) rfl rfl rfl) ?_
  refine RO (Body.runZ (val := .pv (.slice (List.map eI [(chkNightF start W), (chkTgtsF l), (whenF (decide (8 < ((List.length l : Nat) : Int))) 22)]))) rfl (fun l => Frz.arr l _ _ _ _ _) rfl) ?_
  refine RO (Body.call (w25 [(chkNightF start W), (chkTgtsF l), (whenF (decide (8 < ((List.length l : Nat) : Int))) 22)] (Nat.le_of_ble_eq_true rfl)) rfl rfl rfl) ?_
  refine ag rfl ?_
  refine RN ?_
  refine Ap rfl ?_
  refine NR ⟨[(5, .bref 6 0), (6, vL eT l), (7, .bref 8 0), (8, vI (badP start W l)), (9, vI (firstF [(chkNightF start W), (chkTgtsF l), (whenF (decide (8 < ((List.length l : Nat) : Int))) 22)]))], [(6, .box 26 [vI start, vL eI W]), (8, .box 53 [vL eI (Ch.order (planX start W l)), vI (Ch.bright (planX start W l)), vI (Ch.end_ (planX start W l))])]⟩ (sb rfl rfl rfl) rfl ?_
  refine RO (Body.runZ rfl (fun l => Frz.boxN l rfl) rfl) ?_
  refine RN ?_
  refine Ap rfl ?_
  refine NR ⟨[(5, .bref 6 0), (6, vL eT l), (7, .bref 8 0), (8, vI (badP start W l)), (9, vI (firstF [(chkNightF start W), (chkTgtsF l), (whenF (decide (8 < ((List.length l : Nat) : Int))) 22)])), (10, .bref 11 0)], [(6, .box 26 [vI start, vL eI W]), (8, .box 53 [vL eI (Ch.order (planX start W l)), vI (Ch.bright (planX start W l)), vI (Ch.end_ (planX start W l))]), (11, .box 56 [vL eI [], vI 0, vI 0])]⟩ (sb rfl rfl rfl) rfl ?_
  refine mv rfl ?_
  refine RO (Body.eql rfl rfl) ?_
  refine RN ?_
  refine Ap rfl ?_
  refine TK.norm ⟨[(5, .bref 6 0), (6, vL eT l), (7, .bref 8 0), (8, vI (badP start W l)), (9, vI (firstF [(chkNightF start W), (chkTgtsF l), (whenF (decide (8 < ((List.length l : Nat) : Int))) 22)])), (10, .bref 11 0), (40, vB (decide ((firstF [(chkNightF start W), (chkTgtsF l), (whenF (decide (8 < ((List.length l : Nat) : Int))) 22)]) = 0)))], [(6, .box 26 [vI start, vL eI W]), (8, .box 53 [vL eI (Ch.order (planX start W l)), vI (Ch.bright (planX start W l)), vI (Ch.end_ (planX start W l))]), (11, .box 56 [vL eI [], vI 0, vI 0])]⟩ (sb rfl rfl rfl) ?_
  refine TK.condP rfl (fun h2 => ?_) (fun h2 => ?_)
  ·
   refine At rfl ?_
   refine TK.norm ⟨[(5, .bref 6 0), (6, vL eT l), (7, .bref 8 0), (8, vI (badP start W l)), (9, vI (firstF [(chkNightF start W), (chkTgtsF l), (whenF (decide (8 < ((List.length l : Nat) : Int))) 22)])), (10, .bref 11 0)], [(6, .box 26 [vI start, vL eI W]), (8, .box 53 [vL eI (Ch.order (planX start W l)), vI (Ch.bright (planX start W l)), vI (Ch.end_ (planX start W l))]), (11, .box 56 [vL eI [], vI 0, vI 0])]⟩ (sb rfl rfl rfl) ?_
   have hp := badP_parts (by assumption : badP start W l = 0)
   refine TK.rg (Y := tab) mixed rfl ?_
   refine RO (Body.loadBA rfl rfl rfl ag26 sz26 rfl rfl) ?_
   refine mv rfl ?_
   refine RO (Body.call (w33 start W l hp) rfl rfl rfl) ?_
   refine rn rfl ?_
   refine RN ?_
   refine Ap rfl ?_
   refine NR ⟨[(7, .bref 8 0), (8, vI (badP start W l)), (9, vI (firstF [(chkNightF start W), (chkTgtsF l), (whenF (decide (8 < ((List.length l : Nat) : Int))) 22)])), (10, .bref 11 0)], [(8, .box 53 [vL eI (Ch.order (planX start W l)), vI (Ch.bright (planX start W l)), vI (Ch.end_ (planX start W l))]), (11, .box 56 [vL eI (Ch.order (planC start W l)), vI (Ch.bright (planC start W l)), vI (Ch.end_ (planC start W l))])]⟩ (sb rfl rfl rfl) rfl ?_
   refine mv rfl ?_
   refine mv rfl ?_
   refine RO (Body.eql rfl rfl) ?_
   refine mv rfl ?_
   refine RG.cons (EfR.sym rfl (fun hc => Body.fadB rfl fa53_0 rfl) rfl) ?_
   refine RG.cons (EfR.sym rfl (fun hc => Body.loadB (ev1_gd rfl hc) rfl rfl ag22 sz22 rfl) rfl) ?_
   refine RG.cons (EfR.sym rfl (fun hc => Body.fadB rfl fa56_0 rfl) rfl) ?_
   refine RG.cons (EfR.sym rfl (fun hc => Body.loadB (ev1_gd rfl hc) rfl rfl ag22 sz22 rfl) rfl) ?_
   refine RG.cons (EfR.sym rfl (fun hc => Body.call (w29 (Ch.order (planX start W l)) (Ch.order (planC start W l)) (Nat.le_trans (planX_len _ _ _) (by omega))) rfl (ds2 (ev1_gd rfl hc) (ev1_gd rfl hc)) rfl) rfl) ?_
   refine RO (Body.pick rfl rfl rfl (gdB rfl) rfl (pick_and _)) ?_
   refine mv rfl ?_
   refine RG.cons (EfR.sym rfl (fun hc => Body.fadB rfl fa53_1 rfl) rfl) ?_
   refine RG.cons (EfR.sym rfl (fun hc => Body.loadB (ev1_gd rfl hc) rfl rfl ag3 sz3 rfl) rfl) ?_
   refine RG.cons (EfR.sym rfl (fun hc => Body.fadB rfl fa56_1 rfl) rfl) ?_
   refine RG.cons (EfR.sym rfl (fun hc => Body.loadB (ev1_gd rfl hc) rfl rfl ag3 sz3 rfl) rfl) ?_
   refine RG.cons (EfR.sym rfl (fun hc => Body.eql (ev1_gd rfl hc) (ev1_gd rfl hc)) rfl) ?_
   refine RO (Body.pick rfl rfl rfl (gdB rfl) rfl (pick_and _)) ?_
   refine mv rfl ?_
   refine RG.cons (EfR.sym rfl (fun hc => Body.fadB rfl fa53_2 rfl) rfl) ?_
   refine RG.cons (EfR.sym rfl (fun hc => Body.loadB (ev1_gd rfl hc) rfl rfl ag3 sz3 rfl) rfl) ?_
   refine RG.cons (EfR.sym rfl (fun hc => Body.fadB rfl fa56_2 rfl) rfl) ?_
   refine RG.cons (EfR.sym rfl (fun hc => Body.loadB (ev1_gd rfl hc) rfl rfl ag3 sz3 rfl) rfl) ?_
   refine RG.cons (EfR.sym rfl (fun hc => Body.eql (ev1_gd rfl hc) (ev1_gd rfl hc)) rfl) ?_
   refine RO (Body.pick rfl rfl rfl (gdB rfl) rfl (pick_and _)) ?_
   refine mv rfl ?_
   refine RG.cons (EfR.sym rfl (fun hc => Body.call (ha) rfl rfl rfl) rfl) ?_
   refine RO (Body.pick rfl rfl rfl (gdB rfl) rfl (pick_and _)) ?_
   refine ag rfl ?_
   refine RN ?_
   refine Ap rfl ?_
   refine TK.ret ?_
   refine PK.ret ?_
   refine leaf (val0 := vB (bif (bif (bif (bif (decide ((badP start W l) = (firstF [(chkNightF start W), (chkTgtsF l), (whenF (decide (8 < ((List.length l : Nat) : Int))) 22)]))) then (decide ((Ch.order (planX start W l)) = (Ch.order (planC start W l)))) else false) then (decide ((Ch.bright (planX start W l)) = (Ch.bright (planC start W l)))) else false) then (decide ((Ch.end_ (planX start W l)) = (Ch.end_ (planC start W l)))) else false) then true else false)) (by kernel_rfl) ?_
   exact lb (by first | rfl | (rw [planX_ok (by omega)]; simp [badP]) | (rw [planX_bad (by omega)]; simp [badP]))
  ·
   refine At rfl ?_
   refine NR ⟨[(7, .bref 8 0), (8, vI (badP start W l)), (9, vI (firstF [(chkNightF start W), (chkTgtsF l), (whenF (decide (8 < ((List.length l : Nat) : Int))) 22)])), (10, .bref 11 0)], [(8, .box 53 [vL eI (Ch.order (planX start W l)), vI (Ch.bright (planX start W l)), vI (Ch.end_ (planX start W l))]), (11, .box 56 [vL eI [], vI 0, vI 0])]⟩ (sb rfl rfl rfl) rfl ?_
   refine mv rfl ?_
   refine mv rfl ?_
   refine RO (Body.eql rfl rfl) ?_
   refine mv rfl ?_
   refine RG.cons (EfR.sym rfl (fun hc => Body.fadB rfl fa53_0 rfl) rfl) ?_
   refine RG.cons (EfR.sym rfl (fun hc => Body.loadB (ev1_gd rfl hc) rfl rfl ag22 sz22 rfl) rfl) ?_
   refine RG.cons (EfR.sym rfl (fun hc => Body.fadB rfl fa56_0 rfl) rfl) ?_
   refine RG.cons (EfR.sym rfl (fun hc => Body.loadB (ev1_gd rfl hc) rfl rfl ag22 sz22 rfl) rfl) ?_
   refine RG.cons (EfR.sym rfl (fun hc => Body.call (w29 (Ch.order (planX start W l)) [] (Nat.le_trans (planX_len _ _ _) (by omega))) rfl (ds2 (ev1_gd rfl hc) (ev1_gd rfl hc)) rfl) rfl) ?_
   refine RO (Body.pick rfl rfl rfl (gdB rfl) rfl (pick_and _)) ?_
   refine mv rfl ?_
   refine RG.cons (EfR.sym rfl (fun hc => Body.fadB rfl fa53_1 rfl) rfl) ?_
   refine RG.cons (EfR.sym rfl (fun hc => Body.loadB (ev1_gd rfl hc) rfl rfl ag3 sz3 rfl) rfl) ?_
   refine RG.cons (EfR.sym rfl (fun hc => Body.fadB rfl fa56_1 rfl) rfl) ?_
   refine RG.cons (EfR.sym rfl (fun hc => Body.loadB (ev1_gd rfl hc) rfl rfl ag3 sz3 rfl) rfl) ?_
   refine RG.cons (EfR.sym rfl (fun hc => Body.eql (ev1_gd rfl hc) (ev1_gd rfl hc)) rfl) ?_
   refine RO (Body.pick rfl rfl rfl (gdB rfl) rfl (pick_and _)) ?_
   refine mv rfl ?_
   refine RG.cons (EfR.sym rfl (fun hc => Body.fadB rfl fa53_2 rfl) rfl) ?_
   refine RG.cons (EfR.sym rfl (fun hc => Body.loadB (ev1_gd rfl hc) rfl rfl ag3 sz3 rfl) rfl) ?_
   refine RG.cons (EfR.sym rfl (fun hc => Body.fadB rfl fa56_2 rfl) rfl) ?_
   refine RG.cons (EfR.sym rfl (fun hc => Body.loadB (ev1_gd rfl hc) rfl rfl ag3 sz3 rfl) rfl) ?_
   refine RG.cons (EfR.sym rfl (fun hc => Body.eql (ev1_gd rfl hc) (ev1_gd rfl hc)) rfl) ?_
   refine RO (Body.pick rfl rfl rfl (gdB rfl) rfl (pick_and _)) ?_
   refine mv rfl ?_
   refine RG.cons (EfR.sym rfl (fun hc => Body.call (ha) rfl rfl rfl) rfl) ?_
   refine RO (Body.pick rfl rfl rfl (gdB rfl) rfl (pick_and _)) ?_
   refine ag rfl ?_
   refine RN ?_
   refine Ap rfl ?_
   refine TK.ret ?_
   refine PK.ret ?_
   refine leaf (val0 := vB (bif (bif (bif (bif (decide ((badP start W l) = (firstF [(chkNightF start W), (chkTgtsF l), (whenF (decide (8 < ((List.length l : Nat) : Int))) 22)]))) then (decide ((Ch.order (planX start W l)) = [])) else false) then (decide ((Ch.bright (planX start W l)) = 0)) else false) then (decide ((Ch.end_ (planX start W l)) = 0)) else false) then true else false)) (by kernel_rfl) ?_
   exact lb (by first | rfl | (rw [planX_ok (by omega)]; simp [badP]) | (rw [planX_bad (by omega)]; simp [badP]))
end Go.Lens.Tb
end
section
namespace Go.Lens.Tb
open Go.Proofs Go.Proofs.YtomghboflcafbaaGreatDoor Go.RowKit Go.ChangeShapes
set_option linter.unusedSectionVars false
set_option maxRecDepth 100000
theorem gPow : Tryz.prog.globalNamed "internal/strconv.uint64pow10" = some 3 := by kernel_rfl
theorem tPow : (Tryz.prog.globals[3]?).map (·.type) = some 434 := by kernel_rfl
theorem plainLaid : (Rows.nightPlansRow.laid.all fun x => x.2.handleName?.isNone) = true := by kernel_rfl
theorem powDatum : (Rows.laid_internal_strconv_uint64pow10 : DataW Unit) = Lib.tabData .u64 Lib.pow10Tab := by kernel_rfl
theorem pow_of {W : World} (h : laidMetH Tryz.prog Rows.nightPlansRow.laid W) : ∃ T fr, W.heap[3]? = some (.cells (Lib.pow10Tab.map fun z => Value.int .u64 z).toArray T fr) := by
  rw [MakeChecks.laidMetH_plain _ _ _ plainLaid] at h
  obtain ⟨ps, ⟨g0, t0, cs0, f0, p0, q0, _, _, _, _, ⟨g1, t1, cs1, f1, p1, q1, _, _, _, _, ⟨g2, t2, cs2, f2, p2, q2, hg, ht, hv, hd, _, _⟩, _⟩, _⟩, _, _⟩ := h
  obtain rfl := Option.some.inj (gPow.symm.trans hg)
  obtain rfl := Option.some.inj (tPow.symm.trans ht)
  have hd' : DataW.trod (fun _ => ()) Tryz.prog W 0 (fun _ => true) false f2 434 cs2.toList = some (Rows.laid_internal_strconv_uint64pow10, p2) := hd
  rw [powDatum] at hd'
  have hc := Lib.cells_of_tab Tryz.underlying434 Tryz.underlying406 (by kernel_rfl) (by kernel_rfl) hd'
  have hv' : (Tryz.prog.globalNamed "internal/strconv.uint64pow10").bind (fun g => match W.heap[g]? with | some (.cells cs _ _) => some cs | _ => none) = some cs2 := hv
  rw [gPow] at hv'
  simp only [Option.bind_some] at hv'
  split at hv'
  · rename_i cs T fr hb
    cases hv'
    refine ⟨T, fr, ?_⟩
    rw [hb, ← hc, Array.toArray_toList]
  · cases hv'
@[reducible] def lzOf (W : World) : Lz := ⟨fun b => if b = 3 then W.heap[3]? else none⟩
theorem lzOf_laid (W : World) : ∀ b o, (lzOf W).L b = some o → W.heap[b]? = some o := by
  intro b o h
  change (if b = 3 then W.heap[3]? else none) = some o at h
  split at h
  · rename_i e; subst e; exact h
  · cases h
theorem powLaid_of {W : World} (h : laidMetH Tryz.prog Rows.nightPlansRow.laid W) : @PowLaid (lzOf W) := by
  obtain ⟨T, fr, hb⟩ := pow_of h
  exact ⟨3, T, fr, gPow, hb⟩
section
variable {H : Type} {enc : TypeId × Value → H} {w : World} {base : Nat} {spare : Nat → Bool} {held : Bool}
theorem read_ints {fuel : Nat} {cs : List Value} {x : DataW H × List MemPlace} (h : DataW.trod enc Tryz.prog w base spare held fuel 22 cs = some x) :
    ∃ (l : List Int) (v : Value), cs = [v] ∧ RelPV (gh0.rd w) (.slice (l.map eI)) v ∧ ((l = [] ∧ x.1 = .nil) ∨ ∃ es rest, x.1 = .slice es rest ∧ es.length = l.length) :=
  read_slice (encE := eI) (vals := fun n => [.int .i64 n]) Tryz.underlying22 (show Tryz.prog.cellsOf 3 = 1 by kernel_rfl) (by omega)
    (fun n c y hy => by obtain ⟨m, e, _⟩ := DataW.trod_int Tryz.underlying3 hy; exact ⟨m, e⟩) (fun _ => rfl) (fun _ => rfl)
    (fun a b off hc => relCells_lits (vs := [.int .i64 a]) (by simp [isLit]) hc) h
theorem read_tgt {n : Nat} {c : List Value} {y : DataW H × List MemPlace} (h : DataW.trod enc Tryz.prog w base spare held n 46 c = some y) :
    ∃ t : Tgt, c = [.string t.name, .int .i64 t.bright, .int .i64 t.place, .int .i64 t.length, .int .i64 t.from_, .int .i64 t.to, .int .i64 t.limit] := by
  obtain ⟨xs, m, rfl, rfl, hl, hx, hf⟩ := DataW.trod_struct Tryz.underlying46 h
  have hl7 : c.length = 7 := hl.trans (by kernel_rfl)
  have hx7 : xs.length = 7 := hx
  match c, hl7, xs, hx7, hf with
  | [c0, c1, c2, c3', c4, c5, c6], _, [x0, x1, x2, x3, x4, x5, x6], _, hf =>
    have f0 := hf 0 _ rfl
    have f1 := hf 1 _ rfl
    have f2 := hf 2 _ rfl
    have f3 := hf 3 _ rfl
    have f4 := hf 4 _ rfl
    have f5 := hf 5 _ rfl
    have f6 := hf 6 _ rfl
    obtain ⟨s, e0, _⟩ := DataW.trod_string Tryz.underlying9 f0
    obtain ⟨n1, e1, _⟩ := DataW.trod_int Tryz.underlying3 f1
    obtain ⟨n2, e2, _⟩ := DataW.trod_int Tryz.underlying3 f2
    obtain ⟨n3, e3, _⟩ := DataW.trod_int Tryz.underlying3 f3
    obtain ⟨n4, e4, _⟩ := DataW.trod_int Tryz.underlying3 f4
    obtain ⟨n5, e5, _⟩ := DataW.trod_int Tryz.underlying3 f5
    obtain ⟨n6, e6, _⟩ := DataW.trod_int Tryz.underlying3 f6
    cases e0; cases e1; cases e2; cases e3; cases e4; cases e5; cases e6
    exact ⟨⟨s, n1, n2, n3, n4, n5, n6⟩, rfl⟩
theorem read_tgts {fuel : Nat} {cs : List Value} {x : DataW H × List MemPlace} (h : DataW.trod enc Tryz.prog w base spare held fuel 25 cs = some x) :
    ∃ (l : List Tgt) (v : Value), cs = [v] ∧ RelPV (gh0.rd w) (.slice (l.map eT)) v ∧ ((l = [] ∧ x.1 = .nil) ∨ ∃ es rest, x.1 = .slice es rest ∧ es.length = l.length) :=
  read_slice (encE := eT) (vals := fun t => [.string t.name, .int .i64 t.bright, .int .i64 t.place, .int .i64 t.length, .int .i64 t.from_, .int .i64 t.to, .int .i64 t.limit]) Tryz.underlying25 (show Tryz.prog.cellsOf 46 = 7 by kernel_rfl) (by omega)
    (fun n c y hy => read_tgt hy) (fun _ => rfl) (fun _ => rfl)
    (fun a b off hc => relCells_lits (vs := [.string a.name, .int .i64 a.bright, .int .i64 a.place, .int .i64 a.length, .int .i64 a.from_, .int .i64 a.to, .int .i64 a.limit]) (by simp [isLit]) hc) h
theorem read_night {n : Nat} {c : List Value} {y : DataW H × List MemPlace} (h : DataW.trod enc Tryz.prog w base spare held n 24 c = some y) :
    ∃ (start : Int) (W : List Int) (v : Value), c = [.int .i64 start, v] ∧ RelPV (gh0.rd w) (.slice (W.map eI)) v := by
  obtain ⟨xs, m, rfl, rfl, hl, hx, hf⟩ := DataW.trod_struct Tryz.underlying24 h
  have hl2 : c.length = 2 := hl.trans (by kernel_rfl)
  have hx2 : xs.length = 2 := hx
  match c, hl2, xs, hx2, hf with
  | [c0, c1], _, [x0, x1], _, hf =>
    have f0 := hf 0 _ rfl
    have f1 := hf 1 _ rfl
    obtain ⟨n0, e0, _⟩ := DataW.trod_int Tryz.underlying3 f0
    obtain ⟨l, v, e1, hr, _⟩ := read_ints f1
    cases e0; cases e1
    exact ⟨n0, l, _, rfl, hr⟩
end
end Go.Lens.Tb
end
