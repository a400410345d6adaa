/- A part of the proof that NightScriptsCardSaid holds, without conditions. -/
import Derived.Test.YtomghboflcafbaaGreatDoorH1
import Derived.Shelf.Strings.OnBuilder
import Derived.Test.YtomghboflcafbaaGreatDoorProg
import Derived.Shelf.LaysC
import Derived.Shelf.Strconv.ErrVarAll
import Derived.Lib.AtoiErrMem
set_option linter.unusedVariables false
set_option linter.unusedSimpArgs false
section
namespace Go.Lens.Tm
open Go.Lens.Tb Go.Proofs
variable [Lz]
set_option linter.unusedSectionVars false
set_option maxRecDepth 100000
attribute [local irreducible] TK PK T RG EfR Body
theorem ag115 : aggT tab 115 = some true := by kernel_rfl
theorem ag116 : aggT tab 116 = some true := by kernel_rfl
theorem by115 : ty115.info.bytes = 40 := by kernel_rfl
theorem fa115_0 : fadQ tab 115 0 = some 0 := by kernel_rfl
theorem fa115_1 : fadQ tab 115 1 = some 1 := by kernel_rfl
theorem fa115_2 : fadQ tab 115 2 = some 2 := by kernel_rfl
theorem fa116_0 : fadQ tab 116 0 = some 0 := by kernel_rfl
theorem fa116_1 : fadQ tab 116 1 = some 1 := by kernel_rfl
theorem fa116_2 : fadQ tab 116 2 = some 2 := by kernel_rfl
theorem in115 : tab.info? 115 = some ty115.info := by kernel_rfl
theorem sz115 : szT tab 115 = some 3 := by kernel_rfl
theorem sz116 : szT tab 116 = some 3 := by kernel_rfl
theorem un82 : tab.underlying 82 = some (.slice 116) := by kernel_rfl
theorem un83 : tab.underlying 83 = some (.slice 115) := by kernel_rfl
set_option maxHeartbeats 4000000 in
theorem w136 (c : Cmd) : CallOk Tryz.prog 136 [.pv (.agg [pS (bsO c.1), pS (bsO c.2.1), pI c.2.2])] (lookM []) (vI (chkC c)) [] := by
 haveI := tab_ok
 obtain ⟨fn, f1, f2, f3, f4, _, f6⟩ := qf136
 refine callOk_of (Y := tab) (F := fn136) f1 (f2.trans rfl) f3 f4 f6 (Nat.le_of_ble_eq_true rfl) rfl ?_
 clear f1 f2 f3 f4 f6
 show TK _ _ _ _ _ _ ⟨[(0, .pv (.agg [pS (bsO c.1), pS (bsO c.2.1), pI c.2.2]))], []⟩
 refine At rfl ?_
 refine NR ⟨[(0, .pv (.agg [pS (bsO c.1), pS (bsO c.2.1), pI c.2.2]))], []⟩ (sb rfl rfl rfl) rfl ?_
 refine rn rfl ?_
 refine ag rfl ?_
 refine RN ?_
 refine Ap rfl ?_
 refine NR ⟨[(1, .bref 2 0)], [(2, .box 116 [vS (bsO c.1), vS (bsO c.2.1), vI c.2.2])]⟩ (sb rfl rfl rfl) rfl ?_
 refine RO (Body.fadB rfl fa116_0 rfl) ?_
 refine RO (Body.loadB rfl rfl rfl ag9 sz9 rfl) ?_
 refine RN ?_
 refine Ap rfl ?_
 refine NR ⟨[(1, .bref 2 0), (4, vS (bsO c.1))], [(2, .box 116 [vS (bsO c.1), vS (bsO c.2.1), vI c.2.2])]⟩ (sb rfl rfl rfl) rfl ?_
 refine RO (Body.seqB (a := c.1) (b := [97, 99, 116]) rfl rfl) ?_
 refine ag rfl ?_
 refine RN ?_
 refine Ap rfl ?_
 refine TK.norm ⟨[(1, .bref 2 0), (4, vS (bsO c.1)), (5, vB (decide (c.1 = [97, 99, 116])))], [(2, .box 116 [vS (bsO c.1), vS (bsO c.2.1), vI c.2.2])]⟩ (sb rfl rfl rfl) ?_
 refine TK.condP rfl (fun h1 => ?_) (fun h1 => ?_)
 ·
  refine At rfl ?_
  refine NR ⟨[(1, .bref 2 0)], [(2, .box 116 [vS (bsO c.1), vS (bsO c.2.1), vI c.2.2])]⟩ (sb rfl rfl rfl) rfl ?_
  refine RO (Body.fadB rfl fa116_1 rfl) ?_
  refine RO (Body.loadB rfl rfl rfl ag9 sz9 rfl) ?_
  refine RO (Body.call (w104 (bsO c.2.1)) rfl rfl rfl) ?_
  refine RO (Body.fadB rfl fa116_2 rfl) ?_
  refine RO (Body.loadB rfl rfl rfl ag3 sz3 rfl) ?_
  refine RO (Body.call (w99 c.2.2 0 0) rfl rfl rfl) ?_
  refine RO (Body.runZ (val := .pv (.slice (List.map eI [(whenF (!(isNameF (bsO c.2.1))) 8), (withinF c.2.2 0 0)]))) rfl (fun l => Frz.arr l _ _ _ _ _) rfl) ?_
  refine RO (Body.call (w100 [(whenF (!(isNameF (bsO c.2.1))) 8), (withinF c.2.2 0 0)] (Nat.le_of_ble_eq_true rfl)) rfl rfl rfl) ?_
  refine ag rfl ?_
  refine RG.nil (fun _ => by kernel_rfl) ?_
  refine Ap rfl ?_
  refine TK.ret ?_
  refine PK.ret ?_
  refine leaf (val0 := vI (firstF [(whenF (!(isNameF (bsO c.2.1))) 8), (withinF c.2.2 0 0)])) (by kernel_rfl) ?_
  exact li (by (rw [chkC, if_pos h1]))
 ·
  refine At rfl ?_
  refine NR ⟨[(1, .bref 2 0), (4, vS (bsO c.1))], [(2, .box 116 [vS (bsO c.1), vS (bsO c.2.1), vI c.2.2])]⟩ (sb rfl rfl rfl) rfl ?_
  refine RO (Body.seqB (a := c.1) (b := [101, 110, 100]) rfl rfl) ?_
  refine ag rfl ?_
  refine RN ?_
  refine Ap rfl ?_
  refine TK.norm ⟨[(1, .bref 2 0), (4, vS (bsO c.1)), (15, vB (decide (c.1 = [101, 110, 100])))], [(2, .box 116 [vS (bsO c.1), vS (bsO c.2.1), vI c.2.2])]⟩ (sb rfl rfl rfl) ?_
  refine TK.condP rfl (fun h2 => ?_) (fun h2 => ?_)
  ·
   refine At rfl ?_
   refine NR ⟨[(1, .bref 2 0)], [(2, .box 116 [vS (bsO c.1), vS (bsO c.2.1), vI c.2.2])]⟩ (sb rfl rfl rfl) rfl ?_
   refine RO (Body.fadB rfl fa116_1 rfl) ?_
   refine RO (Body.loadB rfl rfl rfl ag9 sz9 rfl) ?_
   refine RO (Body.sneB (a := c.2.1) (b := []) rfl rfl) ?_
   refine RO (Body.call (w101 (decide (c.2.1 ≠ [])) 1) rfl rfl rfl) ?_
   refine RO (Body.fadB rfl fa116_2 rfl) ?_
   refine RO (Body.loadB rfl rfl rfl ag3 sz3 rfl) ?_
   refine RO (Body.call (w99 c.2.2 0 0) rfl rfl rfl) ?_
   refine RO (Body.runZ (val := .pv (.slice (List.map eI [(whenF (decide (c.2.1 ≠ [])) 1), (withinF c.2.2 0 0)]))) rfl (fun l => Frz.arr l _ _ _ _ _) rfl) ?_
   refine RO (Body.call (w100 [(whenF (decide (c.2.1 ≠ [])) 1), (withinF c.2.2 0 0)] (Nat.le_of_ble_eq_true rfl)) rfl rfl rfl) ?_
   refine ag rfl ?_
   refine RG.nil (fun _ => by kernel_rfl) ?_
   refine Ap rfl ?_
   refine TK.ret ?_
   refine PK.ret ?_
   refine leaf (val0 := vI (firstF [(whenF (decide (c.2.1 ≠ [])) 1), (withinF c.2.2 0 0)])) (by kernel_rfl) ?_
   exact li (by (rw [chkC, if_neg h1, if_pos h2]))
  ·
   refine At rfl ?_
   refine NR ⟨[(1, .bref 2 0), (4, vS (bsO c.1))], [(2, .box 116 [vS (bsO c.1), vS (bsO c.2.1), vI c.2.2])]⟩ (sb rfl rfl rfl) rfl ?_
   refine RO (Body.seqB (a := c.1) (b := [119, 97, 105, 116]) rfl rfl) ?_
   refine ag rfl ?_
   refine RN ?_
   refine Ap rfl ?_
   refine TK.norm ⟨[(1, .bref 2 0), (4, vS (bsO c.1)), (26, vB (decide (c.1 = [119, 97, 105, 116])))], [(2, .box 116 [vS (bsO c.1), vS (bsO c.2.1), vI c.2.2])]⟩ (sb rfl rfl rfl) ?_
   refine TK.condP rfl (fun h3 => ?_) (fun h3 => ?_)
   ·
    refine At rfl ?_
    refine NR ⟨[(1, .bref 2 0)], [(2, .box 116 [vS (bsO c.1), vS (bsO c.2.1), vI c.2.2])]⟩ (sb rfl rfl rfl) rfl ?_
    refine RO (Body.fadB rfl fa116_1 rfl) ?_
    refine RO (Body.loadB rfl rfl rfl ag9 sz9 rfl) ?_
    refine RO (Body.sneB (a := c.2.1) (b := []) rfl rfl) ?_
    refine RO (Body.call (w101 (decide (c.2.1 ≠ [])) 1) rfl rfl rfl) ?_
    refine RO (Body.fadB rfl fa116_2 rfl) ?_
    refine RO (Body.loadB rfl rfl rfl ag3 sz3 rfl) ?_
    refine RO (Body.call (w99 c.2.2 1 100000) rfl rfl rfl) ?_
    refine RO (Body.runZ (val := .pv (.slice (List.map eI [(whenF (decide (c.2.1 ≠ [])) 1), (withinF c.2.2 1 100000)]))) rfl (fun l => Frz.arr l _ _ _ _ _) rfl) ?_
    refine RO (Body.call (w100 [(whenF (decide (c.2.1 ≠ [])) 1), (withinF c.2.2 1 100000)] (Nat.le_of_ble_eq_true rfl)) rfl rfl rfl) ?_
    refine ag rfl ?_
    refine RG.nil (fun _ => by kernel_rfl) ?_
    refine Ap rfl ?_
    refine TK.ret ?_
    refine PK.ret ?_
    refine leaf (val0 := vI (firstF [(whenF (decide (c.2.1 ≠ [])) 1), (withinF c.2.2 1 100000)])) (by kernel_rfl) ?_
    exact li (by (rw [chkC, if_neg h1, if_neg h2, if_pos h3]))
   ·
    refine At rfl ?_
    refine NR ⟨[(1, .bref 2 0), (4, vS (bsO c.1))], [(2, .box 116 [vS (bsO c.1), vS (bsO c.2.1), vI c.2.2])]⟩ (sb rfl rfl rfl) rfl ?_
    refine RO (Body.seqB (a := c.1) (b := [114, 101, 112, 101, 97, 116]) rfl rfl) ?_
    refine ag rfl ?_
    refine RN ?_
    refine Ap rfl ?_
    refine TK.norm ⟨[(1, .bref 2 0), (37, vB (decide (c.1 = [114, 101, 112, 101, 97, 116])))], [(2, .box 116 [vS (bsO c.1), vS (bsO c.2.1), vI c.2.2])]⟩ (sb rfl rfl rfl) ?_
    refine TK.condP rfl (fun h4 => ?_) (fun h4 => ?_)
    ·
     refine At rfl ?_
     refine NR ⟨[(1, .bref 2 0)], [(2, .box 116 [vS (bsO c.1), vS (bsO c.2.1), vI c.2.2])]⟩ (sb rfl rfl rfl) rfl ?_
     refine RO (Body.fadB rfl fa116_1 rfl) ?_
     refine RO (Body.loadB rfl rfl rfl ag9 sz9 rfl) ?_
     refine RO (Body.sneB (a := c.2.1) (b := []) rfl rfl) ?_
     refine RO (Body.call (w101 (decide (c.2.1 ≠ [])) 1) rfl rfl rfl) ?_
     refine RO (Body.fadB rfl fa116_2 rfl) ?_
     refine RO (Body.loadB rfl rfl rfl ag3 sz3 rfl) ?_
     refine RO (Body.call (w99 c.2.2 1 100) rfl rfl rfl) ?_
     refine RO (Body.runZ (val := .pv (.slice (List.map eI [(whenF (decide (c.2.1 ≠ [])) 1), (withinF c.2.2 1 100)]))) rfl (fun l => Frz.arr l _ _ _ _ _) rfl) ?_
     refine RO (Body.call (w100 [(whenF (decide (c.2.1 ≠ [])) 1), (withinF c.2.2 1 100)] (Nat.le_of_ble_eq_true rfl)) rfl rfl rfl) ?_
     refine ag rfl ?_
     refine RG.nil (fun _ => by kernel_rfl) ?_
     refine Ap rfl ?_
     refine TK.ret ?_
     refine PK.ret ?_
     refine leaf (val0 := vI (firstF [(whenF (decide (c.2.1 ≠ [])) 1), (withinF c.2.2 1 100)])) (by kernel_rfl) ?_
     exact li (by (rw [chkC, if_neg h1, if_neg h2, if_neg h3, if_pos h4]))
    ·
     refine At rfl ?_
     refine NR ⟨[], []⟩ (sb rfl rfl rfl) rfl ?_
     refine ag rfl ?_
     refine RN ?_
     refine Ap rfl ?_
     refine TK.ret ?_
     refine PK.ret ?_
     refine leaf (val0 := vI 13) (by kernel_rfl) ?_
     exact li (by (rw [chkC, if_neg h1, if_neg h2, if_neg h3, if_neg h4]))
set_option maxHeartbeats 4000000 in
theorem w134 (o : List UInt8) : CallOk Tryz.prog 134 [vS (bsO o)] (lookM []) (vI (wordsF o)) [] := by
 haveI := tab_ok
 obtain ⟨fn, f1, f2, f3, f4, _, f6⟩ := qf134
 refine callOk_of (Y := tab) (F := fn134) f1 (f2.trans rfl) f3 f4 f6 (Nat.le_of_ble_eq_true rfl) rfl ?_
 clear f1 f2 f3 f4 f6
 show TK _ _ _ _ _ _ ⟨[(0, vS (bsO o))], []⟩
 refine At rfl ?_
 refine NR ⟨[(0, vS (bsO o))], []⟩ (sb rfl rfl rfl) rfl ?_
 refine ag rfl ?_
 refine RN ?_
 refine Ap rfl ?_
 refine NR ⟨[(0, vS (bsO o))], []⟩ (sb rfl rfl rfl) rfl ?_
 refine mv rfl ?_
 refine RN ?_
 refine Ap rfl ?_
 refine NR ⟨[(3, vS (bsO o))], []⟩ (sb rfl rfl rfl) rfl ?_
 refine RO (Body.seqB (a := o) (b := [97, 99, 116]) rfl rfl) ?_
 refine ag rfl ?_
 refine RN ?_
 refine Ap rfl ?_
 refine TK.norm ⟨[(3, vS (bsO o)), (4, vB (decide (o = [97, 99, 116])))], []⟩ (sb rfl rfl rfl) ?_
 refine TK.condP rfl (fun h1 => ?_) (fun h1 => ?_)
 ·
  refine At rfl ?_
  refine TK.norm ⟨[(3, vS (bsO o)), (4, vB (decide (o = [97, 99, 116])))], []⟩ (sb rfl rfl rfl) ?_
  refine TK.condP rfl (fun h2 => ?_) (fun h2 => ?_)
  ·
   refine At rfl ?_
   refine NR ⟨[], []⟩ (sb rfl rfl rfl) rfl ?_
   refine ag rfl ?_
   refine RN ?_
   refine Ap rfl ?_
   refine TK.ret ?_
   refine PK.ret ?_
   refine leaf (val0 := vI 2) (by kernel_rfl) ?_
   exact li (by (rw [wordsF, if_pos (by assumption)]))
  ·
   refine At rfl ?_
   refine NR ⟨[(3, vS (bsO o))], []⟩ (sb rfl rfl rfl) rfl ?_
   refine RO (Body.seqB (a := o) (b := [101, 110, 100]) rfl rfl) ?_
   refine ag rfl ?_
   refine RN ?_
   refine Ap rfl ?_
   refine TK.norm ⟨[(8, vB (decide (o = [101, 110, 100])))], []⟩ (sb rfl rfl rfl) ?_
   refine TK.condP rfl (fun h3 => ?_) (fun h3 => ?_)
   ·
    refine At rfl ?_
    refine NR ⟨[], []⟩ (sb rfl rfl rfl) rfl ?_
    refine ag rfl ?_
    refine RN ?_
    refine Ap rfl ?_
    refine TK.ret ?_
    refine PK.ret ?_
    refine leaf (val0 := vI 1) (by kernel_rfl) ?_
    exact li (by (exfalso; contradiction))
   ·
    refine At rfl ?_
    refine NR ⟨[], []⟩ (sb rfl rfl rfl) rfl ?_
    refine ag rfl ?_
    refine RN ?_
    refine Ap rfl ?_
    refine TK.ret ?_
    refine PK.ret ?_
    refine leaf (val0 := vI 0) (by kernel_rfl) ?_
    exact li (by (exfalso; contradiction))
 ·
  refine At rfl ?_
  refine NR ⟨[(3, vS (bsO o))], []⟩ (sb rfl rfl rfl) rfl ?_
  refine RO (Body.seqB (a := o) (b := [119, 97, 105, 116]) rfl rfl) ?_
  refine ag rfl ?_
  refine RN ?_
  refine Ap rfl ?_
  refine TK.norm ⟨[(3, vS (bsO o)), (4, vB (decide (o = [119, 97, 105, 116])))], []⟩ (sb rfl rfl rfl) ?_
  refine TK.condP rfl (fun h4 => ?_) (fun h4 => ?_)
  ·
   refine At rfl ?_
   refine TK.norm ⟨[(3, vS (bsO o)), (4, vB (decide (o = [119, 97, 105, 116])))], []⟩ (sb rfl rfl rfl) ?_
   refine TK.condP rfl (fun h5 => ?_) (fun h5 => ?_)
   ·
    refine At rfl ?_
    refine NR ⟨[], []⟩ (sb rfl rfl rfl) rfl ?_
    refine ag rfl ?_
    refine RN ?_
    refine Ap rfl ?_
    refine TK.ret ?_
    refine PK.ret ?_
    refine leaf (val0 := vI 2) (by kernel_rfl) ?_
    exact li (by (rw [wordsF, if_neg (by assumption), if_pos (by assumption)]))
   ·
    refine At rfl ?_
    refine NR ⟨[(3, vS (bsO o))], []⟩ (sb rfl rfl rfl) rfl ?_
    refine RO (Body.seqB (a := o) (b := [101, 110, 100]) rfl rfl) ?_
    refine ag rfl ?_
    refine RN ?_
    refine Ap rfl ?_
    refine TK.norm ⟨[(8, vB (decide (o = [101, 110, 100])))], []⟩ (sb rfl rfl rfl) ?_
    refine TK.condP rfl (fun h6 => ?_) (fun h6 => ?_)
    ·
     refine At rfl ?_
     refine NR ⟨[], []⟩ (sb rfl rfl rfl) rfl ?_
     refine ag rfl ?_
     refine RN ?_
     refine Ap rfl ?_
     refine TK.ret ?_
     refine PK.ret ?_
     refine leaf (val0 := vI 1) (by kernel_rfl) ?_
     exact li (by (exfalso; contradiction))
    ·
     refine At rfl ?_
     refine NR ⟨[], []⟩ (sb rfl rfl rfl) rfl ?_
     refine ag rfl ?_
     refine RN ?_
     refine Ap rfl ?_
     refine TK.ret ?_
     refine PK.ret ?_
     refine leaf (val0 := vI 0) (by kernel_rfl) ?_
     exact li (by (exfalso; contradiction))
  ·
   refine At rfl ?_
   refine NR ⟨[(3, vS (bsO o))], []⟩ (sb rfl rfl rfl) rfl ?_
   refine RO (Body.seqB (a := o) (b := [114, 101, 112, 101, 97, 116]) rfl rfl) ?_
   refine ag rfl ?_
   refine RN ?_
   refine Ap rfl ?_
   refine TK.norm ⟨[(3, vS (bsO o)), (4, vB (decide (o = [114, 101, 112, 101, 97, 116])))], []⟩ (sb rfl rfl rfl) ?_
   refine TK.condP rfl (fun h7 => ?_) (fun h7 => ?_)
   ·
    refine At rfl ?_
    refine NR ⟨[], []⟩ (sb rfl rfl rfl) rfl ?_
    refine ag rfl ?_
    refine RN ?_
    refine Ap rfl ?_
    refine TK.ret ?_
    refine PK.ret ?_
    refine leaf (val0 := vI 2) (by kernel_rfl) ?_
    exact li (by (rw [wordsF, if_neg (by assumption), if_neg (by assumption), if_pos (by assumption)]))
   ·
    refine At rfl ?_
    refine NR ⟨[(3, vS (bsO o))], []⟩ (sb rfl rfl rfl) rfl ?_
    refine RO (Body.seqB (a := o) (b := [101, 110, 100]) rfl rfl) ?_
    refine ag rfl ?_
    refine RN ?_
    refine Ap rfl ?_
    refine TK.norm ⟨[(8, vB (decide (o = [101, 110, 100])))], []⟩ (sb rfl rfl rfl) ?_
    refine TK.condP rfl (fun h8 => ?_) (fun h8 => ?_)
    ·
     refine At rfl ?_
     refine NR ⟨[], []⟩ (sb rfl rfl rfl) rfl ?_
     refine ag rfl ?_
     refine RN ?_
     refine Ap rfl ?_
     refine TK.ret ?_
     refine PK.ret ?_
     refine leaf (val0 := vI 1) (by kernel_rfl) ?_
     exact li (by (rw [wordsF, if_neg (by assumption), if_neg (by assumption), if_neg (by assumption), if_pos (by assumption)]))
    ·
     refine At rfl ?_
     refine NR ⟨[], []⟩ (sb rfl rfl rfl) rfl ?_
     refine ag rfl ?_
     refine RN ?_
     refine Ap rfl ?_
     refine TK.ret ?_
     refine PK.ret ?_
     refine leaf (val0 := vI 0) (by kernel_rfl) ?_
     exact li (by (rw [wordsF, if_neg (by assumption), if_neg (by assumption), if_neg (by assumption), if_neg (by assumption)]))
set_option maxHeartbeats 4000000 in
theorem w130 (c : Cmd) : CallOk Tryz.prog 130 [.pv (.agg [pS (bsO c.1), pS (bsO c.2.1), pI c.2.2])] (lookM []) (vI (chkC c)) [] := by
 haveI := tab_ok
 obtain ⟨fn, f1, f2, f3, f4, _, f6⟩ := qf130
 refine callOk_of (Y := tab) (F := fn130) f1 (f2.trans rfl) f3 f4 f6 (Nat.le_of_ble_eq_true rfl) rfl ?_
 clear f1 f2 f3 f4 f6
 show TK _ _ _ _ _ _ ⟨[(0, .pv (.agg [pS (bsO c.1), pS (bsO c.2.1), pI c.2.2]))], []⟩
 refine At rfl ?_
 refine NR ⟨[(0, .pv (.agg [pS (bsO c.1), pS (bsO c.2.1), pI c.2.2]))], []⟩ (sb rfl rfl rfl) rfl ?_
 refine rn rfl ?_
 refine ag rfl ?_
 refine RN ?_
 refine Ap rfl ?_
 refine NR ⟨[(1, .bref 2 0)], [(2, .box 115 [vS (bsO c.1), vS (bsO c.2.1), vI c.2.2])]⟩ (sb rfl rfl rfl) rfl ?_
 refine RO (Body.fadB rfl fa115_0 rfl) ?_
 refine RO (Body.loadB rfl rfl rfl ag9 sz9 rfl) ?_
 refine RO (Body.call (w134 c.1) rfl rfl rfl) ?_
 refine RO (Body.eql rfl rfl) ?_
 refine RN ?_
 refine Ap rfl ?_
 refine TK.norm ⟨[(1, .bref 2 0), (8, vB (decide ((wordsF c.1) = 0)))], [(2, .box 115 [vS (bsO c.1), vS (bsO c.2.1), vI c.2.2])]⟩ (sb rfl rfl rfl) ?_
 refine TK.condP rfl (fun h1 => ?_) (fun h1 => ?_)
 ·
  refine At rfl ?_
  refine NR ⟨[], []⟩ (sb rfl rfl rfl) rfl ?_
  refine ag rfl ?_
  refine RN ?_
  refine Ap rfl ?_
  refine TK.ret ?_
  refine PK.ret ?_
  refine leaf (val0 := vI 13) (by kernel_rfl) ?_
  exact li (by (exact (chk_kind h1).symm))
 ·
  refine At rfl ?_
  refine NR ⟨[(1, .bref 2 0)], [(2, .box 115 [vS (bsO c.1), vS (bsO c.2.1), vI c.2.2])]⟩ (sb rfl rfl rfl) rfl ?_
  refine RO (Body.fadB rfl fa115_0 rfl) ?_
  refine RO (Body.loadB rfl rfl rfl ag9 sz9 rfl) ?_
  refine RO (Body.seqB (a := c.1) (b := [97, 99, 116]) rfl rfl) ?_
  refine mv rfl ?_
  refine RG.cons (EfR.sym rfl (fun hc => Body.fadB rfl fa115_1 rfl) rfl) ?_
  refine RG.cons (EfR.sym rfl (fun hc => Body.loadB (ev1_gd rfl hc) rfl rfl ag9 sz9 rfl) rfl) ?_
  refine RG.cons (EfR.sym rfl (fun hc => Body.call (w94 (bsO c.2.1)) rfl (ds1 (ev1_gd rfl hc)) rfl) rfl) ?_
  refine RG.cons (EfR.sym rfl (fun hc => Body.not (ev1_gd rfl hc)) rfl) ?_
  refine RO (Body.pick rfl rfl rfl (gdB rfl) rfl (pick_and _)) ?_
  refine RN ?_
  refine Ap rfl ?_
  refine TK.norm ⟨[(1, .bref 2 0), (17, vB (bif (decide (c.1 = [97, 99, 116])) then (!(isNameF (bsO c.2.1))) else false))], [(2, .box 115 [vS (bsO c.1), vS (bsO c.2.1), vI c.2.2])]⟩ (sb rfl rfl rfl) ?_
  refine TK.cond rfl (fun h2 => ?_) (fun h2 => ?_)
  ·
   refine At rfl ?_
   refine NR ⟨[], []⟩ (sb rfl rfl rfl) rfl ?_
   refine ag rfl ?_
   refine RN ?_
   refine Ap rfl ?_
   refine TK.ret ?_
   refine PK.ret ?_
   refine leaf (val0 := vI 8) (by kernel_rfl) ?_
   exact li (by (exact (chk_name h2).symm))
  ·
   refine At rfl ?_
   refine NR ⟨[(1, .bref 2 0)], [(2, .box 115 [vS (bsO c.1), vS (bsO c.2.1), vI c.2.2])]⟩ (sb rfl rfl rfl) rfl ?_
   refine RO (Body.fadB rfl fa115_0 rfl) ?_
   refine RO (Body.loadB rfl rfl rfl ag9 sz9 rfl) ?_
   refine RO (Body.sneB (a := c.1) (b := [97, 99, 116]) rfl rfl) ?_
   refine mv rfl ?_
   refine RG.cons (EfR.sym rfl (fun hc => Body.fadB rfl fa115_1 rfl) rfl) ?_
   refine RG.cons (EfR.sym rfl (fun hc => Body.loadB (ev1_gd rfl hc) rfl rfl ag9 sz9 rfl) rfl) ?_
   refine RG.cons (EfR.sym rfl (fun hc => Body.sneB (a := c.2.1) (b := []) (ev1_gd rfl hc) rfl) rfl) ?_
   refine RO (Body.pick rfl rfl rfl (gdB rfl) rfl (pick_and _)) ?_
   refine RN ?_
   refine Ap rfl ?_
   refine TK.norm ⟨[(1, .bref 2 0), (25, vB (bif (decide (c.1 ≠ [97, 99, 116])) then (decide (c.2.1 ≠ [])) else false))], [(2, .box 115 [vS (bsO c.1), vS (bsO c.2.1), vI c.2.2])]⟩ (sb rfl rfl rfl) ?_
   refine TK.cond rfl (fun h3 => ?_) (fun h3 => ?_)
   ·
    refine At rfl ?_
    refine NR ⟨[], []⟩ (sb rfl rfl rfl) rfl ?_
    refine ag rfl ?_
    refine RN ?_
    refine Ap rfl ?_
    refine TK.ret ?_
    refine PK.ret ?_
    refine leaf (val0 := vI 1) (by kernel_rfl) ?_
    exact li (by (exact (chk_form h1 h3).symm))
   ·
    refine At rfl ?_
    refine NR ⟨[(1, .bref 2 0)], [(2, .box 115 [vS (bsO c.1), vS (bsO c.2.1), vI c.2.2])]⟩ (sb rfl rfl rfl) rfl ?_
    refine ag rfl ?_
    refine ag rfl ?_
    refine RN ?_
    refine Ap rfl ?_
    refine NR ⟨[(1, .bref 2 0), (3, vI 0), (4, vI 0)], [(2, .box 115 [vS (bsO c.1), vS (bsO c.2.1), vI c.2.2])]⟩ (sb rfl rfl rfl) rfl ?_
    refine RO (Body.fadB rfl fa115_0 rfl) ?_
    refine RO (Body.loadB rfl rfl rfl ag9 sz9 rfl) ?_
    refine RO (Body.seqB (a := c.1) (b := [119, 97, 105, 116]) rfl rfl) ?_
    refine RN ?_
    refine Ap rfl ?_
    refine TK.norm ⟨[(1, .bref 2 0), (3, vI 0), (4, vI 0), (28, vB (decide (c.1 = [119, 97, 105, 116])))], [(2, .box 115 [vS (bsO c.1), vS (bsO c.2.1), vI c.2.2])]⟩ (sb rfl rfl rfl) ?_
    refine TK.condP rfl (fun h4 => ?_) (fun h4 => ?_)
    ·
     refine At rfl ?_
     refine NR ⟨[(1, .bref 2 0)], [(2, .box 115 [vS (bsO c.1), vS (bsO c.2.1), vI c.2.2])]⟩ (sb rfl rfl rfl) rfl ?_
     refine ag rfl ?_
     refine ag rfl ?_
     refine RN ?_
     refine Ap rfl ?_
     refine NR ⟨[(1, .bref 2 0), (3, vI 1), (4, vI 100000)], [(2, .box 115 [vS (bsO c.1), vS (bsO c.2.1), vI c.2.2])]⟩ (sb rfl rfl rfl) rfl ?_
     refine RO (Body.fadB rfl fa115_0 rfl) ?_
     refine RO (Body.loadB rfl rfl rfl ag9 sz9 rfl) ?_
     refine RO (Body.seqB (a := c.1) (b := [114, 101, 112, 101, 97, 116]) rfl rfl) ?_
     refine RN ?_
     refine Ap rfl ?_
     refine TK.norm ⟨[(1, .bref 2 0), (3, vI 1), (4, vI 100000), (31, vB (decide (c.1 = [114, 101, 112, 101, 97, 116])))], [(2, .box 115 [vS (bsO c.1), vS (bsO c.2.1), vI c.2.2])]⟩ (sb rfl rfl rfl) ?_
     refine TK.condP rfl (fun h5 => ?_) (fun h5 => ?_)
     ·
      refine At rfl ?_
      refine NR ⟨[(1, .bref 2 0)], [(2, .box 115 [vS (bsO c.1), vS (bsO c.2.1), vI c.2.2])]⟩ (sb rfl rfl rfl) rfl ?_
      refine ag rfl ?_
      refine ag rfl ?_
      refine RN ?_
      refine Ap rfl ?_
      refine NR ⟨[(1, .bref 2 0), (3, vI 1), (4, vI 100)], [(2, .box 115 [vS (bsO c.1), vS (bsO c.2.1), vI c.2.2])]⟩ (sb rfl rfl rfl) rfl ?_
      refine RO (Body.fadB rfl fa115_2 rfl) ?_
      refine RO (Body.loadB rfl rfl rfl ag3 sz3 rfl) ?_
      refine mv rfl ?_
      refine mv rfl ?_
      refine RO (Body.call (w93 c.2.2 1 100) rfl rfl rfl) ?_
      refine RN ?_
      refine Ap rfl ?_
      refine TK.norm ⟨[(36, vB (outF c.2.2 1 100))], []⟩ (sb rfl rfl rfl) ?_
      refine TK.cond rfl (fun h6 => ?_) (fun h6 => ?_)
      ·
       refine At rfl ?_
       refine NR ⟨[], []⟩ (sb rfl rfl rfl) rfl ?_
       refine ag rfl ?_
       refine RN ?_
       refine Ap rfl ?_
       refine TK.ret ?_
       refine PK.ret ?_
       refine leaf (val0 := vI 3) (by kernel_rfl) ?_
       exact li (by exact absurd (h4.symm.trans (by assumption)) (show ¬ kWait = kRep by decide))
      ·
       refine At rfl ?_
       refine NR ⟨[], []⟩ (sb rfl rfl rfl) rfl ?_
       refine ag rfl ?_
       refine RN ?_
       refine Ap rfl ?_
       refine TK.ret ?_
       refine PK.ret ?_
       refine leaf (val0 := vI 0) (by kernel_rfl) ?_
       exact li (by exact absurd (h4.symm.trans (by assumption)) (show ¬ kWait = kRep by decide))
     ·
      refine At rfl ?_
      refine NR ⟨[(1, .bref 2 0), (3, vI 1), (4, vI 100000)], [(2, .box 115 [vS (bsO c.1), vS (bsO c.2.1), vI c.2.2])]⟩ (sb rfl rfl rfl) rfl ?_
      refine RO (Body.fadB rfl fa115_2 rfl) ?_
      refine RO (Body.loadB rfl rfl rfl ag3 sz3 rfl) ?_
      refine mv rfl ?_
      refine mv rfl ?_
      refine RO (Body.call (w93 c.2.2 1 100000) rfl rfl rfl) ?_
      refine RN ?_
      refine Ap rfl ?_
      refine TK.norm ⟨[(36, vB (outF c.2.2 1 100000))], []⟩ (sb rfl rfl rfl) ?_
      refine TK.cond rfl (fun h7 => ?_) (fun h7 => ?_)
      ·
       refine At rfl ?_
       refine NR ⟨[], []⟩ (sb rfl rfl rfl) rfl ?_
       refine ag rfl ?_
       refine RN ?_
       refine Ap rfl ?_
       refine TK.ret ?_
       refine PK.ret ?_
       refine leaf (val0 := vI 3) (by kernel_rfl) ?_
       exact li (by (rw [chk_rest h1 h2 h3, if_pos (by assumption)]; exact (with_out (by assumption)).symm))
      ·
       refine At rfl ?_
       refine NR ⟨[], []⟩ (sb rfl rfl rfl) rfl ?_
       refine ag rfl ?_
       refine RN ?_
       refine Ap rfl ?_
       refine TK.ret ?_
       refine PK.ret ?_
       refine leaf (val0 := vI 0) (by kernel_rfl) ?_
       exact li (by (rw [chk_rest h1 h2 h3, if_pos (by assumption)]; exact (with_in (by assumption)).symm))
    ·
     refine At rfl ?_
     refine NR ⟨[(1, .bref 2 0), (3, vI 0), (4, vI 0)], [(2, .box 115 [vS (bsO c.1), vS (bsO c.2.1), vI c.2.2])]⟩ (sb rfl rfl rfl) rfl ?_
     refine RO (Body.fadB rfl fa115_0 rfl) ?_
     refine RO (Body.loadB rfl rfl rfl ag9 sz9 rfl) ?_
     refine RO (Body.seqB (a := c.1) (b := [114, 101, 112, 101, 97, 116]) rfl rfl) ?_
     refine RN ?_
     refine Ap rfl ?_
     refine TK.norm ⟨[(1, .bref 2 0), (3, vI 0), (4, vI 0), (31, vB (decide (c.1 = [114, 101, 112, 101, 97, 116])))], [(2, .box 115 [vS (bsO c.1), vS (bsO c.2.1), vI c.2.2])]⟩ (sb rfl rfl rfl) ?_
     refine TK.condP rfl (fun h8 => ?_) (fun h8 => ?_)
     ·
      refine At rfl ?_
      refine NR ⟨[(1, .bref 2 0)], [(2, .box 115 [vS (bsO c.1), vS (bsO c.2.1), vI c.2.2])]⟩ (sb rfl rfl rfl) rfl ?_
      refine ag rfl ?_
      refine ag rfl ?_
      refine RN ?_
      refine Ap rfl ?_
      refine NR ⟨[(1, .bref 2 0), (3, vI 1), (4, vI 100)], [(2, .box 115 [vS (bsO c.1), vS (bsO c.2.1), vI c.2.2])]⟩ (sb rfl rfl rfl) rfl ?_
      refine RO (Body.fadB rfl fa115_2 rfl) ?_
      refine RO (Body.loadB rfl rfl rfl ag3 sz3 rfl) ?_
      refine mv rfl ?_
      refine mv rfl ?_
      refine RO (Body.call (w93 c.2.2 1 100) rfl rfl rfl) ?_
      refine RN ?_
      refine Ap rfl ?_
      refine TK.norm ⟨[(36, vB (outF c.2.2 1 100))], []⟩ (sb rfl rfl rfl) ?_
      refine TK.cond rfl (fun h9 => ?_) (fun h9 => ?_)
      ·
       refine At rfl ?_
       refine NR ⟨[], []⟩ (sb rfl rfl rfl) rfl ?_
       refine ag rfl ?_
       refine RN ?_
       refine Ap rfl ?_
       refine TK.ret ?_
       refine PK.ret ?_
       refine leaf (val0 := vI 3) (by kernel_rfl) ?_
       exact li (by (rw [chk_rest h1 h2 h3, if_neg (by assumption), if_pos (by assumption)]; exact (with_out (by assumption)).symm))
      ·
       refine At rfl ?_
       refine NR ⟨[], []⟩ (sb rfl rfl rfl) rfl ?_
       refine ag rfl ?_
       refine RN ?_
       refine Ap rfl ?_
       refine TK.ret ?_
       refine PK.ret ?_
       refine leaf (val0 := vI 0) (by kernel_rfl) ?_
       exact li (by (rw [chk_rest h1 h2 h3, if_neg (by assumption), if_pos (by assumption)]; exact (with_in (by assumption)).symm))
     ·
      refine At rfl ?_
      refine NR ⟨[(1, .bref 2 0), (3, vI 0), (4, vI 0)], [(2, .box 115 [vS (bsO c.1), vS (bsO c.2.1), vI c.2.2])]⟩ (sb rfl rfl rfl) rfl ?_
      refine RO (Body.fadB rfl fa115_2 rfl) ?_
      refine RO (Body.loadB rfl rfl rfl ag3 sz3 rfl) ?_
      refine mv rfl ?_
      refine mv rfl ?_
      refine RO (Body.call (w93 c.2.2 0 0) rfl rfl rfl) ?_
      refine RN ?_
      refine Ap rfl ?_
      refine TK.norm ⟨[(36, vB (outF c.2.2 0 0))], []⟩ (sb rfl rfl rfl) ?_
      refine TK.cond rfl (fun h10 => ?_) (fun h10 => ?_)
      ·
       refine At rfl ?_
       refine NR ⟨[], []⟩ (sb rfl rfl rfl) rfl ?_
       refine ag rfl ?_
       refine RN ?_
       refine Ap rfl ?_
       refine TK.ret ?_
       refine PK.ret ?_
       refine leaf (val0 := vI 3) (by kernel_rfl) ?_
       exact li (by (rw [chk_rest h1 h2 h3, if_neg (by assumption), if_neg (by assumption)]; exact (with_out (by assumption)).symm))
      ·
       refine At rfl ?_
       refine NR ⟨[], []⟩ (sb rfl rfl rfl) rfl ?_
       refine ag rfl ?_
       refine RN ?_
       refine Ap rfl ?_
       refine TK.ret ?_
       refine PK.ret ?_
       refine leaf (val0 := vI 0) (by kernel_rfl) ?_
       exact li (by (rw [chk_rest h1 h2 h3, if_neg (by assumption), if_neg (by assumption)]; exact (with_in (by assumption)).symm))
set_option maxHeartbeats 4000000 in
theorem w138 (l : List Cmd) (i : Nat) (hi : i ≤ l.length) (hl : l.length ≤ 1000000000000) : CallOk Tryz.prog 138 [vL eC l, vI i] (lookM []) (vI ((matGo 0 i (List.drop i l) : Nat) : Int)) [] := by
 haveI := tab_ok
 obtain ⟨fn, f1, f2, f3, f4, _, f6⟩ := qf138
 refine callOk_of (Y := tab) (F := fn138) f1 (f2.trans rfl) f3 f4 f6 (Nat.le_of_ble_eq_true rfl) rfl ?_
 clear f1 f2 f3 f4 f6
 show TK _ _ _ _ _ _ ⟨[(0, vL eC l), (1, vI i)], []⟩
 refine At rfl ?_
 refine NR ⟨[(0, vL eC l), (1, vI i)], []⟩ (sb rfl rfl rfl) rfl ?_
 refine ag rfl ?_
 refine RN ?_
 refine Ap rfl ?_
 refine NR ⟨[(0, vL eC l), (1, vI i)], []⟩ (sb rfl rfl rfl) rfl ?_
 refine ag rfl ?_
 refine RN ?_
 refine Ap rfl ?_
 refine NR ⟨[(0, vL eC l), (1, vI i), (5, vI 0)], []⟩ (sb rfl rfl rfl) rfl ?_
 refine mv rfl ?_
 refine ag rfl ?_
 refine RN ?_
 refine Ap rfl ?_
 refine TK.loop (α := Nat × Int) (fun x => ⟨[(0, vL eC l), (5, vI x.2), (6, vI ((x.1 : Nat) : Int))], []⟩) (fun x => x.1 ≤ l.length ∧ matGo 0 i (List.drop i l) = matGo x.2 x.1 (List.drop x.1 l) ∧ -((x.1 : Nat) : Int) ≤ x.2 ∧ x.2 ≤ ((x.1 : Nat) : Int)) (fun x => l.length - x.1) (i, 0) ?_ (sb rfl rfl rfl) ?_
 · show i ≤ l.length ∧ matGo 0 i (List.drop i l) = matGo 0 i (List.drop i l) ∧ -(i : Int) ≤ 0 ∧ 0 ≤ (i : Int)
   exact ⟨hi, rfl, by omega, by omega⟩
 rintro ⟨k, d⟩ hI0
 replace hI0 : k ≤ l.length ∧ matGo 0 i (List.drop i l) = matGo d k (List.drop k l) ∧ -(k : Int) ≤ d ∧ d ≤ (k : Int) := hI0
 show TK _ _ _ _ _ _ ⟨[(0, vL eC l), (5, vI d), (6, vI k)], []⟩
 refine At rfl ?_
 refine NR ⟨[(0, vL eC l), (5, vI d), (6, vI k)], []⟩ (sb rfl rfl rfl) rfl ?_
 refine mv rfl ?_
 refine mv rfl ?_
 refine RO (Body.lenL rfl un83) ?_
 refine RO (Body.lss rfl rfl) ?_
 refine RN ?_
 refine Ap rfl ?_
 refine TK.norm ⟨[(0, vL eC l), (5, vI d), (6, vI k), (11, vB (decide ((k : Int) < (l.length : Int))))], []⟩ (sb rfl rfl rfl) ?_
 refine TK.condP rfl (fun h1 => ?_) (fun h1 => ?_)
 ·
  refine At rfl ?_
  refine NR ⟨[(0, vL eC l), (5, vI d), (6, vI k)], []⟩ (sb rfl rfl rfl) rfl ?_
  refine mv rfl ?_
  refine mv rfl ?_
  refine RO (Body.idx (z := z3) (i := k) rfl rfl un83 sz115 (fun _ => rfl) rfl (by omega)) ?_
  refine RO (Body.fadP rfl fa115_0 rfl) ?_
  refine RO (Body.loadP rfl ag9 sz9) ?_
  refine RO (Body.seqB (a := (List.getD l k z3).1) (b := [114, 101, 112, 101, 97, 116]) rfl rfl) ?_
  refine RN ?_
  refine Ap rfl ?_
  refine TK.norm ⟨[(0, vL eC l), (5, vI d), (6, vI k), (19, vB (decide ((List.getD l k z3).1 = [114, 101, 112, 101, 97, 116])))], []⟩ (sb rfl rfl rfl) ?_
  refine TK.condP rfl (fun h2 => ?_) (fun h2 => ?_)
  ·
   refine At rfl ?_
   refine NR ⟨[(0, vL eC l), (5, vI d), (6, vI k)], []⟩ (sb rfl rfl rfl) rfl ?_
   refine mv rfl ?_
   refine RO (Body.add rfl rfl (by unfold R64; omega)) ?_
   refine ag rfl ?_
   refine RN ?_
   refine Ap rfl ?_
   refine NR ⟨[(0, vL eC l), (5, vI (d + 1)), (6, vI k)], []⟩ (sb rfl rfl rfl) rfl ?_
   refine mv rfl ?_
   refine mv rfl ?_
   refine RO (Body.idx (z := z3) (i := k) rfl rfl un83 sz115 (fun _ => rfl) rfl (by omega)) ?_
   refine RO (Body.fadP rfl fa115_0 rfl) ?_
   refine RO (Body.loadP rfl ag9 sz9) ?_
   refine RO (Body.seqB (a := (List.getD l k z3).1) (b := [101, 110, 100]) rfl rfl) ?_
   refine RN ?_
   refine Ap rfl ?_
   refine TK.norm ⟨[(0, vL eC l), (5, vI (d + 1)), (6, vI k), (27, vB (decide ((List.getD l k z3).1 = [101, 110, 100])))], []⟩ (sb rfl rfl rfl) ?_
   refine TK.condP rfl (fun h3 => ?_) (fun h3 => ?_)
   ·
    refine At rfl ?_
    refine NR ⟨[(0, vL eC l), (5, vI (d + 1)), (6, vI k)], []⟩ (sb rfl rfl rfl) rfl ?_
    refine mv rfl ?_
    refine RO (Body.sub rfl rfl (by unfold R64; omega)) ?_
    refine ag rfl ?_
    refine RN ?_
    refine Ap rfl ?_
    refine NR ⟨[(0, vL eC l), (5, vI ((d + 1) - 1)), (6, vI k)], []⟩ (sb rfl rfl rfl) rfl ?_
    refine mv rfl ?_
    refine RO (Body.eql rfl rfl) ?_
    refine RN ?_
    refine Ap rfl ?_
    refine TK.norm ⟨[(0, vL eC l), (5, vI ((d + 1) - 1)), (6, vI k), (31, vB (decide (((d + 1) - 1) = 0)))], []⟩ (sb rfl rfl rfl) ?_
    refine TK.condP rfl (fun h4 => ?_) (fun h4 => ?_)
    ·
     refine At rfl ?_
     refine NR ⟨[(6, vI k)], []⟩ (sb rfl rfl rfl) rfl ?_
     refine mv rfl ?_
     refine ag rfl ?_
     refine RN ?_
     refine Ap rfl ?_
     refine TK.ret ?_
     refine PK.ret ?_
     refine leaf (val0 := vI k) (by kernel_rfl) ?_
     exact li (by exact absurd (Eq.trans (Eq.symm h2) h3) rep_end)
    ·
     refine At rfl ?_
     refine NR ⟨[(0, vL eC l), (5, vI ((d + 1) - 1)), (6, vI k)], []⟩ (sb rfl rfl rfl) rfl ?_
     refine mv rfl ?_
     refine RO (Body.add rfl rfl (by unfold R64; omega)) ?_
     refine ag rfl ?_
     refine RN ?_
     refine Aq rfl ?_
     refine PK.lp ?_
     refine LP.mk ((k + 1), ((d + 1) - 1)) ?_ ?_ (sb rfl rfl rfl)
     · show (k + 1) ≤ l.length ∧ matGo 0 i (List.drop i l) = matGo ((d + 1) - 1) (k + 1) (List.drop (k + 1) l) ∧ -(((k + 1) : Nat) : Int) ≤ ((d + 1) - 1) ∧ ((d + 1) - 1) ≤ (((k + 1) : Nat) : Int)
       refine ⟨by omega, hI0.2.1.trans ?_, by omega, by omega⟩; exact absurd (Eq.trans (Eq.symm h2) h3) rep_end
     · show l.length - (k + 1) < l.length - k
       omega
   ·
    refine At rfl ?_
    refine NR ⟨[(0, vL eC l), (5, vI (d + 1)), (6, vI k)], []⟩ (sb rfl rfl rfl) rfl ?_
    refine mv rfl ?_
    refine RO (Body.add rfl rfl (by unfold R64; omega)) ?_
    refine ag rfl ?_
    refine RN ?_
    refine Aq rfl ?_
    refine PK.lp ?_
    refine LP.mk ((k + 1), (d + 1)) ?_ ?_ (sb rfl rfl rfl)
    · show (k + 1) ≤ l.length ∧ matGo 0 i (List.drop i l) = matGo (d + 1) (k + 1) (List.drop (k + 1) l) ∧ -(((k + 1) : Nat) : Int) ≤ (d + 1) ∧ (d + 1) ≤ (((k + 1) : Nat) : Int)
      refine ⟨by omega, hI0.2.1.trans ?_, by omega, by omega⟩; exact mat_rep (by omega) h2
    · show l.length - (k + 1) < l.length - k
      omega
  ·
   refine At rfl ?_
   refine NR ⟨[(0, vL eC l), (5, vI d), (6, vI k)], []⟩ (sb rfl rfl rfl) rfl ?_
   refine mv rfl ?_
   refine mv rfl ?_
   refine RO (Body.idx (z := z3) (i := k) rfl rfl un83 sz115 (fun _ => rfl) rfl (by omega)) ?_
   refine RO (Body.fadP rfl fa115_0 rfl) ?_
   refine RO (Body.loadP rfl ag9 sz9) ?_
   refine RO (Body.seqB (a := (List.getD l k z3).1) (b := [101, 110, 100]) rfl rfl) ?_
   refine RN ?_
   refine Ap rfl ?_
   refine TK.norm ⟨[(0, vL eC l), (5, vI d), (6, vI k), (27, vB (decide ((List.getD l k z3).1 = [101, 110, 100])))], []⟩ (sb rfl rfl rfl) ?_
   refine TK.condP rfl (fun h5 => ?_) (fun h5 => ?_)
   ·
    refine At rfl ?_
    refine NR ⟨[(0, vL eC l), (5, vI d), (6, vI k)], []⟩ (sb rfl rfl rfl) rfl ?_
    refine mv rfl ?_
    refine RO (Body.sub rfl rfl (by unfold R64; omega)) ?_
    refine ag rfl ?_
    refine RN ?_
    refine Ap rfl ?_
    refine NR ⟨[(0, vL eC l), (5, vI (d - 1)), (6, vI k)], []⟩ (sb rfl rfl rfl) rfl ?_
    refine mv rfl ?_
    refine RO (Body.eql rfl rfl) ?_
    refine RN ?_
    refine Ap rfl ?_
    refine TK.norm ⟨[(0, vL eC l), (5, vI (d - 1)), (6, vI k), (31, vB (decide ((d - 1) = 0)))], []⟩ (sb rfl rfl rfl) ?_
    refine TK.condP rfl (fun h6 => ?_) (fun h6 => ?_)
    ·
     refine At rfl ?_
     refine NR ⟨[(6, vI k)], []⟩ (sb rfl rfl rfl) rfl ?_
     refine mv rfl ?_
     refine ag rfl ?_
     refine RN ?_
     refine Ap rfl ?_
     refine TK.ret ?_
     refine PK.ret ?_
     refine leaf (val0 := vI k) (by kernel_rfl) ?_
     exact li (by (rw [hI0.2.1, mat_end (by omega) h5, if_pos h6]))
    ·
     refine At rfl ?_
     refine NR ⟨[(0, vL eC l), (5, vI (d - 1)), (6, vI k)], []⟩ (sb rfl rfl rfl) rfl ?_
     refine mv rfl ?_
     refine RO (Body.add rfl rfl (by unfold R64; omega)) ?_
     refine ag rfl ?_
     refine RN ?_
     refine Aq rfl ?_
     refine PK.lp ?_
     refine LP.mk ((k + 1), (d - 1)) ?_ ?_ (sb rfl rfl rfl)
     · show (k + 1) ≤ l.length ∧ matGo 0 i (List.drop i l) = matGo (d - 1) (k + 1) (List.drop (k + 1) l) ∧ -(((k + 1) : Nat) : Int) ≤ (d - 1) ∧ (d - 1) ≤ (((k + 1) : Nat) : Int)
       refine ⟨by omega, hI0.2.1.trans ?_, by omega, by omega⟩; (rw [mat_end (by omega) h5, if_neg h6])
     · show l.length - (k + 1) < l.length - k
       omega
   ·
    refine At rfl ?_
    refine NR ⟨[(0, vL eC l), (5, vI d), (6, vI k)], []⟩ (sb rfl rfl rfl) rfl ?_
    refine mv rfl ?_
    refine RO (Body.add rfl rfl (by unfold R64; omega)) ?_
    refine ag rfl ?_
    refine RN ?_
    refine Aq rfl ?_
    refine PK.lp ?_
    refine LP.mk ((k + 1), d) ?_ ?_ (sb rfl rfl rfl)
    · show (k + 1) ≤ l.length ∧ matGo 0 i (List.drop i l) = matGo d (k + 1) (List.drop (k + 1) l) ∧ -(((k + 1) : Nat) : Int) ≤ d ∧ d ≤ (((k + 1) : Nat) : Int)
      refine ⟨by omega, hI0.2.1.trans ?_, by omega, by omega⟩; exact mat_one (by omega) h2 h5
    · show l.length - (k + 1) < l.length - k
      omega
 ·
  refine At rfl ?_
  refine TK.exit ?_
  refine PK.exit rfl ?_
  refine Ap rfl ?_
  refine NR ⟨[(0, vL eC l)], []⟩ (sb rfl rfl rfl) rfl ?_
  refine mv rfl ?_
  refine RO (Body.lenL rfl un83) ?_
  refine ag rfl ?_
  refine RN ?_
  refine Ap rfl ?_
  refine TK.ret ?_
  refine PK.ret ?_
  refine leaf (val0 := vI l.length) (by kernel_rfl) ?_
  exact li (by (rw [hI0.2.1, mat_nil (by omega)]; omega))
set_option maxHeartbeats 4000000 in
theorem w61 (l : List Cmd) (d : Nat) (hw : Wf d l) (hc : ∀ c ∈ l, chkC c = 0) (hl : l.length ≤ 64) (hd : d ≤ 4)
 (hrec : ∀ (b : List Cmd) (d1 : Nat), b.length < l.length → Wf d1 b → (∀ c ∈ b, chkC c = 0) → d1 ≤ 4 → CallOk Tryz.prog 61 [vL eC b] (lookM []) (vI (lenP b)) []) : CallOk Tryz.prog 61 [vL eC l] (lookM []) (vI (lenP l)) [] := by
 haveI := tab_ok
 obtain ⟨fn, f1, f2, f3, f4, _, f6⟩ := qf61
 refine callOk_of (Y := tab) (F := fn61) f1 (f2.trans rfl) f3 f4 f6 (Nat.le_of_ble_eq_true rfl) rfl ?_
 clear f1 f2 f3 f4 f6
 have hsl := wf_small hw hd hc hl
 show TK _ _ _ _ _ _ ⟨[(0, vL eC l)], []⟩
 refine At rfl ?_
 refine NR ⟨[(0, vL eC l)], []⟩ (sb rfl rfl rfl) rfl ?_
 refine ag rfl ?_
 refine RN ?_
 refine Ap rfl ?_
 refine NR ⟨[(0, vL eC l)], []⟩ (sb rfl rfl rfl) rfl ?_
 refine ag rfl ?_
 refine RN ?_
 refine Ap rfl ?_
 refine NR ⟨[(0, vL eC l), (3, vI 0)], []⟩ (sb rfl rfl rfl) rfl ?_
 refine ag rfl ?_
 refine RN ?_
 refine Ap rfl ?_
 refine TK.loop (α := Nat × Int) (fun x => ⟨[(0, vL eC l), (3, vI x.2), (4, vI ((x.1 : Nat) : Int))], []⟩) (fun x => x.1 ≤ l.length ∧ Wf d (List.drop x.1 l) ∧ x.2 + lenP (List.drop x.1 l) = lenP l ∧ 0 ≤ x.2) (fun x => l.length - x.1) (0, 0) ?_ (sb rfl rfl rfl) ?_
 · show 0 ≤ l.length ∧ Wf d (List.drop 0 l) ∧ 0 + lenP (List.drop 0 l) = lenP l ∧ 0 ≤ 0
   exact ⟨Nat.zero_le _, hw, by rw [List.drop_zero]; omega, by omega⟩
 rintro ⟨i, n⟩ hI0
 replace hI0 : i ≤ l.length ∧ Wf d (List.drop i l) ∧ n + lenP (List.drop i l) = lenP l ∧ 0 ≤ n := hI0
 have hs0 := wf_small hI0.2.1 hd (fun c h => hc c (List.mem_of_mem_drop h)) (by rw [List.length_drop]; omega)
 show TK _ _ _ _ _ _ ⟨[(0, vL eC l), (3, vI n), (4, vI i)], []⟩
 refine At rfl ?_
 refine NR ⟨[(0, vL eC l), (3, vI n), (4, vI i)], []⟩ (sb rfl rfl rfl) rfl ?_
 refine mv rfl ?_
 refine mv rfl ?_
 refine RO (Body.lenL rfl un83) ?_
 refine RO (Body.lss rfl rfl) ?_
 refine RN ?_
 refine Ap rfl ?_
 refine TK.norm ⟨[(0, vL eC l), (3, vI n), (4, vI i), (9, vB (decide ((i : Int) < (l.length : Int))))], []⟩ (sb rfl rfl rfl) ?_
 refine TK.condP rfl (fun h1 => ?_) (fun h1 => ?_)
 ·
  refine At rfl ?_
  refine NR ⟨[(0, vL eC l), (3, vI n), (4, vI i)], []⟩ (sb rfl rfl rfl) rfl ?_
  refine mv rfl ?_
  refine mv rfl ?_
  refine RO (Body.idx (z := z3) (i := i) rfl rfl un83 sz115 (fun _ => rfl) rfl (by omega)) ?_
  refine RO (Body.fadP rfl fa115_0 rfl) ?_
  refine RO (Body.loadP rfl ag9 sz9) ?_
  refine RO (Body.sneB (a := (List.getD l i z3).1) (b := [114, 101, 112, 101, 97, 116]) rfl rfl) ?_
  refine RN ?_
  refine Ap rfl ?_
  refine TK.norm ⟨[(0, vL eC l), (3, vI n), (4, vI i), (17, vB (decide ((List.getD l i z3).1 ≠ [114, 101, 112, 101, 97, 116])))], []⟩ (sb rfl rfl rfl) ?_
  refine TK.condP rfl (fun h2 => ?_) (fun h2 => ?_)
  ·
   refine At rfl ?_
   refine NR ⟨[(0, vL eC l), (3, vI n), (4, vI i)], []⟩ (sb rfl rfl rfl) rfl ?_
   refine mv rfl ?_
   refine RO (Body.add rfl rfl (by unfold R64; omega)) ?_
   refine ag rfl ?_
   refine RN ?_
   refine Ap rfl ?_
   refine TK.exit ?_
   refine PK.exit rfl ?_
   refine Ap rfl ?_
   refine NR ⟨[(0, vL eC l), (3, vI (n + 1)), (4, vI i)], []⟩ (sb rfl rfl rfl) rfl ?_
   refine mv rfl ?_
   refine RO (Body.add rfl rfl (by unfold R64; omega)) ?_
   refine ag rfl ?_
   refine RN ?_
   refine Aq rfl ?_
   refine PK.lp ?_
   refine LP.mk ((i + 1), (n + 1)) ?_ ?_ (sb rfl rfl rfl)
   · show (i + 1) ≤ l.length ∧ Wf d (List.drop (i + 1) l) ∧ (n + 1) + lenP (List.drop (i + 1) l) = lenP l ∧ 0 ≤ (n + 1)
     (obtain ⟨q1, q2, q3⟩ := wf_next hI0.2.1 (by omega) h2; exact ⟨by omega, q2, by omega, by omega⟩)
   · show l.length - (i + 1) < l.length - i
     omega
  ·
   refine At rfl ?_
   refine NR ⟨[(0, vL eC l), (3, vI n), (4, vI i)], []⟩ (sb rfl rfl rfl) rfl ?_
   refine mv rfl ?_
   refine mv rfl ?_
   refine RO (Body.call (w138 l i (by omega) (by omega)) rfl rfl rfl) ?_
   refine ag rfl ?_
   refine RN ?_
   refine Ap rfl ?_
   refine TK.norm ⟨[(0, vL eC l), (3, vI n), (4, vI i), (5, vI ((matGo 0 i (List.drop i l) : Nat) : Int))], []⟩ (sb rfl rfl rfl) ?_
   obtain ⟨d1, e, hde, he, he1, he2, hwb, hwr, hle⟩ := wf_at hI0.2.1 (by omega) (Decidable.not_not.1 h2)
   rw [← he]
   have hcb : ∀ c ∈ List.drop (i + 1) (List.take e l), chkC c = 0 := fun c h => hc c (List.mem_of_mem_take (List.mem_of_mem_drop h))
   have hbl : (List.drop (i + 1) (List.take e l)).length < l.length := by rw [List.length_drop, List.length_take]; omega
   have hsb := wf_small hwb (by omega) hcb (by omega)
   have hsr := wf_small hwr hd (fun c h => hc c (List.mem_of_mem_drop h)) (by rw [List.length_drop]; omega)
   have hcn := cnt_rep (hc _ (getD_mem (z := z3) (k := i) (by omega))) (Decidable.not_not.1 h2)
   have hpn : 0 ≤ (Prod.snd (Prod.snd (List.getD l i z3))) * (1 + lenP (List.drop (i + 1) (List.take e l))) := Int.mul_nonneg (by omega) (by omega)
   refine TK.rg (Y := tab) mixed rfl ?_
   refine mv rfl ?_
   refine mv rfl ?_
   refine mv rfl ?_
   refine RO (Body.idx (z := z3) (i := i) rfl rfl un83 sz115 (fun _ => rfl) rfl (by omega)) ?_
   refine RO (Body.fadP rfl fa115_2 rfl) ?_
   refine RO (Body.loadP rfl ag3 sz3) ?_
   refine mv rfl ?_
   refine mv rfl ?_
   refine RO (Body.add rfl rfl (by unfold R64; omega)) ?_
   refine mv rfl ?_
   refine RO (Body.slTD (i := (i + 1)) (j := e) rfl rfl rfl un83 sz115 (fun _ => rfl) (by omega) rfl (by omega) (by omega)) ?_
   refine RO (Body.call (hrec _ d1 hbl hwb hcb (by omega)) rfl rfl rfl) ?_
   refine RO (Body.add rfl rfl (by unfold R64; omega)) ?_
   refine RO (Body.mul rfl rfl (by unfold R64; omega)) ?_
   refine RO (Body.add rfl rfl (by unfold R64; omega)) ?_
   refine ag rfl ?_
   refine RG.nil (fun _ => by kernel_rfl) ?_
   refine Ap rfl ?_
   refine NR ⟨[(0, vL eC l), (3, vI (n + ((Prod.snd (Prod.snd (List.getD l i z3))) * (1 + (lenP (List.drop (i + 1) (List.take e l))))))), (5, vI e)], []⟩ (sb rfl rfl rfl) rfl ?_
   refine mv rfl ?_
   refine ag rfl ?_
   refine RN ?_
   refine Ap rfl ?_
   refine NR ⟨[(0, vL eC l), (3, vI (n + ((Prod.snd (Prod.snd (List.getD l i z3))) * (1 + (lenP (List.drop (i + 1) (List.take e l))))))), (4, vI e)], []⟩ (sb rfl rfl rfl) rfl ?_
   refine mv rfl ?_
   refine RO (Body.add rfl rfl (by unfold R64; omega)) ?_
   refine ag rfl ?_
   refine RN ?_
   refine Aq rfl ?_
   refine PK.lp ?_
   refine LP.mk ((e + 1), (n + ((Prod.snd (Prod.snd (List.getD l i z3))) * (1 + (lenP (List.drop (i + 1) (List.take e l))))))) ?_ ?_ (sb rfl rfl rfl)
   · show (e + 1) ≤ l.length ∧ Wf d (List.drop (e + 1) l) ∧ (n + ((Prod.snd (Prod.snd (List.getD l i z3))) * (1 + (lenP (List.drop (i + 1) (List.take e l)))))) + lenP (List.drop (e + 1) l) = lenP l ∧ 0 ≤ (n + ((Prod.snd (Prod.snd (List.getD l i z3))) * (1 + (lenP (List.drop (i + 1) (List.take e l))))))
     exact ⟨by omega, hwr, by omega, by omega⟩
   · show l.length - (e + 1) < l.length - i
     omega
 ·
  refine At rfl ?_
  refine TK.exit ?_
  refine PK.exit rfl ?_
  refine Ap rfl ?_
  refine NR ⟨[(3, vI n)], []⟩ (sb rfl rfl rfl) rfl ?_
  refine mv rfl ?_
  refine ag rfl ?_
  refine RN ?_
  refine Ap rfl ?_
  refine TK.ret ?_
  refine PK.ret ?_
  refine leaf (val0 := vI n) (by kernel_rfl) ?_
  exact li (by have hz := hI0.2.2.1; rw [List.drop_of_length_le (by omega), lenP_nil] at hz; omega)
theorem w61r : ∀ (n : Nat) (l : List Cmd) (d : Nat), l.length ≤ n → Wf d l → (∀ c ∈ l, chkC c = 0) → l.length ≤ 64 → d ≤ 4 → CallOk Tryz.prog 61 [vL eC l] (lookM []) (vI (lenP l)) []
 | 0, l, d, hn, hw, hc, hl, hd => w61 l d hw hc hl hd fun b d1 hb => absurd hb (by omega)
 | n + 1, l, d, hn, hw, hc, hl, hd => w61 l d hw hc hl hd fun b d1 hb hw1 hc1 hd1 => w61r n b d1 (by omega) hw1 hc1 (by omega) hd1
theorem w61s {l : List Cmd} (hl : l.length ≤ 64) (hc : ∀ c ∈ l, chkC c = 0) (hd : depC 0 l = 0) : CallOk Tryz.prog 61 [vL eC l] (lookM []) (vI (lenP l)) [] := w61r l.length l 4 (Nat.le_refl _) (wf_of hd) hc hl (by omega)
theorem w61k {l : List Cmd} (h : decide (chkS l ≠ 0) = false) : CallOk Tryz.prog 61 [vL eC l] (lookM []) (vI (lenP l)) [] := by
 obtain ⟨h1, h2, h3, _⟩ := chkS_ok (Decidable.not_not.1 (of_decide_eq_false h))
 exact w61s h1 h2 h3
set_option maxHeartbeats 4000000 in
theorem w137 (l : List Cmd) (hc : ∀ c ∈ l, chkC c = 0) (hl : l.length ≤ 64) (hd : depC 0 l = 0) : CallOk Tryz.prog 137 [vL eC l] (lookM []) (vI (lenP l)) [] := by
 haveI := tab_ok
 obtain ⟨fn, f1, f2, f3, f4, _, f6⟩ := qf137
 refine callOk_of (Y := tab) (F := fn137) f1 (f2.trans rfl) f3 f4 f6 (Nat.le_of_ble_eq_true rfl) rfl ?_
 clear f1 f2 f3 f4 f6
 have hsl := wf_small (wf_of hd) (by omega) hc hl
 show TK _ _ _ _ _ _ ⟨[(0, vL eC l)], []⟩
 refine At rfl ?_
 refine NR ⟨[(0, vL eC l)], []⟩ (sb rfl rfl rfl) rfl ?_
 refine ag rfl ?_
 refine RN ?_
 refine Ap rfl ?_
 refine NR ⟨[(0, vL eC l)], []⟩ (sb rfl rfl rfl) rfl ?_
 refine rn rfl ?_
 refine rn rfl ?_
 refine RN ?_
 refine Ap rfl ?_
 refine NR ⟨[(0, vL eC l), (3, .aref 9 0)], [(9, .arr 0 1 3 (List.map eI [0]))]⟩ (sb rfl rfl rfl) rfl ?_
 refine RO (Body.adopt 5 1 3 rfl rfl) ?_
 refine RN ?_
 refine Ap rfl ?_
 refine NR ⟨[(0, vL eC l), (3, .aref 9 0), (4, .aref 5 0)], [(5, .arr 0 1 3 (List.map eI [])), (9, .arr 0 1 3 (List.map eI [0]))]⟩ (sb rfl rfl rfl) rfl ?_
 refine mv rfl ?_
 refine RO (Body.lenL rfl un82) ?_
 refine mv rfl ?_
 refine RN ?_
 refine Ap rfl ?_
 refine TK.loop (α := Nat × Nat × Nat × Int × List (Int × Int)) (fun x => ⟨[(3, .aref 9 x.2.1), (4, .aref 5 x.2.2.1), (9, vL eC l), (10, vI l.length), (11, vI ((x.1 : Nat) : Int))], [(5, .arr x.2.2.1 1 3 (List.map eI (cnL x.2.2.2.2))), (9, .arr x.2.1 1 3 (List.map eI (smL x.2.2.2.2 x.2.2.2.1)))]⟩) (fun x => x.1 ≤ l.length ∧ LnI l x.1 x.2.2.2.1 x.2.2.2.2) (fun x => l.length - x.1) (0, 0, 0, 0, []) ?_ (sb rfl rfl rfl) ?_
 · show 0 ≤ l.length ∧ LnI l 0 0 []
   exact ⟨Nat.zero_le _, ln_init hd⟩
 rintro ⟨k, v, u, s, st⟩ hI0
 replace hI0 : k ≤ l.length ∧ LnI l k s st := hI0
 have hle := ln_le hI0.2 hc
 have hsk := hI0.2.1.2.2
 have hsl2 := smL_len st s
 have hcl2 := cnL_len st
 show TK _ _ _ _ _ _ ⟨[(3, .aref 9 v), (4, .aref 5 u), (9, vL eC l), (10, vI l.length), (11, vI k)], [(5, .arr u 1 3 (List.map eI (cnL st))), (9, .arr v 1 3 (List.map eI (smL st s)))]⟩
 refine At rfl ?_
 refine NR ⟨[(3, .aref 9 v), (4, .aref 5 u), (9, vL eC l), (10, vI l.length), (11, vI k)], [(5, .arr u 1 3 (List.map eI (cnL st))), (9, .arr v 1 3 (List.map eI (smL st s)))]⟩ (sb rfl rfl rfl) rfl ?_
 refine RO (Body.lss rfl rfl) ?_
 refine RN ?_
 refine Ap rfl ?_
 refine TK.norm ⟨[(3, .aref 9 v), (4, .aref 5 u), (9, vL eC l), (10, vI l.length), (11, vI k), (12, vB (decide ((k : Int) < (l.length : Int))))], [(5, .arr u 1 3 (List.map eI (cnL st))), (9, .arr v 1 3 (List.map eI (smL st s)))]⟩ (sb rfl rfl rfl) ?_
 refine TK.condP rfl (fun h1 => ?_) (fun h1 => ?_)
 ·
  refine At rfl ?_
  refine NR ⟨[(3, .aref 9 v), (4, .aref 5 u), (9, vL eC l), (10, vI l.length), (11, vI k)], [(5, .arr u 1 3 (List.map eI (cnL st))), (9, .arr v 1 3 (List.map eI (smL st s)))]⟩ (sb rfl rfl rfl) rfl ?_
  refine RO (Body.idx (z := z3) (i := k) rfl rfl un82 sz116 (fun _ => rfl) rfl (by omega)) ?_
  refine RO (Body.loadA (ds := [pS (bsO (List.getD l k z3).1), pS (bsO (Prod.fst (Prod.snd (List.getD l k z3)))), pI (Prod.snd (Prod.snd (List.getD l k z3)))]) rfl ag116 sz116 (Nat.le_of_ble_eq_true rfl) rfl) ?_
  refine rn rfl ?_
  refine rn rfl ?_
  refine RN ?_
  refine Ap rfl ?_
  refine NR ⟨[(3, .aref 9 v), (4, .aref 5 u), (6, .bref 7 0), (9, vL eC l), (10, vI l.length), (11, vI k)], [(5, .arr u 1 3 (List.map eI (cnL st))), (7, .box 116 [vS (bsO (List.getD l k z3).1), vS (bsO (Prod.fst (Prod.snd (List.getD l k z3)))), vI (Prod.snd (Prod.snd (List.getD l k z3)))]), (9, .arr v 1 3 (List.map eI (smL st s)))]⟩ (sb rfl rfl rfl) rfl ?_
  refine rn rfl ?_
  refine RO (Body.lenA rfl rfl un22) ?_
  refine RO (Body.sub rfl rfl (by unfold R64; omega)) ?_
  refine ag rfl ?_
  refine RN ?_
  refine Ap rfl ?_
  refine TK.norm ⟨[(3, .aref 9 v), (4, .aref 5 u), (6, .bref 7 0), (7, vI (((List.length (smL st s) : Nat) : Int) - 1)), (9, vL eC l), (10, vI l.length), (11, vI k)], [(5, .arr u 1 3 (List.map eI (cnL st))), (7, .box 116 [vS (bsO (List.getD l k z3).1), vS (bsO (Prod.fst (Prod.snd (List.getD l k z3)))), vI (Prod.snd (Prod.snd (List.getD l k z3)))]), (9, .arr v 1 3 (List.map eI (smL st s)))]⟩ (sb rfl rfl rfl) ?_
  obtain ⟨m, hm⟩ : ∃ m, m = st.length := ⟨_, rfl⟩
  rw [show (((List.length (smL st s) : Nat) : Int) - 1) = (m : Int) by omega]
  refine TK.rg (Y := tab) mixed rfl ?_
  refine RO (Body.fadB rfl fa116_0 rfl) ?_
  refine RO (Body.loadB rfl rfl rfl ag9 sz9 rfl) ?_
  refine RN ?_
  refine Ap rfl ?_
  refine NR ⟨[(3, .aref 9 v), (4, .aref 5 u), (6, .bref 7 0), (7, vI m), (9, vL eC l), (10, vI l.length), (11, vI k), (19, vS (bsO (List.getD l k z3).1))], [(5, .arr u 1 3 (List.map eI (cnL st))), (7, .box 116 [vS (bsO (List.getD l k z3).1), vS (bsO (Prod.fst (Prod.snd (List.getD l k z3)))), vI (Prod.snd (Prod.snd (List.getD l k z3)))]), (9, .arr v 1 3 (List.map eI (smL st s)))]⟩ (sb rfl rfl rfl) rfl ?_
  refine RO (Body.seqB (a := (List.getD l k z3).1) (b := [114, 101, 112, 101, 97, 116]) rfl rfl) ?_
  refine ag rfl ?_
  refine RN ?_
  refine Ap rfl ?_
  refine TK.norm ⟨[(3, .aref 9 v), (4, .aref 5 u), (6, .bref 7 0), (7, vI m), (9, vL eC l), (10, vI l.length), (11, vI k), (19, vS (bsO (List.getD l k z3).1)), (26, vB (decide ((List.getD l k z3).1 = [114, 101, 112, 101, 97, 116])))], [(5, .arr u 1 3 (List.map eI (cnL st))), (7, .box 116 [vS (bsO (List.getD l k z3).1), vS (bsO (Prod.fst (Prod.snd (List.getD l k z3)))), vI (Prod.snd (Prod.snd (List.getD l k z3)))]), (9, .arr v 1 3 (List.map eI (smL st s)))]⟩ (sb rfl rfl rfl) ?_
  refine TK.condP rfl (fun h2 => ?_) (fun h2 => ?_)
  ·
   refine At rfl ?_
   refine NR ⟨[(3, .aref 9 v), (4, .aref 5 u), (6, .bref 7 0), (9, vL eC l), (10, vI l.length), (11, vI k)], [(5, .arr u 1 3 (List.map eI (cnL st))), (7, .box 116 [vS (bsO (List.getD l k z3).1), vS (bsO (Prod.fst (Prod.snd (List.getD l k z3)))), vI (Prod.snd (Prod.snd (List.getD l k z3)))]), (9, .arr v 1 3 (List.map eI (smL st s)))]⟩ (sb rfl rfl rfl) rfl ?_
   refine rn rfl ?_
   refine RO (Body.runZ (val := .pv (.slice (List.map eI [1]))) rfl (fun l => Frz.arr l _ _ _ _ _) rfl) ?_
   refine RO (Body.append rfl rfl rfl un22 in3 rfl (fun _ => rfl) by3 (by (simp only [List.length_set, List.length_append, List.length_cons, List.length_nil]; omega))) ?_
   refine rn rfl ?_
   refine RO (Body.fadB rfl fa116_2 rfl) ?_
   refine RO (Body.loadB rfl rfl rfl ag3 sz3 rfl) ?_
   refine RO (Body.runZ (val := .pv (.slice (List.map eI [(Prod.snd (Prod.snd (List.getD l k z3)))]))) rfl (fun l => Frz.arr l _ _ _ _ _) rfl) ?_
   refine RO (Body.append rfl rfl rfl un22 in3 rfl (fun _ => rfl) by3 (by (simp only [List.length_set, List.length_append, List.length_cons, List.length_nil]; omega))) ?_
   refine rn rfl ?_
   refine rn rfl ?_
   refine RG.nil (fun _ => by kernel_rfl) ?_
   refine Ap rfl ?_
   refine NR ⟨[(3, .aref 9 (v + 1)), (4, .aref 5 (u + 1)), (9, vL eC l), (10, vI l.length), (11, vI k)], [(5, .arr (u + 1) 1 3 (List.map eI ((cnL st) ++ [(Prod.snd (Prod.snd (List.getD l k z3)))]))), (9, .arr (v + 1) 1 3 (List.map eI ((smL st s) ++ [1])))]⟩ (sb rfl rfl rfl) rfl ?_
   refine RO (Body.add rfl rfl (by unfold R64; omega)) ?_
   refine mv rfl ?_
   refine RN ?_
   refine Aq rfl ?_
   refine PK.lp ?_
   refine LP.mk ((k + 1), (v + 1), (u + 1), 1, ((s, (Prod.snd (Prod.snd (List.getD l k z3)))) :: st)) ?_ ?_ (sb rfl rfl rfl)
   · show (k + 1) ≤ l.length ∧ LnI l (k + 1) 1 ((s, (Prod.snd (Prod.snd (List.getD l k z3)))) :: st)
     refine ⟨by omega, ?_⟩; exact ln_rep hI0.2 hc (by omega) h2
   · show l.length - (k + 1) < l.length - k
     omega
  ·
   refine At rfl ?_
   refine NR ⟨[(3, .aref 9 v), (4, .aref 5 u), (7, vI m), (9, vL eC l), (10, vI l.length), (11, vI k), (19, vS (bsO (List.getD l k z3).1))], [(5, .arr u 1 3 (List.map eI (cnL st))), (9, .arr v 1 3 (List.map eI (smL st s)))]⟩ (sb rfl rfl rfl) rfl ?_
   refine RO (Body.seqB (a := (List.getD l k z3).1) (b := [101, 110, 100]) rfl rfl) ?_
   refine ag rfl ?_
   refine RN ?_
   refine Ap rfl ?_
   refine TK.norm ⟨[(3, .aref 9 v), (4, .aref 5 u), (7, vI m), (9, vL eC l), (10, vI l.length), (11, vI k), (36, vB (decide ((List.getD l k z3).1 = [101, 110, 100])))], [(5, .arr u 1 3 (List.map eI (cnL st))), (9, .arr v 1 3 (List.map eI (smL st s)))]⟩ (sb rfl rfl rfl) ?_
   refine TK.condP rfl (fun h3 => ?_) (fun h3 => ?_)
   ·
    refine At rfl ?_
    refine TK.norm ⟨[(3, .aref 9 v), (4, .aref 5 u), (7, vI m), (9, vL eC l), (10, vI l.length), (11, vI k)], [(5, .arr u 1 3 (List.map eI (cnL st))), (9, .arr v 1 3 (List.map eI (smL st s)))]⟩ (sb rfl rfl rfl) ?_
    obtain ⟨p, st2, rfl⟩ := ln_some hI0.2 (by omega) h3
    have hm2 : m = st2.length + 1 := hm
    have g1 : (List.getD (smL (p :: st2) s) (m - 1) 0) = Prod.fst p := by rw [hm2]; exact smL_get2 p st2 s
    have g2 : (List.getD (cnL (p :: st2)) (m - 1) 0) = Prod.snd p := by rw [hm2]; exact cnL_get p st2
    have g3 : (List.getD (smL (p :: st2) s) m 0) = s := by rw [hm2]; exact smL_get (p :: st2) s
    have hpop := ln_pop hI0.2 (by omega) h3
    have hpl := (ln_le hpop hc).1
    have hp0 := hI0.2.2.2 p (List.mem_cons_self ..)
    have hq1 : 0 ≤ (List.getD (cnL (p :: st2)) (m - 1) 0) * (List.getD (smL (p :: st2) s) m 0) ∧ (List.getD (smL (p :: st2) s) (m - 1) 0) + (List.getD (cnL (p :: st2)) (m - 1) 0) * (List.getD (smL (p :: st2) s) m 0) ≤ 7000000000 ∧ 0 ≤ (List.getD (smL (p :: st2) s) (m - 1) 0) := by
      rw [g1, g2, g3]; exact ⟨Int.mul_nonneg (by omega) hI0.2.2.1, by omega, hp0.1⟩
    refine TK.rg (Y := tab) mixed rfl ?_
    refine rn rfl ?_
    refine mv rfl ?_
    refine RO (Body.sub rfl rfl (by unfold R64; omega)) ?_
    refine RO (Body.idxE (n := (m - 1)) rfl rfl rfl un22 sz3 (by omega) (by omega)) ?_
    refine RO (Body.loadE (n := (m - 1)) (z0 := 0) rfl rfl ag3 sz3 (by omega) rfl) ?_
    refine rn rfl ?_
    refine mv rfl ?_
    refine RO (Body.sub rfl rfl (by unfold R64; omega)) ?_
    refine RO (Body.idxE (n := (m - 1)) rfl rfl rfl un22 sz3 (by omega) (by omega)) ?_
    refine RO (Body.loadE (n := (m - 1)) (z0 := 0) rfl rfl ag3 sz3 (by omega) rfl) ?_
    refine rn rfl ?_
    refine mv rfl ?_
    refine RO (Body.idxE (n := m) rfl rfl rfl un22 sz3 rfl (by omega)) ?_
    refine RO (Body.loadE (n := m) (z0 := 0) rfl rfl ag3 sz3 (by omega) rfl) ?_
    refine RO (Body.mul rfl rfl (by unfold R64; omega)) ?_
    refine RO (Body.add rfl rfl (by unfold R64; omega)) ?_
    refine RO (Body.idxE (n := (m - 1)) rfl rfl rfl un22 sz3 (by omega) (by omega)) ?_
    refine RO (Body.setE (z0 := ((List.getD (smL (p :: st2) s) (m - 1) 0) + ((List.getD (cnL (p :: st2)) (m - 1) 0) * (List.getD (smL (p :: st2) s) m 0)))) rfl rfl rfl rfl rfl sz3 (by omega) (fun _ => rfl)) ?_
    refine RG.nil (fun _ => by kernel_rfl) ?_
    refine Ap rfl ?_
    refine NR ⟨[(3, .aref 9 v), (4, .aref 5 u), (7, vI m), (9, vL eC l), (10, vI l.length), (11, vI k)], [(5, .arr u 1 3 (List.map eI (cnL (p :: st2)))), (9, .arr v 1 3 (List.map eI (List.set (smL (p :: st2) s) (m - 1) ((List.getD (smL (p :: st2) s) (m - 1) 0) + ((List.getD (cnL (p :: st2)) (m - 1) 0) * (List.getD (smL (p :: st2) s) m 0))))))]⟩ (sb rfl rfl rfl) rfl ?_
    refine rn rfl ?_
    refine mv rfl ?_
    refine RO (Body.slA (n := m) rfl rfl rfl un22 sz3 rfl (by (simp only [List.length_set, List.length_append, List.length_cons, List.length_nil]; omega))) ?_
    refine rn rfl ?_
    refine mv rfl ?_
    refine RO (Body.sub rfl rfl (by unfold R64; omega)) ?_
    refine RO (Body.slA (n := (m - 1)) rfl rfl rfl un22 sz3 (by omega) (by omega)) ?_
    refine rn rfl ?_
    refine rn rfl ?_
    refine RG.nil (fun _ => by kernel_rfl) ?_
    refine Ap rfl ?_
    refine TK.norm ⟨[(3, .atrunc 9 v m), (4, .atrunc 5 u (m - 1)), (9, vL eC l), (10, vI l.length), (11, vI k)], [(5, .arr u 1 3 (List.map eI (cnL (p :: st2)))), (9, .arr v 1 3 (List.map eI (List.set (smL (p :: st2) s) (m - 1) ((List.getD (smL (p :: st2) s) (m - 1) 0) + ((List.getD (cnL (p :: st2)) (m - 1) 0) * (List.getD (smL (p :: st2) s) m 0))))))]⟩ (sb rfl rfl rfl) ?_
    refine TK.trunc (t := 3) rfl rfl ?_
    refine TK.norm ⟨[(3, .aref 9 (v + 1)), (4, .atrunc 5 u (m - 1)), (9, vL eC l), (10, vI l.length), (11, vI k)], [(5, .arr u 1 3 (List.map eI (cnL (p :: st2)))), (9, .arr (v + 1) 1 3 (List.map eI (List.take m (List.set (smL (p :: st2) s) (m - 1) ((List.getD (smL (p :: st2) s) (m - 1) 0) + ((List.getD (cnL (p :: st2)) (m - 1) 0) * (List.getD (smL (p :: st2) s) m 0)))))))]⟩ (sb rfl rfl rfl) ?_
    refine TK.trunc (t := 4) rfl rfl ?_
    refine TK.norm ⟨[(3, .aref 9 (v + 1)), (4, .aref 5 (u + 1)), (9, vL eC l), (10, vI l.length), (11, vI k)], [(5, .arr (u + 1) 1 3 (List.map eI (List.take (m - 1) (cnL (p :: st2))))), (9, .arr (v + 1) 1 3 (List.map eI (List.take m (List.set (smL (p :: st2) s) (m - 1) ((List.getD (smL (p :: st2) s) (m - 1) 0) + ((List.getD (cnL (p :: st2)) (m - 1) 0) * (List.getD (smL (p :: st2) s) m 0)))))))]⟩ (sb rfl rfl rfl) ?_
    have e1 : (List.take m (List.set (smL (p :: st2) s) (m - 1) ((List.getD (smL (p :: st2) s) (m - 1) 0) + ((List.getD (cnL (p :: st2)) (m - 1) 0) * (List.getD (smL (p :: st2) s) m 0))))) = smL st2 (Prod.fst p + Prod.snd p * s) := by rw [g1, g2, g3, hm2]; exact smL_pop p st2 s _
    have e2 : (List.take (m - 1) (cnL (p :: st2))) = cnL st2 := by rw [hm2]; exact cnL_pop p st2
    rw [e1, e2]
    refine TK.rg (Y := tab) mixed rfl ?_
    refine RO (Body.add rfl rfl (by unfold R64; omega)) ?_
    refine mv rfl ?_
    refine RN ?_
    refine Aq rfl ?_
    refine PK.lp ?_
    refine LP.mk ((k + 1), (v + 1), (u + 1), (Prod.fst p + Prod.snd p * s), st2) ?_ ?_ (sb rfl rfl rfl)
    · show (k + 1) ≤ l.length ∧ LnI l (k + 1) (Prod.fst p + Prod.snd p * s) st2
      refine ⟨by omega, ?_⟩; exact hpop
    · show l.length - (k + 1) < l.length - k
      omega
   ·
    refine At rfl ?_
    refine TK.norm ⟨[(3, .aref 9 v), (4, .aref 5 u), (7, vI m), (9, vL eC l), (10, vI l.length), (11, vI k)], [(5, .arr u 1 3 (List.map eI (cnL st))), (9, .arr v 1 3 (List.map eI (smL st s)))]⟩ (sb rfl rfl rfl) ?_
    have g4 : List.getD (smL st s) m 0 = s := by rw [hm]; exact smL_get st s
    have hsn := hI0.2.2.1
    refine TK.rg (Y := tab) mixed rfl ?_
    refine rn rfl ?_
    refine mv rfl ?_
    refine RO (Body.idxE (n := m) rfl rfl rfl un22 sz3 rfl (by omega)) ?_
    refine RO (Body.loadE (n := m) (z0 := 0) rfl rfl ag3 sz3 (by omega) rfl) ?_
    refine RO (Body.add rfl rfl (by unfold R64; omega)) ?_
    refine RO (Body.idxE (n := m) rfl rfl rfl un22 sz3 rfl (by omega)) ?_
    refine RO (Body.setE (z0 := ((List.getD (smL st s) m 0) + 1)) rfl rfl rfl rfl rfl sz3 (by omega) (fun _ => rfl)) ?_
    refine RN ?_
    refine Ap rfl ?_
    refine TK.norm ⟨[(3, .aref 9 v), (4, .aref 5 u), (9, vL eC l), (10, vI l.length), (11, vI k)], [(5, .arr u 1 3 (List.map eI (cnL st))), (9, .arr v 1 3 (List.map eI (List.set (smL st s) m ((List.getD (smL st s) m 0) + 1))))]⟩ (sb rfl rfl rfl) ?_
    have e1 : (List.set (smL st s) m ((List.getD (smL st s) m 0) + 1)) = smL st (s + 1) := by rw [g4, hm]; exact smL_set st s _
    rw [e1]
    refine TK.rg (Y := tab) mixed rfl ?_
    refine RO (Body.add rfl rfl (by unfold R64; omega)) ?_
    refine mv rfl ?_
    refine RN ?_
    refine Aq rfl ?_
    refine PK.lp ?_
    refine LP.mk ((k + 1), v, u, (s + 1), st) ?_ ?_ (sb rfl rfl rfl)
    · show (k + 1) ≤ l.length ∧ LnI l (k + 1) (s + 1) st
      refine ⟨by omega, ?_⟩; exact ln_one hI0.2 (by omega) h2 h3
    · show l.length - (k + 1) < l.length - k
      omega
 ·
  refine At rfl ?_
  refine TK.exit ?_
  refine PK.exit rfl ?_
  refine Ap rfl ?_
  refine NR ⟨[(3, .aref 9 v)], [(9, .arr v 1 3 (List.map eI (smL st s)))]⟩ (sb rfl rfl rfl) rfl ?_
  refine rn rfl ?_
  refine RO (Body.idxE (n := 0) rfl rfl rfl un22 sz3 rfl (by omega)) ?_
  refine RO (Body.loadE (n := 0) (z0 := 0) rfl rfl ag3 sz3 (by omega) rfl) ?_
  refine ag rfl ?_
  refine RN ?_
  refine Ap rfl ?_
  refine TK.ret ?_
  refine PK.ret ?_
  refine leaf (val0 := vI (List.getD (smL st s) 0 0)) (by kernel_rfl) ?_
  exact li (by exact ln_end hI0.2 (by omega))
set_option maxHeartbeats 4000000 in
theorem w59 (l : List Cmd) (hl : l.length ≤ 1000000000000000) : CallOk Tryz.prog 59 [vL eC l] (lookM []) (vI (chkS l)) [] := by
 haveI := tab_ok
 obtain ⟨fn, f1, f2, f3, f4, _, f6⟩ := qf59
 refine callOk_of (Y := tab) (F := fn59) f1 (f2.trans rfl) f3 f4 f6 (Nat.le_of_ble_eq_true rfl) rfl ?_
 clear f1 f2 f3 f4 f6
 show TK _ _ _ _ _ _ ⟨[(0, vL eC l)], []⟩
 refine At rfl ?_
 refine NR ⟨[(0, vL eC l)], []⟩ (sb rfl rfl rfl) rfl ?_
 refine ag rfl ?_
 refine RN ?_
 refine Ap rfl ?_
 refine NR ⟨[(0, vL eC l)], []⟩ (sb rfl rfl rfl) rfl ?_
 refine mv rfl ?_
 refine RO (Body.lenL rfl un82) ?_
 refine RO (Body.gtr rfl rfl) ?_
 refine RN ?_
 refine Ap rfl ?_
 refine TK.norm ⟨[(0, vL eC l), (11, vB (decide (64 < (l.length : Int))))], []⟩ (sb rfl rfl rfl) ?_
 refine TK.condP rfl (fun h1 => ?_) (fun h1 => ?_)
 ·
  refine At rfl ?_
  refine NR ⟨[], []⟩ (sb rfl rfl rfl) rfl ?_
  refine ag rfl ?_
  refine RN ?_
  refine Ap rfl ?_
  refine TK.ret ?_
  refine PK.ret ?_
  refine leaf (val0 := vI 5) (by kernel_rfl) ?_
  exact li (by (exact (chkS_many h1).symm))
 ·
  refine At rfl ?_
  refine NR ⟨[(0, vL eC l)], []⟩ (sb rfl rfl rfl) rfl ?_
  refine mv rfl ?_
  refine RO (Body.lenL rfl un82) ?_
  refine mv rfl ?_
  refine RN ?_
  refine Ap rfl ?_
  refine TK.loop (α := Nat) (fun x => ⟨[(0, vL eC l), (12, vL eC l), (13, vI l.length), (14, vI x)], []⟩) (fun x => x ≤ l.length ∧ badC l = badC (List.drop x l)) (fun x => l.length - x) 0 ?_ (sb rfl rfl rfl) ?_
  · show 0 ≤ l.length ∧ badC l = badC (List.drop 0 l)
    exact ⟨Nat.zero_le _, rfl⟩
  rintro k hI0
  replace hI0 : k ≤ l.length ∧ badC l = badC (List.drop k l) := hI0
  show TK _ _ _ _ _ _ ⟨[(0, vL eC l), (12, vL eC l), (13, vI l.length), (14, vI k)], []⟩
  refine At rfl ?_
  refine NR ⟨[(0, vL eC l), (12, vL eC l), (13, vI l.length), (14, vI k)], []⟩ (sb rfl rfl rfl) rfl ?_
  refine RO (Body.lss rfl rfl) ?_
  refine RN ?_
  refine Ap rfl ?_
  refine TK.norm ⟨[(0, vL eC l), (12, vL eC l), (13, vI l.length), (14, vI k), (15, vB (decide ((k : Int) < (l.length : Int))))], []⟩ (sb rfl rfl rfl) ?_
  refine TK.condP rfl (fun h2 => ?_) (fun h2 => ?_)
  ·
   refine At rfl ?_
   refine NR ⟨[(0, vL eC l), (12, vL eC l), (13, vI l.length), (14, vI k)], []⟩ (sb rfl rfl rfl) rfl ?_
   refine RO (Body.idx (z := z3) (i := k) rfl rfl un82 sz116 (fun _ => rfl) rfl (by omega)) ?_
   refine RO (Body.loadA (ds := [pS (bsO (List.getD l k z3).1), pS (bsO (Prod.fst (Prod.snd (List.getD l k z3)))), pI (Prod.snd (Prod.snd (List.getD l k z3)))]) rfl ag116 sz116 (Nat.le_of_ble_eq_true rfl) rfl) ?_
   refine rn rfl ?_
   refine rn rfl ?_
   refine RN ?_
   refine Ap rfl ?_
   refine NR ⟨[(0, vL eC l), (4, .bref 5 0), (12, vL eC l), (13, vI l.length), (14, vI k)], [(5, .box 116 [vS (bsO (List.getD l k z3).1), vS (bsO (Prod.fst (Prod.snd (List.getD l k z3)))), vI (Prod.snd (Prod.snd (List.getD l k z3)))])]⟩ (sb rfl rfl rfl) rfl ?_
   refine RO (Body.loadBA rfl rfl rfl ag116 sz116 rfl rfl) ?_
   refine RO (Body.call (w136 (List.getD l k z3)) rfl rfl rfl) ?_
   refine ag rfl ?_
   refine RN ?_
   refine Ap rfl ?_
   refine NR ⟨[(0, vL eC l), (5, vI (chkC (List.getD l k z3))), (12, vL eC l), (13, vI l.length), (14, vI k)], []⟩ (sb rfl rfl rfl) rfl ?_
   refine mv rfl ?_
   refine RO (Body.neq rfl rfl) ?_
   refine RN ?_
   refine Ap rfl ?_
   refine TK.norm ⟨[(0, vL eC l), (5, vI (chkC (List.getD l k z3))), (12, vL eC l), (13, vI l.length), (14, vI k), (21, vB (decide ((chkC (List.getD l k z3)) ≠ 0)))], []⟩ (sb rfl rfl rfl) ?_
   refine TK.condP rfl (fun h3 => ?_) (fun h3 => ?_)
   ·
    refine At rfl ?_
    refine NR ⟨[(5, vI (chkC (List.getD l k z3)))], []⟩ (sb rfl rfl rfl) rfl ?_
    refine mv rfl ?_
    refine ag rfl ?_
    refine RN ?_
    refine Ap rfl ?_
    refine TK.ret ?_
    refine PK.ret ?_
    refine leaf (val0 := vI (chkC (List.getD l k z3))) (by kernel_rfl) ?_
    exact li (by (exact (chkS_bad h1 (hI0.2.trans (badC_no (by omega) h3)) h3).symm))
   ·
    refine At rfl ?_
    refine NR ⟨[(0, vL eC l), (12, vL eC l), (13, vI l.length), (14, vI k)], []⟩ (sb rfl rfl rfl) rfl ?_
    refine RO (Body.add rfl rfl (by unfold R64; omega)) ?_
    refine mv rfl ?_
    refine RN ?_
    refine Aq rfl ?_
    refine PK.lp ?_
    refine LP.mk (k + 1) ?_ ?_ (sb rfl rfl rfl)
    · show (k + 1) ≤ l.length ∧ badC l = badC (List.drop (k + 1) l)
      exact ⟨by omega, hI0.2.trans (badC_ok (by omega) (Decidable.not_not.1 h3))⟩
    · show l.length - (k + 1) < l.length - k
      omega
  ·
   refine At rfl ?_
   refine TK.exit ?_
   refine PK.exit rfl ?_
   refine Ap rfl ?_
   refine TK.norm ⟨[(0, vL eC l)], []⟩ (sb rfl rfl rfl) ?_
   have hb0 : badC l = 0 := hI0.2.trans (bad_end (by omega))
   have hc := badC_all hb0
   refine TK.rg (Y := tab) mixed rfl ?_
   refine ag rfl ?_
   refine RN ?_
   refine Ap rfl ?_
   refine NR ⟨[(0, vL eC l), (6, vI 0)], []⟩ (sb rfl rfl rfl) rfl ?_
   refine mv rfl ?_
   refine RO (Body.lenL rfl un82) ?_
   refine mv rfl ?_
   refine RN ?_
   refine Ap rfl ?_
   refine TK.loop (α := Nat × Nat) (fun x => ⟨[(0, vL eC l), (6, vI ((x.2 : Nat) : Int)), (24, vL eC l), (25, vI l.length), (26, vI ((x.1 : Nat) : Int))], []⟩) (fun x => x.1 ≤ l.length ∧ x.2 ≤ 4 ∧ depC 0 l = depC x.2 (List.drop x.1 l)) (fun x => l.length - x.1) (0, 0) ?_ (sb rfl rfl rfl) ?_
   · show 0 ≤ l.length ∧ 0 ≤ 4 ∧ depC 0 l = depC 0 (List.drop 0 l)
     exact ⟨Nat.zero_le _, by omega, rfl⟩
   rintro ⟨k, d⟩ hI1
   replace hI1 : k ≤ l.length ∧ d ≤ 4 ∧ depC 0 l = depC d (List.drop k l) := hI1
   show TK _ _ _ _ _ _ ⟨[(0, vL eC l), (6, vI d), (24, vL eC l), (25, vI l.length), (26, vI k)], []⟩
   refine At rfl ?_
   refine NR ⟨[(0, vL eC l), (6, vI d), (24, vL eC l), (25, vI l.length), (26, vI k)], []⟩ (sb rfl rfl rfl) rfl ?_
   refine RO (Body.lss rfl rfl) ?_
   refine RN ?_
   refine Ap rfl ?_
   refine TK.norm ⟨[(0, vL eC l), (6, vI d), (24, vL eC l), (25, vI l.length), (26, vI k), (27, vB (decide ((k : Int) < (l.length : Int))))], []⟩ (sb rfl rfl rfl) ?_
   refine TK.condP rfl (fun h4 => ?_) (fun h4 => ?_)
   ·
    refine At rfl ?_
    refine NR ⟨[(0, vL eC l), (6, vI d), (24, vL eC l), (25, vI l.length), (26, vI k)], []⟩ (sb rfl rfl rfl) rfl ?_
    refine RO (Body.idx (z := z3) (i := k) rfl rfl un82 sz116 (fun _ => rfl) rfl (by omega)) ?_
    refine RO (Body.loadA (ds := [pS (bsO (List.getD l k z3).1), pS (bsO (Prod.fst (Prod.snd (List.getD l k z3)))), pI (Prod.snd (Prod.snd (List.getD l k z3)))]) rfl ag116 sz116 (Nat.le_of_ble_eq_true rfl) rfl) ?_
    refine rn rfl ?_
    refine rn rfl ?_
    refine RN ?_
    refine Ap rfl ?_
    refine NR ⟨[(0, vL eC l), (6, vI d), (8, .bref 9 0), (24, vL eC l), (25, vI l.length), (26, vI k)], [(9, .box 116 [vS (bsO (List.getD l k z3).1), vS (bsO (Prod.fst (Prod.snd (List.getD l k z3)))), vI (Prod.snd (Prod.snd (List.getD l k z3)))])]⟩ (sb rfl rfl rfl) rfl ?_
    refine RO (Body.fadB rfl fa116_0 rfl) ?_
    refine RO (Body.loadB rfl rfl rfl ag9 sz9 rfl) ?_
    refine RN ?_
    refine Ap rfl ?_
    refine NR ⟨[(0, vL eC l), (6, vI d), (24, vL eC l), (25, vI l.length), (26, vI k), (31, vS (bsO (List.getD l k z3).1))], []⟩ (sb rfl rfl rfl) rfl ?_
    refine RO (Body.seqB (a := (List.getD l k z3).1) (b := [114, 101, 112, 101, 97, 116]) rfl rfl) ?_
    refine ag rfl ?_
    refine RN ?_
    refine Ap rfl ?_
    refine TK.norm ⟨[(0, vL eC l), (6, vI d), (24, vL eC l), (25, vI l.length), (26, vI k), (31, vS (bsO (List.getD l k z3).1)), (32, vB (decide ((List.getD l k z3).1 = [114, 101, 112, 101, 97, 116])))], []⟩ (sb rfl rfl rfl) ?_
    refine TK.condP rfl (fun h5 => ?_) (fun h5 => ?_)
    ·
     refine At rfl ?_
     refine NR ⟨[(0, vL eC l), (6, vI d), (24, vL eC l), (25, vI l.length), (26, vI k)], []⟩ (sb rfl rfl rfl) rfl ?_
     refine mv rfl ?_
     refine RO (Body.eql rfl rfl) ?_
     refine RN ?_
     refine Ap rfl ?_
     refine TK.norm ⟨[(0, vL eC l), (6, vI d), (24, vL eC l), (25, vI l.length), (26, vI k), (35, vB (decide ((d : Int) = 4)))], []⟩ (sb rfl rfl rfl) ?_
     refine TK.condP rfl (fun h6 => ?_) (fun h6 => ?_)
     ·
      refine At rfl ?_
      refine NR ⟨[], []⟩ (sb rfl rfl rfl) rfl ?_
      refine ag rfl ?_
      refine RN ?_
      refine Ap rfl ?_
      refine TK.ret ?_
      refine PK.ret ?_
      refine leaf (val0 := vI 22) (by kernel_rfl) ?_
      exact li (by (exact (chkS_dep h1 hb0 (hI1.2.2.trans ((dep_rep (by omega) (by assumption)).trans (if_pos (by omega)))) (by decide)).symm))
     ·
      refine At rfl ?_
      refine NR ⟨[(0, vL eC l), (6, vI d), (24, vL eC l), (25, vI l.length), (26, vI k)], []⟩ (sb rfl rfl rfl) rfl ?_
      refine mv rfl ?_
      refine RO (Body.add rfl rfl (by unfold R64; omega)) ?_
      refine ag rfl ?_
      refine RN ?_
      refine Ap rfl ?_
      refine NR ⟨[(0, vL eC l), (6, vI ((d : Int) + 1)), (24, vL eC l), (25, vI l.length), (26, vI k)], []⟩ (sb rfl rfl rfl) rfl ?_
      refine RO (Body.add rfl rfl (by unfold R64; omega)) ?_
      refine mv rfl ?_
      refine RN ?_
      refine Aq rfl ?_
      refine PK.lp ?_
      refine LP.mk ((k + 1), (d + 1)) ?_ ?_ (sb rfl rfl rfl)
      · show (k + 1) ≤ l.length ∧ (d + 1) ≤ 4 ∧ depC 0 l = depC (d + 1) (List.drop (k + 1) l)
        exact ⟨by omega, by omega, hI1.2.2.trans ((dep_rep (by omega) (by assumption)).trans (if_neg (by omega)))⟩
      · show l.length - (k + 1) < l.length - k
        omega
    ·
     refine At rfl ?_
     refine NR ⟨[(0, vL eC l), (6, vI d), (24, vL eC l), (25, vI l.length), (26, vI k), (31, vS (bsO (List.getD l k z3).1))], []⟩ (sb rfl rfl rfl) rfl ?_
     refine RO (Body.seqB (a := (List.getD l k z3).1) (b := [101, 110, 100]) rfl rfl) ?_
     refine ag rfl ?_
     refine RN ?_
     refine Ap rfl ?_
     refine TK.norm ⟨[(0, vL eC l), (6, vI d), (24, vL eC l), (25, vI l.length), (26, vI k), (38, vB (decide ((List.getD l k z3).1 = [101, 110, 100])))], []⟩ (sb rfl rfl rfl) ?_
     refine TK.condP rfl (fun h7 => ?_) (fun h7 => ?_)
     ·
      refine At rfl ?_
      refine NR ⟨[(0, vL eC l), (6, vI d), (24, vL eC l), (25, vI l.length), (26, vI k)], []⟩ (sb rfl rfl rfl) rfl ?_
      refine mv rfl ?_
      refine RO (Body.eql rfl rfl) ?_
      refine RN ?_
      refine Ap rfl ?_
      refine TK.norm ⟨[(0, vL eC l), (6, vI d), (24, vL eC l), (25, vI l.length), (26, vI k), (41, vB (decide ((d : Int) = 0)))], []⟩ (sb rfl rfl rfl) ?_
      refine TK.condP rfl (fun h8 => ?_) (fun h8 => ?_)
      ·
       refine At rfl ?_
       refine NR ⟨[], []⟩ (sb rfl rfl rfl) rfl ?_
       refine ag rfl ?_
       refine RN ?_
       refine Ap rfl ?_
       refine TK.ret ?_
       refine PK.ret ?_
       refine leaf (val0 := vI 2) (by kernel_rfl) ?_
       exact li (by (exact (chkS_dep h1 hb0 (hI1.2.2.trans ((dep_end (by omega) (by assumption)).trans (if_pos (by omega)))) (by decide)).symm))
      ·
       refine At rfl ?_
       refine NR ⟨[(0, vL eC l), (6, vI d), (24, vL eC l), (25, vI l.length), (26, vI k)], []⟩ (sb rfl rfl rfl) rfl ?_
       refine mv rfl ?_
       refine RO (Body.sub rfl rfl (by unfold R64; omega)) ?_
       refine ag rfl ?_
       refine RN ?_
       refine Ap rfl ?_
       refine TK.norm ⟨[(0, vL eC l), (6, vI ((d : Int) - 1)), (24, vL eC l), (25, vI l.length), (26, vI k)], []⟩ (sb rfl rfl rfl) ?_
       rw [show (d : Int) - 1 = (((d - 1) : Nat) : Int) by omega]
       refine TK.rg (Y := tab) mixed rfl ?_
       refine RO (Body.add rfl rfl (by unfold R64; omega)) ?_
       refine mv rfl ?_
       refine RN ?_
       refine Aq rfl ?_
       refine PK.lp ?_
       refine LP.mk ((k + 1), (d - 1)) ?_ ?_ (sb rfl rfl rfl)
       · show (k + 1) ≤ l.length ∧ (d - 1) ≤ 4 ∧ depC 0 l = depC (d - 1) (List.drop (k + 1) l)
         exact ⟨by omega, by omega, hI1.2.2.trans ((dep_end (by omega) (by assumption)).trans (if_neg (by omega)))⟩
       · show l.length - (k + 1) < l.length - k
         omega
     ·
      refine At rfl ?_
      refine NR ⟨[(0, vL eC l), (6, vI d), (24, vL eC l), (25, vI l.length), (26, vI k)], []⟩ (sb rfl rfl rfl) rfl ?_
      refine RO (Body.add rfl rfl (by unfold R64; omega)) ?_
      refine mv rfl ?_
      refine RN ?_
      refine Aq rfl ?_
      refine PK.lp ?_
      refine LP.mk ((k + 1), d) ?_ ?_ (sb rfl rfl rfl)
      · show (k + 1) ≤ l.length ∧ d ≤ 4 ∧ depC 0 l = depC d (List.drop (k + 1) l)
        exact ⟨by omega, by omega, hI1.2.2.trans (dep_one (by omega) (by assumption) (by assumption))⟩
      · show l.length - (k + 1) < l.length - k
        omega
   ·
    refine At rfl ?_
    refine TK.exit ?_
    refine PK.exit rfl ?_
    refine Ap rfl ?_
    refine TK.norm ⟨[(0, vL eC l), (6, vI d)], []⟩ (sb rfl rfl rfl) ?_
    have hd0 : depC 0 l = if 0 < d then 2 else 0 := hI1.2.2.trans (dep_nil (by omega))
    refine TK.rg (Y := tab) mixed rfl ?_
    refine mv rfl ?_
    refine RO (Body.gtr rfl rfl) ?_
    refine RN ?_
    refine Ap rfl ?_
    refine TK.norm ⟨[(0, vL eC l), (46, vB (decide (0 < (d : Int))))], []⟩ (sb rfl rfl rfl) ?_
    refine TK.condP rfl (fun h9 => ?_) (fun h9 => ?_)
    ·
     refine At rfl ?_
     refine NR ⟨[], []⟩ (sb rfl rfl rfl) rfl ?_
     refine ag rfl ?_
     refine RN ?_
     refine Ap rfl ?_
     refine TK.ret ?_
     refine PK.ret ?_
     refine leaf (val0 := vI 2) (by kernel_rfl) ?_
     exact li (by (exact (chkS_dep h1 hb0 (hd0.trans (if_pos (by omega))) (by decide)).symm))
    ·
     refine At rfl ?_
     refine TK.norm ⟨[(0, vL eC l)], []⟩ (sb rfl rfl rfl) ?_
     have hd : depC 0 l = 0 := hd0.trans (if_neg (by omega))
     refine TK.rg (Y := tab) mixed rfl ?_
     refine mv rfl ?_
     refine RO (Body.call (w137 l hc (by omega) hd) rfl rfl rfl) ?_
     refine RO (Body.gtr rfl rfl) ?_
     refine RO (Body.call (w101 (decide (10000 < (lenP l))) 22) rfl rfl rfl) ?_
     refine ag rfl ?_
     refine RN ?_
     refine Ap rfl ?_
     refine TK.ret ?_
     refine PK.ret ?_
     refine leaf (val0 := vI (whenF (decide (10000 < (lenP l))) 22)) (by kernel_rfl) ?_
     exact li (by (exact (chkS_len h1 hb0 hd).symm))
set_option maxHeartbeats 4000000 in
theorem w56 (l : List Cmd) (hl : l.length ≤ 1000000000000000) : CallOk Tryz.prog 56 [vL eC l] (lookM []) (vI (chkS l)) [] := by
 haveI := tab_ok
 obtain ⟨fn, f1, f2, f3, f4, _, f6⟩ := qf56
 refine callOk_of (Y := tab) (F := fn56) f1 (f2.trans rfl) f3 f4 f6 (Nat.le_of_ble_eq_true rfl) rfl ?_
 clear f1 f2 f3 f4 f6
 show TK _ _ _ _ _ _ ⟨[(0, vL eC l)], []⟩
 refine At rfl ?_
 refine NR ⟨[(0, vL eC l)], []⟩ (sb rfl rfl rfl) rfl ?_
 refine ag rfl ?_
 refine RN ?_
 refine Ap rfl ?_
 refine NR ⟨[(0, vL eC l)], []⟩ (sb rfl rfl rfl) rfl ?_
 refine mv rfl ?_
 refine RO (Body.lenL rfl un83) ?_
 refine RO (Body.gtr rfl rfl) ?_
 refine RN ?_
 refine Ap rfl ?_
 refine TK.norm ⟨[(0, vL eC l), (9, vB (decide (64 < (l.length : Int))))], []⟩ (sb rfl rfl rfl) ?_
 refine TK.condP rfl (fun h1 => ?_) (fun h1 => ?_)
 ·
  refine At rfl ?_
  refine NR ⟨[], []⟩ (sb rfl rfl rfl) rfl ?_
  refine ag rfl ?_
  refine RN ?_
  refine Ap rfl ?_
  refine TK.ret ?_
  refine PK.ret ?_
  refine leaf (val0 := vI 5) (by kernel_rfl) ?_
  exact li (by (exact (chkS_many h1).symm))
 ·
  refine At rfl ?_
  refine NR ⟨[(0, vL eC l)], []⟩ (sb rfl rfl rfl) rfl ?_
  refine ag rfl ?_
  refine RN ?_
  refine Ap rfl ?_
  refine TK.loop (α := Nat) (fun x => ⟨[(0, vL eC l), (3, vI x)], []⟩) (fun x => x ≤ l.length ∧ badC l = badC (List.drop x l)) (fun x => l.length - x) 0 ?_ (sb rfl rfl rfl) ?_
  · show 0 ≤ l.length ∧ badC l = badC (List.drop 0 l)
    exact ⟨Nat.zero_le _, rfl⟩
  rintro k hI0
  replace hI0 : k ≤ l.length ∧ badC l = badC (List.drop k l) := hI0
  show TK _ _ _ _ _ _ ⟨[(0, vL eC l), (3, vI k)], []⟩
  refine At rfl ?_
  refine NR ⟨[(0, vL eC l), (3, vI k)], []⟩ (sb rfl rfl rfl) rfl ?_
  refine mv rfl ?_
  refine mv rfl ?_
  refine RO (Body.lenL rfl un83) ?_
  refine RO (Body.lss rfl rfl) ?_
  refine RN ?_
  refine Ap rfl ?_
  refine TK.norm ⟨[(0, vL eC l), (3, vI k), (13, vB (decide ((k : Int) < (l.length : Int))))], []⟩ (sb rfl rfl rfl) ?_
  refine TK.condP rfl (fun h2 => ?_) (fun h2 => ?_)
  ·
   refine At rfl ?_
   refine NR ⟨[(0, vL eC l), (3, vI k)], []⟩ (sb rfl rfl rfl) rfl ?_
   refine mv rfl ?_
   refine mv rfl ?_
   refine RO (Body.idx (z := z3) (i := k) rfl rfl un83 sz115 (fun _ => rfl) rfl (by omega)) ?_
   refine RO (Body.loadA (ds := [pS (bsO (List.getD l k z3).1), pS (bsO (Prod.fst (Prod.snd (List.getD l k z3)))), pI (Prod.snd (Prod.snd (List.getD l k z3)))]) rfl ag115 sz115 (Nat.le_of_ble_eq_true rfl) rfl) ?_
   refine RO (Body.call (w130 (List.getD l k z3)) rfl rfl rfl) ?_
   refine ag rfl ?_
   refine RN ?_
   refine Ap rfl ?_
   refine NR ⟨[(0, vL eC l), (3, vI k), (4, vI (chkC (List.getD l k z3)))], []⟩ (sb rfl rfl rfl) rfl ?_
   refine mv rfl ?_
   refine RO (Body.neq rfl rfl) ?_
   refine RN ?_
   refine Ap rfl ?_
   refine TK.norm ⟨[(0, vL eC l), (3, vI k), (4, vI (chkC (List.getD l k z3))), (22, vB (decide ((chkC (List.getD l k z3)) ≠ 0)))], []⟩ (sb rfl rfl rfl) ?_
   refine TK.condP rfl (fun h3 => ?_) (fun h3 => ?_)
   ·
    refine At rfl ?_
    refine NR ⟨[(4, vI (chkC (List.getD l k z3)))], []⟩ (sb rfl rfl rfl) rfl ?_
    refine mv rfl ?_
    refine ag rfl ?_
    refine RN ?_
    refine Ap rfl ?_
    refine TK.ret ?_
    refine PK.ret ?_
    refine leaf (val0 := vI (chkC (List.getD l k z3))) (by kernel_rfl) ?_
    exact li (by (exact (chkS_bad h1 (hI0.2.trans (badC_no (by omega) h3)) h3).symm))
   ·
    refine At rfl ?_
    refine NR ⟨[(0, vL eC l), (3, vI k)], []⟩ (sb rfl rfl rfl) rfl ?_
    refine mv rfl ?_
    refine RO (Body.add rfl rfl (by unfold R64; omega)) ?_
    refine ag rfl ?_
    refine RN ?_
    refine Aq rfl ?_
    refine PK.lp ?_
    refine LP.mk (k + 1) ?_ ?_ (sb rfl rfl rfl)
    · show (k + 1) ≤ l.length ∧ badC l = badC (List.drop (k + 1) l)
      exact ⟨by omega, hI0.2.trans (badC_ok (by omega) (Decidable.not_not.1 h3))⟩
    · show l.length - (k + 1) < l.length - k
      omega
  ·
   refine At rfl ?_
   refine TK.exit ?_
   refine PK.exit rfl ?_
   refine Ap rfl ?_
   refine TK.norm ⟨[(0, vL eC l)], []⟩ (sb rfl rfl rfl) ?_
   have hb0 : badC l = 0 := hI0.2.trans (bad_end (by omega))
   have hc := badC_all hb0
   refine TK.rg (Y := tab) mixed rfl ?_
   refine ag rfl ?_
   refine RN ?_
   refine Ap rfl ?_
   refine NR ⟨[(0, vL eC l), (5, vI 0)], []⟩ (sb rfl rfl rfl) rfl ?_
   refine ag rfl ?_
   refine RN ?_
   refine Ap rfl ?_
   refine TK.loop (α := Nat × Nat) (fun x => ⟨[(0, vL eC l), (5, vI ((x.2 : Nat) : Int)), (6, vI ((x.1 : Nat) : Int))], []⟩) (fun x => x.1 ≤ l.length ∧ x.2 ≤ 4 ∧ depC 0 l = depC x.2 (List.drop x.1 l)) (fun x => l.length - x.1) (0, 0) ?_ (sb rfl rfl rfl) ?_
   · show 0 ≤ l.length ∧ 0 ≤ 4 ∧ depC 0 l = depC 0 (List.drop 0 l)
     exact ⟨Nat.zero_le _, by omega, rfl⟩
   rintro ⟨k, d⟩ hI1
   replace hI1 : k ≤ l.length ∧ d ≤ 4 ∧ depC 0 l = depC d (List.drop k l) := hI1
   show TK _ _ _ _ _ _ ⟨[(0, vL eC l), (5, vI d), (6, vI k)], []⟩
   refine At rfl ?_
   refine NR ⟨[(0, vL eC l), (5, vI d), (6, vI k)], []⟩ (sb rfl rfl rfl) rfl ?_
   refine mv rfl ?_
   refine mv rfl ?_
   refine RO (Body.lenL rfl un83) ?_
   refine RO (Body.lss rfl rfl) ?_
   refine RN ?_
   refine Ap rfl ?_
   refine TK.norm ⟨[(0, vL eC l), (5, vI d), (6, vI k), (27, vB (decide ((k : Int) < (l.length : Int))))], []⟩ (sb rfl rfl rfl) ?_
   refine TK.condP rfl (fun h4 => ?_) (fun h4 => ?_)
   ·
    refine At rfl ?_
    refine NR ⟨[(0, vL eC l), (5, vI d), (6, vI k)], []⟩ (sb rfl rfl rfl) rfl ?_
    refine mv rfl ?_
    refine mv rfl ?_
    refine RO (Body.idx (z := z3) (i := k) rfl rfl un83 sz115 (fun _ => rfl) rfl (by omega)) ?_
    refine RO (Body.fadP rfl fa115_0 rfl) ?_
    refine RO (Body.loadP rfl ag9 sz9) ?_
    refine RO (Body.seqB (a := (List.getD l k z3).1) (b := [101, 110, 100]) rfl rfl) ?_
    refine RN ?_
    refine Ap rfl ?_
    refine TK.norm ⟨[(0, vL eC l), (5, vI d), (6, vI k), (35, vB (decide ((List.getD l k z3).1 = [101, 110, 100])))], []⟩ (sb rfl rfl rfl) ?_
    refine TK.condP rfl (fun h5 => ?_) (fun h5 => ?_)
    ·
     refine At rfl ?_
     refine NR ⟨[(0, vL eC l), (5, vI d), (6, vI k)], []⟩ (sb rfl rfl rfl) rfl ?_
     refine mv rfl ?_
     refine RO (Body.eql rfl rfl) ?_
     refine RN ?_
     refine Ap rfl ?_
     refine TK.norm ⟨[(0, vL eC l), (5, vI d), (6, vI k), (37, vB (decide ((d : Int) = 0)))], []⟩ (sb rfl rfl rfl) ?_
     refine TK.condP rfl (fun h6 => ?_) (fun h6 => ?_)
     ·
      refine At rfl ?_
      refine NR ⟨[], []⟩ (sb rfl rfl rfl) rfl ?_
      refine ag rfl ?_
      refine RN ?_
      refine Ap rfl ?_
      refine TK.ret ?_
      refine PK.ret ?_
      refine leaf (val0 := vI 2) (by kernel_rfl) ?_
      exact li (by (exact (chkS_dep h1 hb0 (hI1.2.2.trans ((dep_end (by omega) (by assumption)).trans (if_pos (by omega)))) (by decide)).symm))
     ·
      refine At rfl ?_
      refine NR ⟨[(0, vL eC l), (5, vI d), (6, vI k)], []⟩ (sb rfl rfl rfl) rfl ?_
      refine mv rfl ?_
      refine RO (Body.sub rfl rfl (by unfold R64; omega)) ?_
      refine ag rfl ?_
      refine RN ?_
      refine Ap rfl ?_
      refine TK.norm ⟨[(0, vL eC l), (5, vI ((d : Int) - 1)), (6, vI k)], []⟩ (sb rfl rfl rfl) ?_
      rw [show (d : Int) - 1 = (((d - 1) : Nat) : Int) by omega]
      refine TK.rg (Y := tab) mixed rfl ?_
      refine mv rfl ?_
      refine mv rfl ?_
      refine RO (Body.idx (z := z3) (i := k) rfl rfl un83 sz115 (fun _ => rfl) rfl (by omega)) ?_
      refine RO (Body.fadP rfl fa115_0 rfl) ?_
      refine RO (Body.loadP rfl ag9 sz9) ?_
      refine RO (Body.seqB (a := (List.getD l k z3).1) (b := [114, 101, 112, 101, 97, 116]) rfl rfl) ?_
      refine RN ?_
      refine Ap rfl ?_
      refine TK.norm ⟨[(0, vL eC l), (5, vI (((d - 1) : Nat) : Int)), (6, vI k), (45, vB (decide ((List.getD l k z3).1 = [114, 101, 112, 101, 97, 116])))], []⟩ (sb rfl rfl rfl) ?_
      refine TK.condP rfl (fun h7 => ?_) (fun h7 => ?_)
      ·
       refine At rfl ?_
       refine NR ⟨[(0, vL eC l), (5, vI (((d - 1) : Nat) : Int)), (6, vI k)], []⟩ (sb rfl rfl rfl) rfl ?_
       refine mv rfl ?_
       refine RO (Body.eql rfl rfl) ?_
       refine RN ?_
       refine Ap rfl ?_
       refine TK.norm ⟨[(0, vL eC l), (5, vI (((d - 1) : Nat) : Int)), (6, vI k), (47, vB (decide ((((d - 1) : Nat) : Int) = 4)))], []⟩ (sb rfl rfl rfl) ?_
       refine TK.condP rfl (fun h8 => ?_) (fun h8 => ?_)
       ·
        refine At rfl ?_
        refine NR ⟨[], []⟩ (sb rfl rfl rfl) rfl ?_
        refine ag rfl ?_
        refine RN ?_
        refine Ap rfl ?_
        refine TK.ret ?_
        refine PK.ret ?_
        refine leaf (val0 := vI 22) (by kernel_rfl) ?_
        exact li (by (exact (chkS_dep h1 hb0 (hI1.2.2.trans ((dep_rep (by omega) (by assumption)).trans (if_pos (by omega)))) (by decide)).symm))
       ·
        refine At rfl ?_
        refine NR ⟨[(0, vL eC l), (5, vI (((d - 1) : Nat) : Int)), (6, vI k)], []⟩ (sb rfl rfl rfl) rfl ?_
        refine mv rfl ?_
        refine RO (Body.add rfl rfl (by unfold R64; omega)) ?_
        refine ag rfl ?_
        refine RN ?_
        refine Ap rfl ?_
        refine NR ⟨[(0, vL eC l), (5, vI ((((d - 1) : Nat) : Int) + 1)), (6, vI k)], []⟩ (sb rfl rfl rfl) rfl ?_
        refine mv rfl ?_
        refine RO (Body.add rfl rfl (by unfold R64; omega)) ?_
        refine ag rfl ?_
        refine RN ?_
        refine Aq rfl ?_
        refine PK.lp ?_
        refine LP.mk ((k + 1), ((d - 1) + 1)) ?_ ?_ (sb rfl rfl rfl)
        · show (k + 1) ≤ l.length ∧ ((d - 1) + 1) ≤ 4 ∧ depC 0 l = depC ((d - 1) + 1) (List.drop (k + 1) l)
          exact absurd (Eq.trans (Eq.symm (by assumption)) (by assumption)) rep_end
        · show l.length - (k + 1) < l.length - k
          omega
      ·
       refine At rfl ?_
       refine NR ⟨[(0, vL eC l), (5, vI (((d - 1) : Nat) : Int)), (6, vI k)], []⟩ (sb rfl rfl rfl) rfl ?_
       refine mv rfl ?_
       refine RO (Body.add rfl rfl (by unfold R64; omega)) ?_
       refine ag rfl ?_
       refine RN ?_
       refine Aq rfl ?_
       refine PK.lp ?_
       refine LP.mk ((k + 1), (d - 1)) ?_ ?_ (sb rfl rfl rfl)
       · show (k + 1) ≤ l.length ∧ (d - 1) ≤ 4 ∧ depC 0 l = depC (d - 1) (List.drop (k + 1) l)
         exact ⟨by omega, by omega, hI1.2.2.trans ((dep_end (by omega) (by assumption)).trans (if_neg (by omega)))⟩
       · show l.length - (k + 1) < l.length - k
         omega
    ·
     refine At rfl ?_
     refine NR ⟨[(0, vL eC l), (5, vI d), (6, vI k)], []⟩ (sb rfl rfl rfl) rfl ?_
     refine mv rfl ?_
     refine mv rfl ?_
     refine RO (Body.idx (z := z3) (i := k) rfl rfl un83 sz115 (fun _ => rfl) rfl (by omega)) ?_
     refine RO (Body.fadP rfl fa115_0 rfl) ?_
     refine RO (Body.loadP rfl ag9 sz9) ?_
     refine RO (Body.seqB (a := (List.getD l k z3).1) (b := [114, 101, 112, 101, 97, 116]) rfl rfl) ?_
     refine RN ?_
     refine Ap rfl ?_
     refine TK.norm ⟨[(0, vL eC l), (5, vI d), (6, vI k), (45, vB (decide ((List.getD l k z3).1 = [114, 101, 112, 101, 97, 116])))], []⟩ (sb rfl rfl rfl) ?_
     refine TK.condP rfl (fun h9 => ?_) (fun h9 => ?_)
     ·
      refine At rfl ?_
      refine NR ⟨[(0, vL eC l), (5, vI d), (6, vI k)], []⟩ (sb rfl rfl rfl) rfl ?_
      refine mv rfl ?_
      refine RO (Body.eql rfl rfl) ?_
      refine RN ?_
      refine Ap rfl ?_
      refine TK.norm ⟨[(0, vL eC l), (5, vI d), (6, vI k), (47, vB (decide ((d : Int) = 4)))], []⟩ (sb rfl rfl rfl) ?_
      refine TK.condP rfl (fun h10 => ?_) (fun h10 => ?_)
      ·
       refine At rfl ?_
       refine NR ⟨[], []⟩ (sb rfl rfl rfl) rfl ?_
       refine ag rfl ?_
       refine RN ?_
       refine Ap rfl ?_
       refine TK.ret ?_
       refine PK.ret ?_
       refine leaf (val0 := vI 22) (by kernel_rfl) ?_
       exact li (by (exact (chkS_dep h1 hb0 (hI1.2.2.trans ((dep_rep (by omega) (by assumption)).trans (if_pos (by omega)))) (by decide)).symm))
      ·
       refine At rfl ?_
       refine NR ⟨[(0, vL eC l), (5, vI d), (6, vI k)], []⟩ (sb rfl rfl rfl) rfl ?_
       refine mv rfl ?_
       refine RO (Body.add rfl rfl (by unfold R64; omega)) ?_
       refine ag rfl ?_
       refine RN ?_
       refine Ap rfl ?_
       refine NR ⟨[(0, vL eC l), (5, vI ((d : Int) + 1)), (6, vI k)], []⟩ (sb rfl rfl rfl) rfl ?_
       refine mv rfl ?_
       refine RO (Body.add rfl rfl (by unfold R64; omega)) ?_
       refine ag rfl ?_
       refine RN ?_
       refine Aq rfl ?_
       refine PK.lp ?_
       refine LP.mk ((k + 1), (d + 1)) ?_ ?_ (sb rfl rfl rfl)
       · show (k + 1) ≤ l.length ∧ (d + 1) ≤ 4 ∧ depC 0 l = depC (d + 1) (List.drop (k + 1) l)
         exact ⟨by omega, by omega, hI1.2.2.trans ((dep_rep (by omega) (by assumption)).trans (if_neg (by omega)))⟩
       · show l.length - (k + 1) < l.length - k
         omega
     ·
      refine At rfl ?_
      refine NR ⟨[(0, vL eC l), (5, vI d), (6, vI k)], []⟩ (sb rfl rfl rfl) rfl ?_
      refine mv rfl ?_
      refine RO (Body.add rfl rfl (by unfold R64; omega)) ?_
      refine ag rfl ?_
      refine RN ?_
      refine Aq rfl ?_
      refine PK.lp ?_
      refine LP.mk ((k + 1), d) ?_ ?_ (sb rfl rfl rfl)
      · show (k + 1) ≤ l.length ∧ d ≤ 4 ∧ depC 0 l = depC d (List.drop (k + 1) l)
        exact ⟨by omega, by omega, hI1.2.2.trans (dep_one (by omega) (by assumption) (by assumption))⟩
      · show l.length - (k + 1) < l.length - k
        omega
   ·
    refine At rfl ?_
    refine TK.exit ?_
    refine PK.exit rfl ?_
    refine Ap rfl ?_
    refine TK.norm ⟨[(0, vL eC l), (5, vI d)], []⟩ (sb rfl rfl rfl) ?_
    have hd0 : depC 0 l = if 0 < d then 2 else 0 := hI1.2.2.trans (dep_nil (by omega))
    refine TK.rg (Y := tab) mixed rfl ?_
    refine mv rfl ?_
    refine RO (Body.gtr rfl rfl) ?_
    refine RN ?_
    refine Ap rfl ?_
    refine TK.norm ⟨[(0, vL eC l), (51, vB (decide (0 < (d : Int))))], []⟩ (sb rfl rfl rfl) ?_
    refine TK.condP rfl (fun h11 => ?_) (fun h11 => ?_)
    ·
     refine At rfl ?_
     refine NR ⟨[], []⟩ (sb rfl rfl rfl) rfl ?_
     refine ag rfl ?_
     refine RN ?_
     refine Ap rfl ?_
     refine TK.ret ?_
     refine PK.ret ?_
     refine leaf (val0 := vI 2) (by kernel_rfl) ?_
     exact li (by (exact (chkS_dep h1 hb0 (hd0.trans (if_pos (by omega))) (by decide)).symm))
    ·
     refine At rfl ?_
     refine TK.norm ⟨[(0, vL eC l)], []⟩ (sb rfl rfl rfl) ?_
     have hd : depC 0 l = 0 := hd0.trans (if_neg (by omega))
     refine TK.rg (Y := tab) mixed rfl ?_
     refine mv rfl ?_
     refine RO (Body.call (w61s (by omega) hc hd) rfl rfl rfl) ?_
     refine RO (Body.gtr rfl rfl) ?_
     refine RN ?_
     refine Ap rfl ?_
     refine TK.norm ⟨[(54, vB (decide (10000 < (lenP l))))], []⟩ (sb rfl rfl rfl) ?_
     refine TK.condP rfl (fun h12 => ?_) (fun h12 => ?_)
     ·
      refine At rfl ?_
      refine NR ⟨[], []⟩ (sb rfl rfl rfl) rfl ?_
      refine ag rfl ?_
      refine RN ?_
      refine Ap rfl ?_
      refine TK.ret ?_
      refine PK.ret ?_
      refine leaf (val0 := vI 22) (by kernel_rfl) ?_
      exact li (by (rw [chkS_len h1 hb0 hd, whenF, decide_eq_true (by assumption)]; rfl))
     ·
      refine At rfl ?_
      refine NR ⟨[], []⟩ (sb rfl rfl rfl) rfl ?_
      refine ag rfl ?_
      refine RN ?_
      refine Ap rfl ?_
      refine TK.ret ?_
      refine PK.ret ?_
      refine leaf (val0 := vI 0) (by kernel_rfl) ?_
      exact li (by (rw [chkS_len h1 hb0 hd, whenF, decide_eq_false (by assumption)]; rfl))
set_option maxHeartbeats 4000000 in
theorem w47 (l : List Cmd) (n : Int) (hl : l.length ≤ 1000000000000000) : CallOk Tryz.prog 47 [vL eC l, vI n] (lookM []) (vB (shortS l n)) [] := by
 haveI := tab_ok
 obtain ⟨fn, f1, f2, f3, f4, _, f6⟩ := qf47
 refine callOk_of (Y := tab) (F := fn47) f1 (f2.trans rfl) f3 f4 f6 (Nat.le_of_ble_eq_true rfl) rfl ?_
 clear f1 f2 f3 f4 f6
 show TK _ _ _ _ _ _ ⟨[(0, vL eC l), (1, vI n)], []⟩
 refine At rfl ?_
 refine NR ⟨[(0, vL eC l), (1, vI n)], []⟩ (sb rfl rfl rfl) rfl ?_
 refine ag rfl ?_
 refine RN ?_
 refine Ap rfl ?_
 refine NR ⟨[(0, vL eC l), (1, vI n)], []⟩ (sb rfl rfl rfl) rfl ?_
 refine mv rfl ?_
 refine RO (Body.lenL rfl un83) ?_
 refine mv rfl ?_
 refine RO (Body.gtr rfl rfl) ?_
 refine mv rfl ?_
 refine RG.cons (EfR.sym rfl (fun hc => Body.move rfl) rfl) ?_
 refine RG.cons (EfR.sym rfl (fun hc => Body.lenL (ev1_gd rfl hc) un83) rfl) ?_
 refine RG.cons (EfR.sym rfl (fun hc => Body.leq (ev1_gd rfl hc) rfl) rfl) ?_
 refine RO (Body.pick rfl rfl rfl (gdB rfl) rfl (pick_and _)) ?_
 refine mv rfl ?_
 refine RG.cons (EfR.sym rfl (fun hc => Body.move rfl) rfl) ?_
 refine RG.cons (EfR.sym rfl (fun hc => Body.lenL (ev1_gd rfl hc) un83) rfl) ?_
 refine RG.cons (EfR.sym rfl (fun hc => Body.gtr (ev1_gd rfl hc) rfl) rfl) ?_
 refine RO (Body.pick rfl rfl rfl rfl (gdB rfl) (pick_or _)) ?_
 refine RN ?_
 refine Ap rfl ?_
 refine TK.norm ⟨[(0, vL eC l), (19, vB (bif (bif (decide (n < (l.length : Int))) then (decide ((l.length : Int) ≤ 64)) else false) then true else (decide (66 < (l.length : Int)))))], []⟩ (sb rfl rfl rfl) ?_
 refine TK.cond rfl (fun h1 => ?_) (fun h1 => ?_)
 ·
  refine At rfl ?_
  refine NR ⟨[], []⟩ (sb rfl rfl rfl) rfl ?_
  refine ag rfl ?_
  refine RN ?_
  refine Ap rfl ?_
  refine TK.ret ?_
  refine PK.ret ?_
  refine leaf (val0 := vB false) (by kernel_rfl) ?_
  exact lb (by exact (ss_many h1).symm)
 ·
  refine At rfl ?_
  refine NR ⟨[(0, vL eC l)], []⟩ (sb rfl rfl rfl) rfl ?_
  refine ag rfl ?_
  refine RN ?_
  refine Ap rfl ?_
  refine TK.loop (α := Nat) (fun x => ⟨[(0, vL eC l), (5, vI x)], []⟩) (fun x => x ≤ l.length ∧ ∀ j, j < x → (decide (List.length (List.getD l j z3).1 ≤ 40) && decide (List.length (List.getD l j z3).2.1 ≤ 40)) = true) (fun x => l.length - x) 0 ?_ (sb rfl rfl rfl) ?_
  · show 0 ≤ l.length ∧ ∀ j, j < 0 → (decide (List.length (List.getD l j z3).1 ≤ 40) && decide (List.length (List.getD l j z3).2.1 ≤ 40)) = true
    exact ⟨Nat.zero_le _, fun j hj => by omega⟩
  rintro k hI0
  replace hI0 : k ≤ l.length ∧ ∀ j, j < k → (decide (List.length (List.getD l j z3).1 ≤ 40) && decide (List.length (List.getD l j z3).2.1 ≤ 40)) = true := hI0
  show TK _ _ _ _ _ _ ⟨[(0, vL eC l), (5, vI k)], []⟩
  refine At rfl ?_
  refine NR ⟨[(0, vL eC l), (5, vI k)], []⟩ (sb rfl rfl rfl) rfl ?_
  refine mv rfl ?_
  refine mv rfl ?_
  refine RO (Body.lenL rfl un83) ?_
  refine RO (Body.lss rfl rfl) ?_
  refine RN ?_
  refine Ap rfl ?_
  refine TK.norm ⟨[(0, vL eC l), (5, vI k), (23, vB (decide ((k : Int) < (l.length : Int))))], []⟩ (sb rfl rfl rfl) ?_
  refine TK.condP rfl (fun h2 => ?_) (fun h2 => ?_)
  ·
   refine At rfl ?_
   refine NR ⟨[(0, vL eC l), (5, vI k)], []⟩ (sb rfl rfl rfl) rfl ?_
   refine mv rfl ?_
   refine mv rfl ?_
   refine RO (Body.idx (z := z3) (i := k) rfl rfl un83 sz115 (fun _ => rfl) rfl (by omega)) ?_
   refine RO (Body.fadP rfl fa115_0 rfl) ?_
   refine RO (Body.loadP rfl ag9 sz9) ?_
   refine RO (Body.lenB (a := (List.getD l k z3).1) rfl un9) ?_
   refine RO (Body.gtr rfl rfl) ?_
   refine mv rfl ?_
   refine RG.cons (EfR.sym rfl (fun hc => Body.move rfl) rfl) ?_
   refine RG.cons (EfR.sym rfl (fun hc => Body.move rfl) rfl) ?_
   refine RG.cons (EfR.sym rfl (fun hc => Body.idx (z := z3) (i := k) (ev1_gd rfl hc) (ev1_gd rfl hc) un83 sz115 (fun _ => rfl) rfl (by omega)) rfl) ?_
   refine RG.cons (EfR.sym rfl (fun hc => Body.fadP (ev1_gd rfl hc) fa115_1 rfl) rfl) ?_
   refine RG.cons (EfR.sym rfl (fun hc => Body.loadP (ev1_gd rfl hc) ag9 sz9) rfl) ?_
   refine RG.cons (EfR.sym rfl (fun hc => Body.lenB (a := (Prod.fst (Prod.snd (List.getD l k z3)))) (ev1_gd rfl hc) un9) rfl) ?_
   refine RG.cons (EfR.sym rfl (fun hc => Body.gtr (ev1_gd rfl hc) rfl) rfl) ?_
   refine RO (Body.pick rfl rfl rfl rfl (gdB rfl) (pick_or _)) ?_
   refine RN ?_
   refine Ap rfl ?_
   refine TK.norm ⟨[(0, vL eC l), (5, vI k), (41, vB (bif (decide (40 < ((List.length (List.getD l k z3).1 : Nat) : Int))) then true else (decide (40 < ((List.length (Prod.fst (Prod.snd (List.getD l k z3))) : Nat) : Int)))))], []⟩ (sb rfl rfl rfl) ?_
   refine TK.cond rfl (fun h3 => ?_) (fun h3 => ?_)
   ·
    refine At rfl ?_
    refine NR ⟨[], []⟩ (sb rfl rfl rfl) rfl ?_
    refine ag rfl ?_
    refine RN ?_
    refine Ap rfl ?_
    refine TK.ret ?_
    refine PK.ret ?_
    refine leaf (val0 := vB false) (by kernel_rfl) ?_
    exact lb (by exact (ss_no h1 (by omega) h3).symm)
   ·
    refine At rfl ?_
    refine NR ⟨[(0, vL eC l), (5, vI k)], []⟩ (sb rfl rfl rfl) rfl ?_
    refine mv rfl ?_
    refine RO (Body.add rfl rfl (by unfold R64; omega)) ?_
    refine ag rfl ?_
    refine RN ?_
    refine Aq rfl ?_
    refine PK.lp ?_
    refine LP.mk (k + 1) ?_ ?_ (sb rfl rfl rfl)
    · show (k + 1) ≤ l.length ∧ ∀ j, j < (k + 1) → (decide (List.length (List.getD l j z3).1 ≤ 40) && decide (List.length (List.getD l j z3).2.1 ≤ 40)) = true
      refine ⟨by omega, fun j hj => ?_⟩; rcases Nat.lt_succ_iff_lt_or_eq.1 hj with h | h; exact hI0.2 j h; subst h; exact ss_q h3
    · show l.length - (k + 1) < l.length - k
      omega
  ·
   refine At rfl ?_
   refine TK.exit ?_
   refine PK.exit rfl ?_
   refine Ap rfl ?_
   refine NR ⟨[(0, vL eC l)], []⟩ (sb rfl rfl rfl) rfl ?_
   refine mv rfl ?_
   refine RO (Body.call (w56 l (by omega)) rfl rfl rfl) ?_
   refine RO (Body.neq rfl rfl) ?_
   refine mv rfl ?_
   refine RG.cons (EfR.sym rfl (fun hc => Body.move rfl) rfl) ?_
   refine RG.cons (EfR.sym rfl (fun hc => Body.call (w61k (eqf hc)) rfl (ds1 (ev1_gd rfl hc)) rfl) rfl) ?_
   refine RG.cons (EfR.sym rfl (fun hc => Body.leq (ev1_gd rfl hc) rfl) rfl) ?_
   refine RO (Body.pick rfl rfl rfl rfl (gdB rfl) (pick_or _)) ?_
   refine ag rfl ?_
   refine RN ?_
   refine Ap rfl ?_
   refine TK.ret ?_
   refine PK.ret ?_
   refine leaf (val0 := vB (bif (decide ((chkS l) ≠ 0)) then true else (decide ((lenP l) ≤ 400)))) (by kernel_rfl) ?_
   exact lb (by exact (ss_yes h1 fun j hj => hI0.2 j (by omega)).symm)
set_option maxHeartbeats 4000000 in
theorem w46 (l : List Cmd) (hl : l.length * 40 ≤ 140737488355328) : CallOk Tryz.prog 46 [vL eC l] (lookM []) (vL eC l) [] := by
 haveI := tab_ok
 obtain ⟨fn, f1, f2, f3, f4, _, f6⟩ := qf46
 refine callOk_of (Y := tab) (F := fn46) f1 (f2.trans rfl) f3 f4 f6 (Nat.le_of_ble_eq_true rfl) rfl ?_
 clear f1 f2 f3 f4 f6
 show TK _ _ _ _ _ _ ⟨[(0, vL eC l)], []⟩
 refine At rfl ?_
 refine NR ⟨[(0, vL eC l)], []⟩ (sb rfl rfl rfl) rfl ?_
 refine RO (Body.nilS (enc := eC) rfl) ?_
 refine RN ?_
 refine Ap rfl ?_
 refine NR ⟨[(0, vL eC l)], []⟩ (sb rfl rfl rfl) rfl ?_
 refine RO (Body.adopt 4 3 115 rfl rfl) ?_
 refine RN ?_
 refine Ap rfl ?_
 refine NR ⟨[(0, vL eC l), (3, .aref 4 0)], [(4, .arr 0 3 115 (List.map eC []))]⟩ (sb rfl rfl rfl) rfl ?_
 refine mv rfl ?_
 refine RO (Body.lenL rfl un82) ?_
 refine mv rfl ?_
 refine RN ?_
 refine Ap rfl ?_
 refine TK.loop (α := Nat × Nat × List Cmd) (fun x => ⟨[(3, .aref 4 x.2.1), (6, vL eC l), (7, vI l.length), (8, vI ((x.1 : Nat) : Int))], [(4, .arr x.2.1 3 115 (List.map eC x.2.2))]⟩) (fun x => x.1 ≤ l.length ∧ x.2.2 = List.take x.1 l) (fun x => l.length - x.1) (0, 0, []) ?_ (sb rfl rfl rfl) ?_
 · show 0 ≤ l.length ∧ [] = List.take 0 l
   exact ⟨Nat.zero_le _, rfl⟩
 rintro ⟨k, v, out⟩ hI0
 replace hI0 : k ≤ l.length ∧ out = List.take k l := hI0
 have hol : out.length ≤ k := by rw [hI0.2, List.length_take]; omega
 show TK _ _ _ _ _ _ ⟨[(3, .aref 4 v), (6, vL eC l), (7, vI l.length), (8, vI k)], [(4, .arr v 3 115 (List.map eC out))]⟩
 refine At rfl ?_
 refine NR ⟨[(3, .aref 4 v), (6, vL eC l), (7, vI l.length), (8, vI k)], [(4, .arr v 3 115 (List.map eC out))]⟩ (sb rfl rfl rfl) rfl ?_
 refine RO (Body.lss rfl rfl) ?_
 refine RN ?_
 refine Ap rfl ?_
 refine TK.norm ⟨[(3, .aref 4 v), (6, vL eC l), (7, vI l.length), (8, vI k), (9, vB (decide ((k : Int) < (l.length : Int))))], [(4, .arr v 3 115 (List.map eC out))]⟩ (sb rfl rfl rfl) ?_
 refine TK.condP rfl (fun h1 => ?_) (fun h1 => ?_)
 ·
  refine At rfl ?_
  refine NR ⟨[(3, .aref 4 v), (6, vL eC l), (7, vI l.length), (8, vI k)], [(4, .arr v 3 115 (List.map eC out))]⟩ (sb rfl rfl rfl) rfl ?_
  refine RO (Body.idx (z := z3) (i := k) rfl rfl un82 sz116 (fun _ => rfl) rfl (by omega)) ?_
  refine RO (Body.loadA (ds := [pS (bsO (List.getD l k z3).1), pS (bsO (Prod.fst (Prod.snd (List.getD l k z3)))), pI (Prod.snd (Prod.snd (List.getD l k z3)))]) rfl ag116 sz116 (Nat.le_of_ble_eq_true rfl) rfl) ?_
  refine rn rfl ?_
  refine rn rfl ?_
  refine RN ?_
  refine Ap rfl ?_
  refine NR ⟨[(3, .aref 4 v), (5, .bref 6 0), (6, vL eC l), (7, vI l.length), (8, vI k)], [(4, .arr v 3 115 (List.map eC out)), (6, .box 116 [vS (bsO (List.getD l k z3).1), vS (bsO (Prod.fst (Prod.snd (List.getD l k z3)))), vI (Prod.snd (Prod.snd (List.getD l k z3)))])]⟩ (sb rfl rfl rfl) rfl ?_
  refine rn rfl ?_
  refine RO (Body.loadBA rfl rfl rfl ag116 sz116 rfl rfl) ?_
  refine RO (Body.runZ (val := .pv (.slice (List.map eC [(List.getD l k z3)]))) rfl (fun l => Frz.arr l _ _ _ _ _) rfl) ?_
  refine RO (Body.append rfl rfl rfl un83 in115 rfl (fun _ => rfl) by115 (by (simp only [List.length_append, List.length_cons, List.length_nil, List.length_take]; omega))) ?_
  refine rn rfl ?_
  refine RN ?_
  refine Ap rfl ?_
  refine NR ⟨[(3, .aref 4 (v + 1)), (6, vL eC l), (7, vI l.length), (8, vI k)], [(4, .arr (v + 1) 3 115 (List.map eC (out ++ [(List.getD l k z3)])))]⟩ (sb rfl rfl rfl) rfl ?_
  refine RO (Body.add rfl rfl (by unfold R64; omega)) ?_
  refine mv rfl ?_
  refine RN ?_
  refine Aq rfl ?_
  refine PK.lp ?_
  refine LP.mk ((k + 1), (v + 1), (out ++ [(List.getD l k z3)])) ?_ ?_ (sb rfl rfl rfl)
  · show (k + 1) ≤ l.length ∧ (out ++ [(List.getD l k z3)]) = List.take (k + 1) l
    refine ⟨by omega, ?_⟩; rw [hI0.2]; exact (take_cmd l k (by omega)).symm
  · show l.length - (k + 1) < l.length - k
    omega
 ·
  refine At rfl ?_
  refine TK.exit ?_
  refine PK.exit rfl ?_
  refine Ap rfl ?_
  refine TK.norm ⟨[(3, .aref 4 v)], [(4, .arr v 3 115 (List.map eC out))]⟩ (sb rfl rfl rfl) ?_
  refine TK.frz (t := 3) rfl rfl ?_
  refine NR ⟨[(3, vL eC out)], []⟩ (sb rfl rfl rfl) rfl ?_
  refine mv rfl ?_
  refine ag rfl ?_
  refine RN ?_
  refine Ap rfl ?_
  refine TK.ret ?_
  refine PK.ret ?_
  refine leaf (val0 := vL eC out) (by kernel_rfl) ?_
  exact lsl (by rw [hI0.2, List.take_of_length_le (by omega)])
end Go.Lens.Tm
end
section
namespace Go.Proofs
open Go.Shelf
def Tryz.lays156_ren : Go.Shelf.Ren := ⟨fun | 156 => 169 | 165 => 242 | 166 => 157 | 169 => 158 | 240 => 218 | 241 => 284 | 276 => 281 | 277 => 308 | n => n, fun | 31 => 73 | 9 => 9 | 3 => 3 | 4 => 4 | 0 => 0 | 20 => 20 | 72 => 271 | 76 => 274 | 70 => 269 | 37 => 150 | 75 => 273 | 127 => 333 | 164 => 371 | 5 => 5 | 80 => 145 | n => n, fun | n => n⟩
theorem Tryz.lays156 : Go.Proofs.Lays.n156 Tryz.prog Tryz.lays156_ren := {
  mixed := by kernel_rfl
  f156 := Tryz.func169.trans (congrArg some (by kernel_rfl))
  f165 := Tryz.func242.trans (congrArg some (by kernel_rfl))
  f166 := Tryz.func157.trans (congrArg some (by kernel_rfl))
  f169 := Tryz.func158.trans (congrArg some (by kernel_rfl))
  f240 := Tryz.func218.trans (congrArg some (by kernel_rfl))
  f241 := Tryz.func284.trans (congrArg some (by kernel_rfl))
  f276 := Tryz.func281.trans (congrArg some (by kernel_rfl))
  f277 := Tryz.func308.trans (congrArg some (by kernel_rfl))
  t0 := Tryz.underlying0
  a0 := Tryz.isAgg0
  z0 := Tryz.sizeOf0
  v0 := Tryz.zeroValue0
  t3 := Tryz.underlying3
  a3 := Tryz.isAgg3
  z3 := Tryz.sizeOf3
  v3 := Tryz.zeroValue3
  t4 := Tryz.underlying4
  a4 := Tryz.isAgg4
  z4 := Tryz.sizeOf4
  v4 := Tryz.zeroValue4
  t9 := Tryz.underlying9
  a9 := Tryz.isAgg9
  z9 := Tryz.sizeOf9
  v9 := Tryz.zeroValue9
  t20 := Tryz.underlying20
  a20 := Tryz.isAgg20
  z20 := Tryz.sizeOf20
  v20 := Tryz.zeroValue20
  t31 := Tryz.underlying73
  a31 := Tryz.isAgg73
  z31 := Tryz.sizeOf73
  v31 := Tryz.zeroValue73
  t37 := Tryz.underlying150
  a37 := Tryz.isAgg150
  z37 := Tryz.sizeOf150
  v37 := Tryz.zeroValue150
  t70 := Tryz.underlying269
  a70 := Tryz.isAgg269
  z70 := Tryz.sizeOf269
  v70 := Tryz.zeroValue269
  t72 := Tryz.underlying271
  a72 := Tryz.isAgg271
  z72 := Tryz.sizeOf271
  v72 := Tryz.zeroValue271
  t75 := Tryz.underlying273
  a75 := Tryz.isAgg273
  z75 := Tryz.sizeOf273
  v75 := Tryz.zeroValue273
  t76 := Tryz.underlying274
  a76 := Tryz.isAgg274
  z76 := Tryz.sizeOf274
  v76 := Tryz.zeroValue274
  t127 := Tryz.underlying333
  a127 := Tryz.isAgg333
  z127 := Tryz.sizeOf333
  v127 := Tryz.zeroValue333
  t164 := Tryz.underlying371
  a164 := Tryz.isAgg371
  z164 := Tryz.sizeOf371
  v164 := Tryz.zeroValue371 }
theorem Tryz.Builder_Extra_156 : Builder.Extra Tryz.prog Tryz.lays156_ren := {
  sizeBuilder := by kernel_rfl
  liesBuilder := by kernel_rfl
  t5 := Tryz.underlying5
  a5 := Tryz.isAgg5
  z5 := Tryz.sizeOf5
  v5 := Tryz.zeroValue5
  infoByte := by kernel_rfl
  cellsByte := by kernel_rfl
  sizeByte := by kernel_rfl
  neB5 := by decide }
open Go.RowKit in
theorem Tryz.strings_Join_none (a : Option Addr) (c : Nat) (sep : ByteArray) (w : World) :
    Calls Tryz.prog 169 #[.slice a 0 c, .string sep] w fun e w' => e = .returned (.string ⟨#[]⟩) ∧ w' = w := Any.strings_Join_none Tryz.lays156 Tryz.Builder_Extra_156 a c sep w
open Go.RowKit in
theorem Tryz.strings_Join (bk o c : Nat) (xs : List ByteArray) (sep : ByteArray) (w : World) (hcells : ∀ (j : Nat) x, xs[j]? = some x → w.cell? ⟨bk, o + j, none⟩ = some (.string x)) (hbk : bk < w.heap.size) (hN : xs.length ≤ 140737488355328) (hcap : xs.length ≤ c) (hlen : (Lib.join (xs.map (·.data.toList)) sep.data.toList).length ≤ 140737488355328) :
    Calls Tryz.prog 169 #[.slice (some ⟨bk, o, none⟩) xs.length c, .string sep] w fun e w' => e = .returned (.string ⟨(Lib.join (xs.map (·.data.toList)) sep.data.toList).toArray⟩) ∧ Below w.heap.size w w' := Any.strings_Join Tryz.lays156 Tryz.Builder_Extra_156 bk o c xs sep w hcells hbk hN hcap hlen
end Go.Proofs
end
section
namespace Go.Proofs
open Go.Shelf
def Tryz.laysC172_ren : Go.Shelf.Ren := ⟨fun | 172 => 256 | 244 => 297 | 245 => 298 | 247 => 327 | 279 => 328 | 280 => 329 | 281 => 330 | 282 => 331 | 287 => 349 | 316 => 350 | 171 => 185 | 205 => 351 | 321 => 357 | 322 => 358 | 243 => 255 | 246 => 296 | 283 => 323 | 284 => 324 | 285 => 325 | 286 => 326 | 129 => 322 | 317 => 345 | 318 => 346 | 319 => 347 | 320 => 348 | 337 => 355 | 338 => 356 | n => n, fun | 9 => 9 | 3 => 3 | 75 => 273 | 76 => 274 | 4 => 4 | 5 => 5 | 167 => 411 | 37 => 150 | 0 => 0 | 85 => 412 | 2 => 2 | 168 => 414 | 53 => 406 | 175 => 436 | 46 => 378 | 210 => 439 | 127 => 333 | 145 => 447 | 143 => 445 | 21 => 21 | 171 => 407 | 173 => 409 | 212 => 434 | 51 => 394 | 20 => 20 | 213 => 435 | 232 => 448 | 233 => 449 | 80 => 145 | n => n, fun | 15 => 4 | 16 => 5 | 17 => 3 | 18 => 6 | 19 => 7 | n => n⟩
theorem Tryz.laysC172 : Go.Proofs.LaysC.n172 Tryz.prog Tryz.laysC172_ren := {
  mixed := by kernel_rfl
  f129 := Tryz.func322.trans (congrArg some (by kernel_rfl))
  f171 := Tryz.func185.trans (congrArg some (by kernel_rfl))
  f172 := Tryz.func256.trans (congrArg some (by kernel_rfl))
  f205 := Tryz.func351.trans (congrArg some (by kernel_rfl))
  f243 := Tryz.func255.trans (congrArg some (by kernel_rfl))
  f244 := Tryz.func297.trans (congrArg some (by kernel_rfl))
  f245 := Tryz.func298.trans (congrArg some (by kernel_rfl))
  f246 := Tryz.func296.trans (congrArg some (by kernel_rfl))
  f247 := Tryz.func327.trans (congrArg some (by kernel_rfl))
  f279 := Tryz.func328.trans (congrArg some (by kernel_rfl))
  f280 := Tryz.func329.trans (congrArg some (by kernel_rfl))
  f281 := Tryz.func330.trans (congrArg some (by kernel_rfl))
  f282 := Tryz.func331.trans (congrArg some (by kernel_rfl))
  f283 := Tryz.func323.trans (congrArg some (by kernel_rfl))
  f284 := Tryz.func324.trans (congrArg some (by kernel_rfl))
  f285 := Tryz.func325.trans (congrArg some (by kernel_rfl))
  f286 := Tryz.func326.trans (congrArg some (by kernel_rfl))
  f287 := Tryz.func349.trans (congrArg some (by kernel_rfl))
  f316 := Tryz.func350.trans (congrArg some (by kernel_rfl))
  f317 := Tryz.func345.trans (congrArg some (by kernel_rfl))
  f318 := Tryz.func346.trans (congrArg some (by kernel_rfl))
  f319 := Tryz.func347.trans (congrArg some (by kernel_rfl))
  f320 := Tryz.func348.trans (congrArg some (by kernel_rfl))
  f321 := Tryz.func357.trans (congrArg some (by kernel_rfl))
  f322 := Tryz.func358.trans (congrArg some (by kernel_rfl))
  f337 := Tryz.func355.trans (congrArg some (by kernel_rfl))
  f338 := Tryz.func356.trans (congrArg some (by kernel_rfl))
  t0 := Tryz.underlying0
  a0 := Tryz.isAgg0
  z0 := Tryz.sizeOf0
  v0 := Tryz.zeroValue0
  t2 := Tryz.underlying2
  a2 := Tryz.isAgg2
  z2 := Tryz.sizeOf2
  v2 := Tryz.zeroValue2
  t3 := Tryz.underlying3
  a3 := Tryz.isAgg3
  z3 := Tryz.sizeOf3
  v3 := Tryz.zeroValue3
  t4 := Tryz.underlying4
  a4 := Tryz.isAgg4
  z4 := Tryz.sizeOf4
  v4 := Tryz.zeroValue4
  t5 := Tryz.underlying5
  a5 := Tryz.isAgg5
  z5 := Tryz.sizeOf5
  v5 := Tryz.zeroValue5
  t9 := Tryz.underlying9
  a9 := Tryz.isAgg9
  z9 := Tryz.sizeOf9
  v9 := Tryz.zeroValue9
  t20 := Tryz.underlying20
  a20 := Tryz.isAgg20
  z20 := Tryz.sizeOf20
  v20 := Tryz.zeroValue20
  t21 := Tryz.underlying21
  a21 := Tryz.isAgg21
  z21 := Tryz.sizeOf21
  v21 := Tryz.zeroValue21
  t37 := Tryz.underlying150
  a37 := Tryz.isAgg150
  z37 := Tryz.sizeOf150
  v37 := Tryz.zeroValue150
  t46 := Tryz.underlying378
  a46 := Tryz.isAgg378
  z46 := Tryz.sizeOf378
  v46 := Tryz.zeroValue378
  t51 := Tryz.underlying394
  a51 := Tryz.isAgg394
  z51 := Tryz.sizeOf394
  v51 := Tryz.zeroValue394
  t53 := Tryz.underlying406
  a53 := Tryz.isAgg406
  z53 := Tryz.sizeOf406
  v53 := Tryz.zeroValue406
  t75 := Tryz.underlying273
  a75 := Tryz.isAgg273
  z75 := Tryz.sizeOf273
  v75 := Tryz.zeroValue273
  t76 := Tryz.underlying274
  a76 := Tryz.isAgg274
  z76 := Tryz.sizeOf274
  v76 := Tryz.zeroValue274
  t85 := Tryz.underlying412
  a85 := Tryz.isAgg412
  z85 := Tryz.sizeOf412
  v85 := Tryz.zeroValue412
  t127 := Tryz.underlying333
  a127 := Tryz.isAgg333
  z127 := Tryz.sizeOf333
  v127 := Tryz.zeroValue333
  t143 := Tryz.underlying445
  a143 := Tryz.isAgg445
  z143 := Tryz.sizeOf445
  v143 := Tryz.zeroValue445
  t145 := Tryz.underlying447
  a145 := Tryz.isAgg447
  z145 := Tryz.sizeOf447
  v145 := Tryz.zeroValue447
  t167 := Tryz.underlying411
  a167 := Tryz.isAgg411
  z167 := Tryz.sizeOf411
  v167 := Tryz.zeroValue411
  t168 := Tryz.underlying414
  a168 := Tryz.isAgg414
  z168 := Tryz.sizeOf414
  v168 := Tryz.zeroValue414
  t171 := Tryz.underlying407
  a171 := Tryz.isAgg407
  z171 := Tryz.sizeOf407
  v171 := Tryz.zeroValue407
  t173 := Tryz.underlying409
  a173 := Tryz.isAgg409
  z173 := Tryz.sizeOf409
  v173 := Tryz.zeroValue409
  t175 := Tryz.underlying436
  a175 := Tryz.isAgg436
  z175 := Tryz.sizeOf436
  v175 := Tryz.zeroValue436
  t210 := Tryz.underlying439
  a210 := Tryz.isAgg439
  z210 := Tryz.sizeOf439
  v210 := Tryz.zeroValue439
  t212 := Tryz.underlying434
  a212 := Tryz.isAgg434
  z212 := Tryz.sizeOf434
  v212 := Tryz.zeroValue434
  t213 := Tryz.underlying435
  a213 := Tryz.isAgg435
  z213 := Tryz.sizeOf435
  t232 := Tryz.underlying448
  a232 := Tryz.isAgg448
  z232 := Tryz.sizeOf448
  v232 := Tryz.zeroValue448
  t233 := Tryz.underlying449
  a233 := Tryz.isAgg449
  z233 := Tryz.sizeOf449
  v233 := Tryz.zeroValue449
  g15 := by kernel_rfl
  g16 := by kernel_rfl
  g17 := by kernel_rfl
  g18 := by kernel_rfl
  g19 := by kernel_rfl
  t80 := Tryz.underlying145
  a80 := Tryz.isAgg145
  z80 := Tryz.sizeOf145
  v80 := Tryz.zeroValue145
  i0 := by kernel_rfl
  i2 := by kernel_rfl
  i3 := by kernel_rfl
  i4 := by kernel_rfl
  i5 := by kernel_rfl
  i9 := by kernel_rfl
  i20 := by kernel_rfl
  i21 := by kernel_rfl
  i37 := by kernel_rfl
  i46 := by kernel_rfl
  i51 := by kernel_rfl
  i53 := by kernel_rfl
  i75 := by kernel_rfl
  i76 := by kernel_rfl
  i80 := by kernel_rfl
  i85 := by kernel_rfl
  i127 := by kernel_rfl
  i143 := by kernel_rfl
  i145 := by kernel_rfl
  i167 := by kernel_rfl
  i168 := by kernel_rfl
  i171 := by kernel_rfl
  i173 := by kernel_rfl
  i175 := by kernel_rfl
  i210 := by kernel_rfl
  i212 := by kernel_rfl
  i232 := by kernel_rfl
  i233 := by kernel_rfl
  m15 := by kernel_rfl
  m16 := by kernel_rfl
  m17 := by kernel_rfl
  m18 := by kernel_rfl
  m19 := by kernel_rfl
  c0 := by kernel_rfl
  c2 := by kernel_rfl
  c3 := by kernel_rfl
  c4 := by kernel_rfl
  c5 := by kernel_rfl
  c9 := by kernel_rfl
  c20 := by kernel_rfl
  c21 := by kernel_rfl
  c37 := by kernel_rfl
  c46 := by kernel_rfl
  c51 := by kernel_rfl
  c53 := by kernel_rfl
  c75 := by kernel_rfl
  c76 := by kernel_rfl
  c80 := by kernel_rfl
  c85 := by kernel_rfl
  c127 := by kernel_rfl
  c143 := by kernel_rfl
  c145 := by kernel_rfl
  c167 := by kernel_rfl
  c168 := by kernel_rfl
  c171 := by kernel_rfl
  c173 := by kernel_rfl
  c175 := by kernel_rfl
  c210 := by kernel_rfl
  c212 := by kernel_rfl
  c213 := by kernel_rfl
  c232 := by kernel_rfl
  c233 := by kernel_rfl }
open Go.RowKit in
theorem Tryz.strconv_Atoi_ok (s : ByteArray) (hmax : s.size ≤ 9223372036854775806) (v : Int) (h : Lib.atoiAll s.data.toList = .ok v) (w : World) :
    Calls Tryz.prog 256 #[.string s] w fun e w' => e = .returned (.tuple #[.int .i64 v, .nilIface]) ∧ (w' = w ∨ ∃ t, w' = Lib.bytesWorld w 5 t) := Any.strconv_Atoi_ok Tryz.laysC172 s hmax v h w
open Go.RowKit in
theorem Tryz.strconv_Atoi_form_var (s : ByteArray) (hlim : s.size ≤ 281474976710656) (hok : ∀ v, Lib.atoiAll s.data.toList ≠ .ok v) (hr : Lib.atoiAll s.data.toList ≠ .range) (tp : TypeId) (p : Value) (w : World) (hvar : w.var? Tryz.prog "strconv.ErrSyntax" = some #[.iface tp p]) :
    Calls Tryz.prog 256 #[.string s] w fun e w' => ∃ N, e = .returned (.tuple #[.int .i64 0, .iface 414 (.pointer (some ⟨N, 0, none⟩))]) ∧ w.heap.size ≤ N ∧ w'.heap[N]? = some (.cells #[.string ⟨#[65, 116, 111, 105]⟩, .string s, .iface tp p] 439 (0, 0)) ∧ Below w.heap.size w w' := by
  cases h : Lib.atoiAll s.data.toList
  · exact absurd h (hok _)
  · exact Any.strconv_Atoi_syntax_var Tryz.laysC172 s hlim h tp p w hvar
  · exact absurd h hr
open Go.RowKit in
theorem Tryz.strconv_Atoi_range_var (s : ByteArray) (hlim : s.size ≤ 281474976710656) (h : Lib.atoiAll s.data.toList = .range) (tp : TypeId) (p : Value) (w : World) (hvar : w.var? Tryz.prog "strconv.ErrRange" = some #[.iface tp p]) :
    Calls Tryz.prog 256 #[.string s] w fun e w' => ∃ N, e = .returned (.tuple #[.int .i64 (Lib.atoiSat s.data.toList), .iface 414 (.pointer (some ⟨N, 0, none⟩))]) ∧ w.heap.size ≤ N ∧ w'.heap[N]? = some (.cells #[.string ⟨#[65, 116, 111, 105]⟩, .string s, .iface tp p] 439 (0, 0)) ∧ Below w.heap.size w w' := Any.strconv_Atoi_range_var Tryz.laysC172 s hlim h tp p w hvar
end Go.Proofs
end
section
namespace Go.Lens.Tm
open Go.Lens.Tb Go.Proofs Go.RowKit
set_option linter.unusedSectionVars false
variable [Lz]
theorem elems_cells {R : Rd} {b esz : Nat} : ∀ (l : List (List UInt8)) (off : Nat), RelElems R (l.map eN) b off esz → ∀ (j : Nat) (x : List UInt8), l[j]? = some x → R.cell b (off + j) = some (.string (bsO x))
 | [], _, _, j, x, h => by simp at h
 | a :: l, off, H, j, x, h => by
  simp only [List.map_cons, RelElems] at H
  obtain ⟨h1, h2, h3⟩ := H
  have e1 : esz = 1 := h1.symm
  subst e1
  cases j with
  | zero =>
   have hx : a = x := by simpa using h
   subst hx
   simp only [eN, RelCells, RelPV] at h2
   obtain ⟨⟨v, k1, _, k2, _⟩, _⟩ := h2
   rw [Nat.add_zero, k1, k2]
  | succ j =>
   have := elems_cells l (off + 1) h3 j x (by simpa using h)
   rwa [show off + (j + 1) = off + 1 + j by omega]
end Go.Lens.Tm
end
section
namespace Go.Lens.Tm
open Go.Lens.Tb Go.Proofs Go.RowKit
set_option linter.unusedSectionVars false
variable [Lz]
theorem join2_lib : ∀ ws : List (List UInt8), Lib.join ws [59, 32] = joinC ws
 | [] => rfl
 | w :: r => by
  rw [Lib.join_cons]
  simp only [Lib.joinTail, joinC, List.flatMap]
  rfl
theorem join2_ok : Join2Ok := by
 intro ws hn hw
 refine ⟨fun k hk => ?_, fun G w vs M hv => .inl ?_⟩
 ·simp [DV.refsL, DV.refs] at hk
 obtain ⟨v, v2, rfl, h1, h2⟩ := hv.two
 have e2 := (RelDV_lit_eq h2).1
 subst e2
 simp only [RelDV, RelPV] at h1
 obtain ⟨a, cap, rfl, hcap, hes⟩ := h1
 refine ⟨Tryz.call169 _ _, ?_⟩
 have fin : ∀ w' : World, Below w.heap.size w w' → ∃ G', Stepped G w (lookM []) (vS (bsO (joinC ws))) [] G' w' (.string (bsO (joinC ws))) := fun w' hB =>
  ⟨G, stepped_grow M.ctx hB.os hB.tape hB.output hB.size (fun k hk => hB.block k hk) (RelDV_lit rfl) (by simp [DV.refs])⟩
 by_cases h0 : ws = []
 ·subst h0
  refine Calls.mono (Tryz.strings_Join_none a cap (bsO [59, 32]) w) ?_
  rintro e w' ⟨he, hw'⟩
  exact ⟨_, he, fin w' (hw' ▸ Below.refl _ _)⟩
 ·rcases hes with hes | ⟨b, off, esz, rfl, hel⟩
  ·exact absurd (List.map_eq_nil_iff.1 hes) h0
  have hcell : ∀ (j : Nat) (x : ByteArray), (ws.map bsO)[j]? = some x → w.cell? ⟨b, off + j, none⟩ = some (.string x) := by
   intro j x hj
   rw [List.getElem?_map] at hj
   obtain ⟨y, hy, rfl⟩ := Option.map_eq_some_iff.1 hj
   exact M.readable.1 _ _ _ (elems_cells ws off hel j y hy)
  have hd : (ws.map bsO).map (·.data.toList) = ws := by
   rw [List.map_map]
   conv => rhs; rw [← List.map_id ws]
   rfl
  have hbk : b < w.heap.size := by
   obtain ⟨y, r, rfl⟩ := List.exists_cons_of_ne_nil h0
   have := hcell 0 (bsO y) rfl
   unfold World.cell? at this
   rcases Nat.lt_or_ge b w.heap.size with h | h
   ·exact h
   ·have hnone : w.heap[b]? = none := Array.getElem?_eq_none h
    simp [hnone] at this
  have hjl := joinC_len 1000 ws hw
  have hc := Tryz.strings_Join b off cap (ws.map bsO) (bsO [59, 32]) w hcell hbk (by rw [List.length_map]; omega) (by rw [List.length_map] at hcap ⊢; exact hcap) (by
   rw [hd]
   have : Lib.join ws (bsO [59, 32]).data.toList = joinC ws := join2_lib ws
   rw [this]
   have : ws.length * (1000 + 2) ≤ 1000 * (1000 + 2) := Nat.mul_le_mul_right _ hn
   omega)
  rw [hd] at hc
  have hj : Lib.join ws (bsO [59, 32]).data.toList = joinC ws := join2_lib ws
  rw [hj, List.length_map] at hc
  rw [List.length_map]
  refine Calls.mono hc ?_
  rintro e w' ⟨he, hB⟩
  exact ⟨_, he, fin w' hB⟩
def VarLaid (n : String) : Prop := ∃ g tp p T fr, Tryz.prog.globalNamed n = some g ∧ Lz.L g = some (.cells #[.iface tp p] T fr)
def ErrLaid : Prop := VarLaid "strconv.ErrSyntax" ∧ VarLaid "strconv.ErrRange"
theorem var_of {G : Gh} {w : World} {look : Nat → Option MO} (M : InvM G look w) {n : String} (h : VarLaid n) : ∃ tp p, w.var? Tryz.prog n = some #[.iface tp p] := by
 obtain ⟨g, tp, p, T, fr, h1, h2⟩ := h
 obtain ⟨_, h3⟩ := M.laid _ _ h2
 refine ⟨tp, p, ?_⟩
 unfold World.var?
 rw [h1]
 simp only [Option.bind_some, h3]
theorem call_one {s : List UInt8} {val : DV} (hr : val.refs = []) (h : ∀ (G : Gh) (w : World), InvM G (lookM []) w → Calls Tryz.prog 256 #[.string (bsO s)] w fun e w' => ∃ r, e = .returned r ∧ Below w.heap.size w w' ∧ RelDV G (G.rd w') val r) :
  CallOk Tryz.prog 256 [vS (bsO s)] (lookM []) val [] := by
 refine ⟨fun k hk => ?_, fun G w vs M hv => .inl ?_⟩
 ·simp [DV.refsL, DV.refs] at hk
 obtain ⟨v, rfl, h1⟩ := hv.one
 have e1 := (RelDV_lit_eq h1).1
 subst e1
 refine ⟨Tryz.call256 _ _, ?_⟩
 refine Calls.mono (h G w M) ?_
 rintro e w' ⟨r, he, hB, hv⟩
 exact ⟨r, he, G, stepped_grow M.ctx hB.os hB.tape hB.output hB.size (fun k hk => hB.block k hk) hv hr⟩
theorem w256 (he : ErrLaid) (s : List UInt8) (hl : s.length ≤ 1000000) :
  (∃ v, R64 v ∧ intV s = (v, decide (0 ≤ v ∧ v ≤ 999999999 ∧ Lib.itoa v = s)) ∧ CallOk Tryz.prog 256 [vS (bsO s)] (lookM []) (.tup [vI v, .pv (.lit .nilIface)]) []) ∨
  (∃ v Terr, R64 v ∧ intV s = (v, false) ∧ CallOk Tryz.prog 256 [vS (bsO s)] (lookM []) (.tup [vI v, .pv (.iface Terr .any)]) []) := by
 have hs : (bsO s).data.toList = s := rfl
 have hsz : (bsO s).size = s.length := rfl
 have two : ∀ (G : Gh) (R : Rd) (v : Int) (x : PV) (u : Value), RelPV R x u → RelDV G R (.tup [vI v, .pv x]) (.tuple #[.int .i64 v, u]) := by
  intro G R v x u h
  simp only [RelDV, RelDVs, RelPV]
  exact ⟨#[.int .i64 v, u], rfl, _, _, rfl, ⟨rfl, rfl⟩, _, _, rfl, h, rfl⟩
 have hit : ∀ (R : Rd) (N : Nat), RelPV R (.iface 414 .any) (.iface 414 (.pointer (some ⟨N, 0, none⟩))) := by
  intro R N
  simp only [RelPV]
  exact ⟨_, rfl, rfl⟩
 by_cases hok : ∃ v, Lib.atoiAll s = .ok v
 ·obtain ⟨v, h⟩ := hok
  have hb := Lib.atoiAll_bounds h
  refine .inl ⟨v, ⟨by omega, by omega⟩, by unfold intV; rw [h], call_one (by simp [DV.refs, DV.refsL]) fun G w M => ?_⟩
  refine Calls.mono (Tryz.strconv_Atoi_ok (bsO s) (by rw [hsz]; omega) v h w) ?_
  rintro e w' ⟨rfl, hw⟩
  refine ⟨_, rfl, ?_, two _ _ _ _ _ (by unfold RelPV; exact ⟨rfl, rfl⟩)⟩
  rcases hw with rfl | ⟨t, rfl⟩
  ·exact Below.refl _ _
  ·exact Lib.bytesWorld_below w 5 t
 ·have hno : ∀ v, Lib.atoiAll s ≠ .ok v := fun v h => hok ⟨v, h⟩
  by_cases hr : Lib.atoiAll s = .range
  ·have hb := Lib.atoiSat_bounds s
   refine .inr ⟨Lib.atoiSat s, 414, ⟨by omega, by omega⟩, by unfold intV; rw [hr], call_one (by simp [DV.refs, DV.refsL]) fun G w M => ?_⟩
   obtain ⟨tp, p, hvar⟩ := var_of M he.2
   refine Calls.mono (Tryz.strconv_Atoi_range_var (bsO s) (by rw [hsz]; omega) hr tp p w hvar) ?_
   rintro e w' ⟨N, rfl, _, _, hB⟩
   exact ⟨_, rfl, hB, two _ _ _ _ _ (hit _ _)⟩
  ·refine .inr ⟨0, 414, ⟨by omega, by omega⟩, ?_, call_one (by simp [DV.refs, DV.refsL]) fun G w M => ?_⟩
   ·unfold intV
    split
    ·rename_i v h; exact absurd h (hno v)
    ·rename_i h; exact absurd h hr
    ·rfl
   obtain ⟨tp, p, hvar⟩ := var_of M he.1
   refine Calls.mono (Tryz.strconv_Atoi_form_var (bsO s) (by rw [hsz]; omega) hno hr tp p w hvar) ?_
   rintro e w' ⟨N, rfl, _, _, hB⟩
   exact ⟨_, rfl, hB, two _ _ _ _ _ (hit _ _)⟩
end Go.Lens.Tm
end
section
namespace Go.Lens
set_option linter.unusedSectionVars false
variable [Lz]
section
variable {P : Program} {Y : Tab} [TabOk P Y] {nb : Nat} {s : St} {dst : Option Tmp} {ty u : TypeId} {pos : String} {af : Array Edge} {gd : Option (Nat × Bool)} {t : TypeId} {x y : Operand}
theorem Body.remN {a b : Int} (hx : ev1 s x = lit (.int .i64 a)) (hy : ev1 s y = lit (.int .i64 b)) (ha : 0 ≤ a) (hb : 0 < b) : Body P Y nb s ⟨dst, .binOp .rem t x y u, ty, pos, af, gd⟩ (lit (.int .i64 (a % b))) [] [] := by
 have e : a.tmod b = a % b := Int.tmod_eq_emod_of_nonneg ha
 have := Body.rem (P := P) (Y := Y) (nb := nb) (dst := dst) (ty := ty) (u := u) (pos := pos) (af := af) (gd := gd) (t := t) hx hy (by omega)
 rw [e] at this; exact this
end
end Go.Lens
end
section
namespace Go.Lens.Tm
open Go.Lens.Tb Go.Proofs
variable [Lz]
set_option linter.unusedSectionVars false
set_option maxRecDepth 100000
attribute [local irreducible] TK PK T RG EfR Body
theorem by116 : ty116.info.bytes = 40 := by kernel_rfl
theorem fa349_0 : fadQ tab 349 0 = some 0 := by kernel_rfl
theorem fa349_1 : fadQ tab 349 1 = some 1 := by kernel_rfl
theorem in116 : tab.info? 116 = some ty116.info := by kernel_rfl
theorem un273 : tab.underlying 273 = some (.interface #[("Error", 145)]) := by kernel_rfl
theorem un3 : tab.underlying 3 = some (.int (.i64)) := by kernel_rfl
theorem un5 : tab.underlying 5 = some (.int (.u8)) := by kernel_rfl
theorem fq115 : flatEq tab 115 = some [.string, .string, .int (.i64)] := by kernel_rfl
set_option maxHeartbeats 4000000 in
theorem w299 (n : Int) (hn0 : 0 ≤ n) (hn1 : n ≤ 999999999) : CallOk Tryz.prog 299 [vI n, vI 1] (lookM []) (vS (bsO (Lib.itoa n))) [] := by
 haveI := tab_ok
 obtain ⟨fn, f1, f2, f3, f4, _, f6⟩ := qf299
 refine callOk_of (Y := tab) (F := fn299) f1 (f2.trans rfl) f3 f4 f6 (Nat.le_of_ble_eq_true rfl) rfl ?_
 clear f1 f2 f3 f4 f6
 show TK _ _ _ _ _ _ ⟨[(0, vI n), (1, vI 1)], []⟩
 refine At rfl ?_
 refine NR ⟨[(0, vI n), (1, vI 1)], []⟩ (sb rfl rfl rfl) rfl ?_
 refine ag rfl ?_
 refine RN ?_
 refine Ap rfl ?_
 refine NR ⟨[(0, vI n), (1, vI 1)], []⟩ (sb rfl rfl rfl) rfl ?_
 refine ag rfl ?_
 refine RN ?_
 refine Ap rfl ?_
 refine TK.loop (α := Int × List UInt8) (fun x => ⟨[(0, vI x.1), (1, vI 1), (5, vS (bsO x.2))], []⟩) (fun x => DecI n x.1 x.2) (fun x => Int.toNat x.1 + (1 - x.2.length)) (n, []) ?_ (sb rfl rfl rfl) ?_
 · show DecI n n []
   exact decI_0 hn0
 rintro ⟨m, s⟩ hI0
 replace hI0 : DecI n m s := hI0
 have hsl := decI_len hI0 hn0 hn1
 have hrn := decI_rng hI0
 show TK _ _ _ _ _ _ ⟨[(0, vI m), (1, vI 1), (5, vS (bsO s))], []⟩
 refine At rfl ?_
 refine NR ⟨[(0, vI m), (1, vI 1), (5, vS (bsO s))], []⟩ (sb rfl rfl rfl) rfl ?_
 refine mv rfl ?_
 refine RO (Body.gtr rfl rfl) ?_
 refine mv rfl ?_
 refine RG.cons (EfR.sym rfl (fun hc => Body.move rfl) rfl) ?_
 refine RG.cons (EfR.sym rfl (fun hc => Body.lenB (a := s) (ev1_gd rfl hc) un9) rfl) ?_
 refine RG.cons (EfR.sym rfl (fun hc => Body.move rfl) rfl) ?_
 refine RG.cons (EfR.sym rfl (fun hc => Body.lss (ev1_gd rfl hc) (ev1_gd rfl hc)) rfl) ?_
 refine RO (Body.pick rfl rfl rfl rfl (gdB rfl) (pick_or _)) ?_
 refine RN ?_
 refine Ap rfl ?_
 refine TK.norm ⟨[(0, vI m), (1, vI 1), (5, vS (bsO s)), (13, vB (bif (decide (0 < m)) then true else (decide ((s.length : Int) < 1))))], []⟩ (sb rfl rfl rfl) ?_
 refine TK.cond rfl (fun h1 => ?_) (fun h1 => ?_)
 ·
  refine At rfl ?_
  refine NR ⟨[(0, vI m), (1, vI 1), (5, vS (bsO s))], []⟩ (sb rfl rfl rfl) rfl ?_
  refine mv rfl ?_
  refine RO (Body.remN rfl rfl (by omega) (by decide)) ?_
  refine mv rfl ?_
  refine RO (Body.remN rfl rfl (by omega) (by decide)) ?_
  refine RO (Body.add rfl rfl (by have hz := decI_rng hI0; unfold R64; omega)) ?_
  refine RO (Body.slMB (a := [48, 49, 50, 51, 52, 53, 54, 55, 56, 57]) (i := (Int.toNat (m % 10))) (j := (Int.toNat ((m % 10) + 1))) rfl rfl rfl un9 (Int.toNat_of_nonneg (by omega)).symm (Int.toNat_of_nonneg (by omega)).symm (by omega) (by (simp only [List.length_cons, List.length_nil]; omega))) ?_
  refine mv rfl ?_
  refine RO (Body.catB (a := (List.drop (Int.toNat (m % 10)) (List.take (Int.toNat ((m % 10) + 1)) [48, 49, 50, 51, 52, 53, 54, 55, 56, 57]))) (b := s) rfl rfl (by simp only [List.length_append, List.length_drop, List.length_take, List.length_cons, List.length_nil]; omega)) ?_
  refine ag rfl ?_
  refine RN ?_
  refine Ap rfl ?_
  refine NR ⟨[(0, vI m), (1, vI 1), (5, vS (bsO ((List.drop (Int.toNat (m % 10)) (List.take (Int.toNat ((m % 10) + 1)) [48, 49, 50, 51, 52, 53, 54, 55, 56, 57])) ++ s)))], []⟩ (sb rfl rfl rfl) rfl ?_
  refine mv rfl ?_
  refine RO (Body.quoN rfl rfl (by omega) (by decide) (by have hz := decI_rng hI0; unfold R64; omega)) ?_
  refine ag rfl ?_
  refine RN ?_
  refine Aq rfl ?_
  refine PK.lp ?_
  refine LP.mk ((m / 10), ((List.drop (Int.toNat (m % 10)) (List.take (Int.toNat ((m % 10) + 1)) [48, 49, 50, 51, 52, 53, 54, 55, 56, 57])) ++ s)) ?_ ?_ (sb rfl rfl rfl)
  · show DecI n (m / 10) ((List.drop (Int.toNat (m % 10)) (List.take (Int.toNat ((m % 10) + 1)) [48, 49, 50, 51, 52, 53, 54, 55, 56, 57])) ++ s)
    exact decI_next hI0 h1
  · show Int.toNat (m / 10) + (1 - List.length ((List.drop (Int.toNat (m % 10)) (List.take (Int.toNat ((m % 10) + 1)) [48, 49, 50, 51, 52, 53, 54, 55, 56, 57])) ++ s)) < Int.toNat m + (1 - s.length)
    exact decI_less hI0 h1
 ·
  refine At rfl ?_
  refine TK.exit ?_
  refine PK.exit rfl ?_
  refine Ap rfl ?_
  refine NR ⟨[(5, vS (bsO s))], []⟩ (sb rfl rfl rfl) rfl ?_
  refine mv rfl ?_
  refine ag rfl ?_
  refine RN ?_
  refine Ap rfl ?_
  refine TK.ret ?_
  refine PK.ret ?_
  refine leaf (val0 := vS (bsO s)) (by kernel_rfl) ?_
  exact ls (by rw [decI_end hI0 h1])
set_option maxHeartbeats 4000000 in
theorem w257 (l : List Int) (hl : l.length ≤ 1) (hr : ∀ x ∈ l, 0 ≤ x ∧ x ≤ 999999999) : CallOk Tryz.prog 257 [.pv (.agg [pB false, pL eI l])] (lookM []) (vS (bsO (txtF l))) [] := by
 haveI := tab_ok
 obtain ⟨fn, f1, f2, f3, f4, _, f6⟩ := qf257
 refine callOk_of (Y := tab) (F := fn257) f1 (f2.trans rfl) f3 f4 f6 (Nat.le_of_ble_eq_true rfl) rfl ?_
 clear f1 f2 f3 f4 f6
 show TK _ _ _ _ _ _ ⟨[(0, .pv (.agg [pB false, pL eI l]))], []⟩
 refine At rfl ?_
 refine NR ⟨[(0, .pv (.agg [pB false, pL eI l]))], []⟩ (sb rfl rfl rfl) rfl ?_
 refine rn rfl ?_
 refine ag rfl ?_
 refine RN ?_
 refine Ap rfl ?_
 refine NR ⟨[(1, .bref 2 0)], [(2, .box 349 [vB false, vL eI l])]⟩ (sb rfl rfl rfl) rfl ?_
 refine RO (Body.fadB rfl fa349_1 rfl) ?_
 refine RO (Body.loadB rfl rfl rfl ag22 sz22 rfl) ?_
 refine RO (Body.lenL rfl un22) ?_
 refine RO (Body.eql rfl rfl) ?_
 refine RN ?_
 refine Ap rfl ?_
 refine TK.norm ⟨[(1, .bref 2 0), (8, vB (decide ((l.length : Int) = 0)))], [(2, .box 349 [vB false, vL eI l])]⟩ (sb rfl rfl rfl) ?_
 refine TK.condP rfl (fun h1 => ?_) (fun h1 => ?_)
 ·
  refine At rfl ?_
  refine NR ⟨[], []⟩ (sb rfl rfl rfl) rfl ?_
  refine ag rfl ?_
  refine RN ?_
  refine Ap rfl ?_
  refine TK.ret ?_
  refine PK.ret ?_
  refine leaf (val0 := vS (bsO [48])) (by kernel_rfl) ?_
  exact ls (by (rw [txt_0 h1]))
 ·
  refine At rfl ?_
  refine TK.norm ⟨[(1, .bref 2 0)], [(2, .box 349 [vB false, vL eI l])]⟩ (sb rfl rfl rfl) ?_
  have hr1 := hr _ (getD_mem (l := l) (z := 0) (k := l.length - 1) (by omega))
  refine TK.rg (Y := tab) mixed rfl ?_
  refine RO (Body.fadB rfl fa349_1 rfl) ?_
  refine RO (Body.loadB rfl rfl rfl ag22 sz22 rfl) ?_
  refine RO (Body.fadB rfl fa349_1 rfl) ?_
  refine RO (Body.loadB rfl rfl rfl ag22 sz22 rfl) ?_
  refine RO (Body.lenL rfl un22) ?_
  refine RO (Body.sub rfl rfl (by unfold R64; omega)) ?_
  refine RO (Body.idx (z := 0) (i := (l.length - 1)) rfl rfl un22 sz3 (fun _ => rfl) (by omega) (by omega)) ?_
  refine RO (Body.loadP rfl ag3 sz3) ?_
  refine RO (Body.call (w299 (List.getD l (l.length - 1) 0) (by omega) (by omega)) rfl rfl rfl) ?_
  refine ag rfl ?_
  refine RN ?_
  refine Ap rfl ?_
  refine NR ⟨[(1, .bref 2 0), (3, vS (bsO (Lib.itoa (List.getD l (l.length - 1) 0))))], [(2, .box 349 [vB false, vL eI l])]⟩ (sb rfl rfl rfl) rfl ?_
  refine RO (Body.fadB rfl fa349_1 rfl) ?_
  refine RO (Body.loadB rfl rfl rfl ag22 sz22 rfl) ?_
  refine RO (Body.lenL rfl un22) ?_
  refine RO (Body.sub rfl rfl (by unfold R64; omega)) ?_
  refine ag rfl ?_
  refine RN ?_
  refine Ap rfl ?_
  refine TK.loop (α := Int) (fun x => ⟨[(1, .bref 2 0), (3, vS (bsO (Lib.itoa (List.getD l (l.length - 1) 0)))), (4, vI x)], [(2, .box 349 [vB false, vL eI l])]⟩) (fun x => x < 0) (fun x => (0 : Nat)) ((l.length : Int) - 2) ?_ (sb rfl rfl rfl) ?_
  · show ((l.length : Int) - 2) < 0
    omega
  rintro i hI0
  replace hI0 : i < 0 := hI0
  show TK _ _ _ _ _ _ ⟨[(1, .bref 2 0), (3, vS (bsO (Lib.itoa (List.getD l (l.length - 1) 0)))), (4, vI i)], [(2, .box 349 [vB false, vL eI l])]⟩
  refine At rfl ?_
  refine NR ⟨[(1, .bref 2 0), (3, vS (bsO (Lib.itoa (List.getD l (l.length - 1) 0)))), (4, vI i)], [(2, .box 349 [vB false, vL eI l])]⟩ (sb rfl rfl rfl) rfl ?_
  refine mv rfl ?_
  refine RO (Body.geq rfl rfl) ?_
  refine RN ?_
  refine Ap rfl ?_
  refine TK.norm ⟨[(1, .bref 2 0), (3, vS (bsO (Lib.itoa (List.getD l (l.length - 1) 0)))), (4, vI i), (23, vB (decide (0 ≤ i)))], [(2, .box 349 [vB false, vL eI l])]⟩ (sb rfl rfl rfl) ?_
  refine TK.condP rfl (fun h2 => ?_) (fun h2 => ?_)
  ·
   exact absurd h2 (by omega)
  ·
   refine At rfl ?_
   refine TK.exit ?_
   refine PK.exit rfl ?_
   refine Ap rfl ?_
   refine NR ⟨[(1, .bref 2 0), (3, vS (bsO (Lib.itoa (List.getD l (l.length - 1) 0))))], [(2, .box 349 [vB false, vL eI l])]⟩ (sb rfl rfl rfl) rfl ?_
   refine RO (Body.fadB rfl fa349_0 rfl) ?_
   refine RO (Body.loadB rfl rfl rfl ag4 sz4 rfl) ?_
   refine RN ?_
   refine Ap rfl ?_
   refine TK.norm ⟨[(3, vS (bsO (Lib.itoa (List.getD l (l.length - 1) 0)))), (35, vB false)], []⟩ (sb rfl rfl rfl) ?_
   refine TK.condF rfl ?_
   refine At rfl ?_
   refine NR ⟨[(3, vS (bsO (Lib.itoa (List.getD l (l.length - 1) 0))))], []⟩ (sb rfl rfl rfl) rfl ?_
   refine mv rfl ?_
   refine ag rfl ?_
   refine RN ?_
   refine Ap rfl ?_
   refine TK.ret ?_
   refine PK.ret ?_
   refine leaf (val0 := vS (bsO (Lib.itoa (List.getD l (l.length - 1) 0)))) (by kernel_rfl) ?_
   exact ls (by (rw [txt_1 h1]))
set_option maxHeartbeats 4000000 in
theorem w332 (l : List Int) (hl : l.length ≤ 10000) (hz : ∀ x ∈ l, x ≠ 0) : CallOk Tryz.prog 332 [vL eI l] (lookM []) (vL eI l) [] := by
 haveI := tab_ok
 obtain ⟨fn, f1, f2, f3, f4, _, f6⟩ := qf332
 refine callOk_of (Y := tab) (F := fn332) f1 (f2.trans rfl) f3 f4 f6 (Nat.le_of_ble_eq_true rfl) rfl ?_
 clear f1 f2 f3 f4 f6
 show TK _ _ _ _ _ _ ⟨[(0, vL eI l)], []⟩
 refine At rfl ?_
 refine NR ⟨[(0, vL eI l)], []⟩ (sb rfl rfl rfl) rfl ?_
 refine RO (Body.nilS (enc := eI) rfl) ?_
 refine RN ?_
 refine Ap rfl ?_
 refine TK.loop (α := List Int) (fun x => ⟨[(0, vL eI x)], []⟩) (fun x => x = l) (fun x => (0 : Nat)) l ?_ (sb rfl rfl rfl) ?_
 · show l = l
   rfl
 rintro q hI0
 replace hI0 : q = l := hI0
 subst hI0
 show TK _ _ _ _ _ _ ⟨[(0, vL eI q)], []⟩
 refine At rfl ?_
 refine NR ⟨[(0, vL eI q)], []⟩ (sb rfl rfl rfl) rfl ?_
 refine mv rfl ?_
 refine RO (Body.lenL rfl un22) ?_
 refine RO (Body.gtr rfl rfl) ?_
 refine mv rfl ?_
 refine RG.cons (EfR.sym rfl (fun hc => Body.move rfl) rfl) ?_
 refine RG.cons (EfR.sym rfl (fun hc => Body.move rfl) rfl) ?_
 refine RG.cons (EfR.sym rfl (fun hc => Body.lenL (ev1_gd rfl hc) un22) rfl) ?_
 refine RG.cons (EfR.sym rfl (fun hc => Body.sub (ev1_gd rfl hc) rfl (by unfold R64; omega)) rfl) ?_
 refine RG.cons (EfR.sym rfl (fun hc => Body.idx (z := 0) (i := (q.length - 1)) (ev1_gd rfl hc) (ev1_gd rfl hc) un22 sz3 (fun _ => rfl) (by have hc2 := of_decide_eq_true (eqt hc); omega) (by (have hc2 := of_decide_eq_true (eqt hc); omega))) rfl) ?_
 refine RG.cons (EfR.sym rfl (fun hc => Body.loadP (ev1_gd rfl hc) ag3 sz3) rfl) ?_
 refine RG.cons (EfR.sym rfl (fun hc => Body.eql (ev1_gd rfl hc) rfl) rfl) ?_
 refine RO (Body.pick rfl rfl rfl (gdB rfl) rfl (pick_and _)) ?_
 refine RN ?_
 refine Ap rfl ?_
 refine TK.norm ⟨[(0, vL eI q), (14, vB (bif (decide (0 < (q.length : Int))) then (decide ((List.getD q (q.length - 1) 0) = 0)) else false))], []⟩ (sb rfl rfl rfl) ?_
 refine TK.cond rfl (fun h1 => ?_) (fun h1 => ?_)
 ·
  exact absurd (trim_no h1) (fun hh => hz _ (getD_mem (by omega)) hh.2)
 ·
  refine At rfl ?_
  refine TK.exit ?_
  refine PK.exit rfl ?_
  refine Ap rfl ?_
  refine NR ⟨[(0, vL eI q)], []⟩ (sb rfl rfl rfl) rfl ?_
  refine mv rfl ?_
  refine ag rfl ?_
  refine RN ?_
  refine Ap rfl ?_
  refine TK.ret ?_
  refine PK.ret ?_
  refine leaf (val0 := vL eI q) (by kernel_rfl) ?_
  exact lsl (by rfl)
set_option maxHeartbeats 4000000 in
theorem w300 (l : List Int) (hl : l.length ≤ 10000) (hz : ∀ x ∈ l, x ≠ 0) : CallOk Tryz.prog 300 [vB false, vL eI l] (lookM []) (.pv (.agg [pB false, pL eI l])) [] := by
 haveI := tab_ok
 obtain ⟨fn, f1, f2, f3, f4, _, f6⟩ := qf300
 refine callOk_of (Y := tab) (F := fn300) f1 (f2.trans rfl) f3 f4 f6 (Nat.le_of_ble_eq_true rfl) rfl ?_
 clear f1 f2 f3 f4 f6
 show TK _ _ _ _ _ _ ⟨[(0, vB false), (1, vL eI l)], []⟩
 refine At rfl ?_
 refine NR ⟨[(0, vB false), (1, vL eI l)], []⟩ (sb rfl rfl rfl) rfl ?_
 refine RO (Body.runZ rfl (fun l => Frz.boxN l rfl) rfl) ?_
 refine RN ?_
 refine Ap rfl ?_
 refine NR ⟨[(0, vB false), (1, vL eI l), (4, .bref 5 0)], [(5, .box 349 [vB false, vL eI []])]⟩ (sb rfl rfl rfl) rfl ?_
 refine mv rfl ?_
 refine RO (Body.call (w332 l hl hz) rfl rfl rfl) ?_
 refine ag rfl ?_
 refine RN ?_
 refine Ap rfl ?_
 refine NR ⟨[(0, vB false), (1, vL eI l), (4, .bref 5 0)], [(5, .box 349 [vB false, vL eI []])]⟩ (sb rfl rfl rfl) rfl ?_
 refine mv rfl ?_
 refine mv rfl ?_
 refine RG.cons (EfR.sym rfl (fun hc => Body.move rfl) rfl) ?_
 refine RG.cons (EfR.sym rfl (fun hc => Body.lenL (ev1_gd rfl hc) un22) rfl) ?_
 refine RG.cons (EfR.sym rfl (fun hc => Body.gtr (ev1_gd rfl hc) rfl) rfl) ?_
 refine RO (Body.pick rfl rfl rfl (gdB rfl) rfl (pick_and _)) ?_
 refine mv rfl ?_
 refine rn rfl ?_
 refine rn rfl ?_
 refine RN ?_
 refine Ap rfl ?_
 refine TK.ret ?_
 refine PK.ret ?_
 refine leaf (val0 := .pv (.agg [pB (bif false then (decide (0 < (l.length : Int))) else false), pL eI l])) (by kernel_rfl) ?_
 exact lag (lcons (plb (by rfl)) (lcons (rfl) rfl))
set_option maxHeartbeats 4000000 in
theorem w258 (n : Int) (hn0 : 0 ≤ n) (hn1 : n ≤ 999999999) : CallOk Tryz.prog 258 [vI n] (lookM []) (.pv (.agg [pB false, pL eI (wF n)])) [] := by
 haveI := tab_ok
 obtain ⟨fn, f1, f2, f3, f4, _, f6⟩ := qf258
 refine callOk_of (Y := tab) (F := fn258) f1 (f2.trans rfl) f3 f4 f6 (Nat.le_of_ble_eq_true rfl) rfl ?_
 clear f1 f2 f3 f4 f6
 show TK _ _ _ _ _ _ ⟨[(0, vI n)], []⟩
 refine At rfl ?_
 refine NR ⟨[(0, vI n)], []⟩ (sb rfl rfl rfl) rfl ?_
 refine RO (Body.runZ rfl (fun l => Frz.boxN l rfl) rfl) ?_
 refine RN ?_
 refine Ap rfl ?_
 refine NR ⟨[(0, vI n), (2, .bref 3 0)], [(3, .box 349 [vB false, vL eI []])]⟩ (sb rfl rfl rfl) rfl ?_
 refine RO (Body.adopt 4 1 3 rfl rfl) ?_
 refine RN ?_
 refine Ap rfl ?_
 refine NR ⟨[(0, vI n), (2, .bref 3 0), (3, .aref 4 0)], [(3, .box 349 [vB false, vL eI []]), (4, .arr 0 1 3 (List.map eI []))]⟩ (sb rfl rfl rfl) rfl ?_
 refine mv rfl ?_
 refine RO (Body.lss rfl rfl) ?_
 refine ag rfl ?_
 refine RN ?_
 refine Ap rfl ?_
 refine TK.loop (α := Int × Nat × List Int) (fun x => ⟨[(0, vI x.1), (2, .bref 3 0), (3, .aref 4 x.2.1), (4, vB (decide (n < 0)))], [(3, .box 349 [vB false, vL eI []]), (4, .arr x.2.1 1 3 (List.map eI x.2.2))]⟩) (fun x => WhI n x.1 x.2.2) (fun x => Int.toNat x.1) (n, 0, []) ?_ (sb rfl rfl rfl) ?_
 · show WhI n n []
   exact .inl ⟨rfl, rfl⟩
 rintro ⟨m, v, out⟩ hI0
 replace hI0 : WhI n m out := hI0
 have hwl := whI_len hI0
 have hwr := whI_rng hI0 hn0 hn1
 show TK _ _ _ _ _ _ ⟨[(0, vI m), (2, .bref 3 0), (3, .aref 4 v), (4, vB (decide (n < 0)))], [(3, .box 349 [vB false, vL eI []]), (4, .arr v 1 3 (List.map eI out))]⟩
 refine At rfl ?_
 refine NR ⟨[(0, vI m), (2, .bref 3 0), (3, .aref 4 v), (4, vB (decide (n < 0)))], [(3, .box 349 [vB false, vL eI []]), (4, .arr v 1 3 (List.map eI out))]⟩ (sb rfl rfl rfl) rfl ?_
 refine mv rfl ?_
 refine RO (Body.neq rfl rfl) ?_
 refine RN ?_
 refine Ap rfl ?_
 refine TK.norm ⟨[(0, vI m), (2, .bref 3 0), (3, .aref 4 v), (4, vB (decide (n < 0))), (9, vB (decide (m ≠ 0)))], [(3, .box 349 [vB false, vL eI []]), (4, .arr v 1 3 (List.map eI out))]⟩ (sb rfl rfl rfl) ?_
 refine TK.condP rfl (fun h1 => ?_) (fun h1 => ?_)
 ·
  refine At rfl ?_
  refine NR ⟨[(0, vI m), (2, .bref 3 0), (3, .aref 4 v), (4, vB (decide (n < 0)))], [(3, .box 349 [vB false, vL eI []]), (4, .arr v 1 3 (List.map eI out))]⟩ (sb rfl rfl rfl) rfl ?_
  refine mv rfl ?_
  refine RO (Body.remN rfl rfl (by omega) (by decide)) ?_
  refine ag rfl ?_
  refine RN ?_
  refine Ap rfl ?_
  refine NR ⟨[(0, vI m), (2, .bref 3 0), (3, .aref 4 v), (4, vB (decide (n < 0))), (5, vI (m % 1000000000))], [(3, .box 349 [vB false, vL eI []]), (4, .arr v 1 3 (List.map eI out))]⟩ (sb rfl rfl rfl) rfl ?_
  refine mv rfl ?_
  refine RO (Body.lss rfl rfl) ?_
  refine RN ?_
  refine Ap rfl ?_
  refine TK.norm ⟨[(0, vI m), (2, .bref 3 0), (3, .aref 4 v), (4, vB (decide (n < 0))), (5, vI (m % 1000000000)), (13, vB (decide ((m % 1000000000) < 0)))], [(3, .box 349 [vB false, vL eI []]), (4, .arr v 1 3 (List.map eI out))]⟩ (sb rfl rfl rfl) ?_
  refine TK.condP rfl (fun h2 => ?_) (fun h2 => ?_)
  ·
   exact absurd h2 (by have hz := whI_rng hI0 hn0 hn1; omega)
  ·
   refine At rfl ?_
   refine NR ⟨[(0, vI m), (2, .bref 3 0), (3, .aref 4 v), (4, vB (decide (n < 0))), (5, vI (m % 1000000000))], [(3, .box 349 [vB false, vL eI []]), (4, .arr v 1 3 (List.map eI out))]⟩ (sb rfl rfl rfl) rfl ?_
   refine rn rfl ?_
   refine mv rfl ?_
   refine RO (Body.runZ (val := .pv (.slice (List.map eI [(m % 1000000000)]))) rfl (fun l => Frz.arr l _ _ _ _ _) rfl) ?_
   refine RO (Body.append rfl rfl rfl un22 in3 rfl (fun _ => rfl) by3 (by (simp only [List.length_append, List.length_cons, List.length_nil]; omega))) ?_
   refine rn rfl ?_
   refine RN ?_
   refine Ap rfl ?_
   refine NR ⟨[(0, vI m), (2, .bref 3 0), (3, .aref 4 (v + 1)), (4, vB (decide (n < 0)))], [(3, .box 349 [vB false, vL eI []]), (4, .arr (v + 1) 1 3 (List.map eI (out ++ [(m % 1000000000)])))]⟩ (sb rfl rfl rfl) rfl ?_
   refine mv rfl ?_
   refine RO (Body.quoN rfl rfl (by omega) (by decide) (by have hz := whI_rng hI0 hn0 hn1; unfold R64; omega)) ?_
   refine ag rfl ?_
   refine RN ?_
   refine Aq rfl ?_
   refine PK.lp ?_
   refine LP.mk ((m / 1000000000), (v + 1), (out ++ [(m % 1000000000)])) ?_ ?_ (sb rfl rfl rfl)
   · show WhI n (m / 1000000000) (out ++ [(m % 1000000000)])
     exact whI_next hI0 hn0 hn1 h1
   · show Int.toNat (m / 1000000000) < Int.toNat m
     have hz := whI_rng hI0 hn0 hn1; omega
 ·
  refine At rfl ?_
  refine TK.exit ?_
  refine PK.exit rfl ?_
  refine Ap rfl ?_
  refine TK.norm ⟨[(2, .bref 3 0), (3, .aref 4 v), (4, vB (decide (n < 0)))], [(3, .box 349 [vB false, vL eI []]), (4, .arr v 1 3 (List.map eI out))]⟩ (sb rfl rfl rfl) ?_
  have hou := whI_end hI0 (by omega)
  rw [decide_eq_false (show ¬ n < 0 by omega)]
  refine TK.frz (t := 3) rfl rfl ?_
  refine NR ⟨[(2, .bref 3 0), (3, vL eI out), (4, vB false)], [(3, .box 349 [vB false, vL eI []])]⟩ (sb rfl rfl rfl) rfl ?_
  refine mv rfl ?_
  refine mv rfl ?_
  refine RO (Body.call (w300 out (by omega) (whI_nz hI0)) rfl rfl rfl) ?_
  refine rn rfl ?_
  refine RN ?_
  refine Ap rfl ?_
  refine TK.ret ?_
  refine PK.ret ?_
  refine leaf (val0 := .pv (.agg [pB false, pL eI out])) (by kernel_rfl) ?_
  exact lag (lcons (rfl) (lcons (plsl (by rw [hou])) rfl))
set_option maxHeartbeats 4000000 in
theorem w187 (n : Int) (hn0 : 0 ≤ n) (hn1 : n ≤ 999999999) : CallOk Tryz.prog 187 [vI n] (lookM []) (vS (bsO (Lib.itoa n))) [] := by
 haveI := tab_ok
 obtain ⟨fn, f1, f2, f3, f4, _, f6⟩ := qf187
 refine callOk_of (Y := tab) (F := fn187) f1 (f2.trans rfl) f3 f4 f6 (Nat.le_of_ble_eq_true rfl) rfl ?_
 clear f1 f2 f3 f4 f6
 show TK _ _ _ _ _ _ ⟨[(0, vI n)], []⟩
 refine At rfl ?_
 refine NR ⟨[(0, vI n)], []⟩ (sb rfl rfl rfl) rfl ?_
 refine ag rfl ?_
 refine RN ?_
 refine Ap rfl ?_
 refine NR ⟨[(0, vI n)], []⟩ (sb rfl rfl rfl) rfl ?_
 refine mv rfl ?_
 refine RO (Body.call (w258 n hn0 hn1) rfl rfl rfl) ?_
 refine RO (Body.call (w257 (wF n) (wF_len n) (wF_rng hn0 hn1)) rfl rfl rfl) ?_
 refine ag rfl ?_
 refine RN ?_
 refine Ap rfl ?_
 refine TK.ret ?_
 refine PK.ret ?_
 refine leaf (val0 := vS (bsO (txtF (wF n)))) (by kernel_rfl) ?_
 exact ls (by rw [txt_w hn0])
set_option maxHeartbeats 4000000 in
theorem w131 (n : Int) (hn0 : 0 ≤ n) (hn1 : n ≤ 999999999) : CallOk Tryz.prog 131 [vI n] (lookM []) (vS (bsO (Lib.itoa n))) [] := by
 haveI := tab_ok
 obtain ⟨fn, f1, f2, f3, f4, _, f6⟩ := qf131
 refine callOk_of (Y := tab) (F := fn131) f1 (f2.trans rfl) f3 f4 f6 (Nat.le_of_ble_eq_true rfl) rfl ?_
 clear f1 f2 f3 f4 f6
 show TK _ _ _ _ _ _ ⟨[(0, vI n)], []⟩
 refine At rfl ?_
 refine NR ⟨[(0, vI n)], []⟩ (sb rfl rfl rfl) rfl ?_
 refine ag rfl ?_
 refine RN ?_
 refine Ap rfl ?_
 refine NR ⟨[(0, vI n)], []⟩ (sb rfl rfl rfl) rfl ?_
 refine mv rfl ?_
 refine RO (Body.call (w187 n (by omega) (by omega)) rfl rfl rfl) ?_
 refine ag rfl ?_
 refine RN ?_
 refine Ap rfl ?_
 refine TK.ret ?_
 refine PK.ret ?_
 refine leaf (val0 := vS (bsO (Lib.itoa n))) (by kernel_rfl) ?_
 exact rfl
set_option maxHeartbeats 4000000 in
theorem w135 (s : List UInt8) : CallOk Tryz.prog 135 [vS (bsO s)] (lookM []) (.tup [vI (Option.getD (intR s) 0), vB (Option.isSome (intR s))]) [] := by
 haveI := tab_ok
 obtain ⟨fn, f1, f2, f3, f4, _, f6⟩ := qf135
 refine callOk_of (Y := tab) (F := fn135) f1 (f2.trans rfl) f3 f4 f6 (Nat.le_of_ble_eq_true rfl) rfl ?_
 clear f1 f2 f3 f4 f6
 show TK _ _ _ _ _ _ ⟨[(0, vS (bsO s))], []⟩
 refine At rfl ?_
 refine NR ⟨[(0, vS (bsO s))], []⟩ (sb rfl rfl rfl) rfl ?_
 refine ag rfl ?_
 refine ag rfl ?_
 refine RN ?_
 refine Ap rfl ?_
 refine NR ⟨[(0, vS (bsO s))], []⟩ (sb rfl rfl rfl) rfl ?_
 refine mv rfl ?_
 refine RO (Body.lenB (a := s) rfl un9) ?_
 refine RO (Body.eql rfl rfl) ?_
 refine mv rfl ?_
 refine RG.cons (EfR.sym rfl (fun hc => Body.move rfl) rfl) ?_
 refine RG.cons (EfR.sym rfl (fun hc => Body.lenB (a := s) (ev1_gd rfl hc) un9) rfl) ?_
 refine RG.cons (EfR.sym rfl (fun hc => Body.gtr (ev1_gd rfl hc) rfl) rfl) ?_
 refine RO (Body.pick rfl rfl rfl rfl (gdB rfl) (pick_or _)) ?_
 refine mv rfl ?_
 refine RG.cons (EfR.sym rfl (fun hc => Body.move rfl) rfl) ?_
 refine RG.cons (EfR.sym rfl (fun hc => Body.lenB (a := s) (ev1_gd rfl hc) un9) rfl) ?_
 refine RG.cons (EfR.sym rfl (fun hc => Body.gtr (ev1_gd rfl hc) rfl) rfl) ?_
 refine RG.cons (EfR.sym rfl (fun hc => Body.move (ev1_gd rfl hc)) rfl) ?_
 refine RG.cons (EfR.sym rfl (fun hc => Body.move rfl) rfl) ?_
 refine RG.cons (EfR.sym rfl (fun hc => Body.sidx (i := 0) (ev1_gd rfl hc) rfl un9 rfl (show 0 < s.length from (by exact gd_len4 hc))) rfl) ?_
 refine RG.cons (EfR.sym rfl (fun hc => Body.eql (ev1_gd rfl hc) rfl) rfl) ?_
 refine RG.cons (EfR.sym rfl (fun hc => Body.pick (ev1_gd rfl hc) rfl rfl (gdB rfl) rfl (pick_and2 hc)) rfl) ?_
 refine RO (Body.pick rfl rfl rfl rfl (gdB rfl) (pick_or _)) ?_
 refine RN ?_
 refine Ap rfl ?_
 refine TK.norm ⟨[(0, vS (bsO s)), (23, vB (bif (bif (decide ((s.length : Int) = 0)) then true else (decide (9 < (s.length : Int)))) then true else (bif (decide (1 < (s.length : Int))) then (decide ((byteAt (bsO s) 0) = 48)) else false)))], []⟩ (sb rfl rfl rfl) ?_
 refine TK.cond rfl (fun h1 => ?_) (fun h1 => ?_)
 ·
  refine At rfl ?_
  refine NR ⟨[], []⟩ (sb rfl rfl rfl) rfl ?_
  refine ag rfl ?_
  refine ag rfl ?_
  refine RN ?_
  refine Ap rfl ?_
  refine TK.ret ?_
  refine PK.ret ?_
  refine leaf (val0 := .tup [vI 0, vB false]) (by kernel_rfl) ?_
  exact tup2 (li (by (rw [intR_no h1]; rfl))) (lb (by (rw [intR_no h1]; rfl)))
 ·
  refine At rfl ?_
  refine TK.norm ⟨[(0, vS (bsO s))], []⟩ (sb rfl rfl rfl) ?_
  have hnl := noI_len h1
  refine TK.rg (Y := tab) mixed rfl ?_
  refine ag rfl ?_
  refine RN ?_
  refine Ap rfl ?_
  refine NR ⟨[(0, vS (bsO s)), (4, vI 0)], []⟩ (sb rfl rfl rfl) rfl ?_
  refine ag rfl ?_
  refine RN ?_
  refine Ap rfl ?_
  refine TK.loop (α := Nat × Int) (fun x => ⟨[(0, vS (bsO s)), (4, vI x.2), (5, vI ((x.1 : Nat) : Int))], []⟩) (fun x => x.1 ≤ s.length ∧ intG 0 s = intG x.2 (List.drop x.1 s) ∧ 0 ≤ x.2 ∧ x.2 < 10 ^ x.1) (fun x => s.length - x.1) (0, 0) ?_ (sb rfl rfl rfl) ?_
  · show 0 ≤ s.length ∧ intG 0 s = intG 0 (List.drop 0 s) ∧ 0 ≤ 0 ∧ 0 < 10 ^ 0
    exact ⟨Nat.zero_le _, rfl, by omega, by decide⟩
  rintro ⟨k, n⟩ hI0
  replace hI0 : k ≤ s.length ∧ intG 0 s = intG n (List.drop k s) ∧ 0 ≤ n ∧ n < 10 ^ k := hI0
  have hpb := pow_bd (k := k) (by omega)
  have hn9 : n < 1000000000 := Int.lt_of_lt_of_le hI0.2.2.2 hpb
  show TK _ _ _ _ _ _ ⟨[(0, vS (bsO s)), (4, vI n), (5, vI k)], []⟩
  refine At rfl ?_
  refine NR ⟨[(0, vS (bsO s)), (4, vI n), (5, vI k)], []⟩ (sb rfl rfl rfl) rfl ?_
  refine mv rfl ?_
  refine mv rfl ?_
  refine RO (Body.lenB (a := s) rfl un9) ?_
  refine RO (Body.lss rfl rfl) ?_
  refine RN ?_
  refine Ap rfl ?_
  refine TK.norm ⟨[(0, vS (bsO s)), (4, vI n), (5, vI k), (27, vB (decide ((k : Int) < (s.length : Int))))], []⟩ (sb rfl rfl rfl) ?_
  refine TK.condP rfl (fun h2 => ?_) (fun h2 => ?_)
  ·
   refine At rfl ?_
   refine NR ⟨[(0, vS (bsO s)), (4, vI n), (5, vI k)], []⟩ (sb rfl rfl rfl) rfl ?_
   refine mv rfl ?_
   refine mv rfl ?_
   refine RO (Body.sidx (i := k) rfl rfl un9 rfl (show k < s.length from (by omega))) ?_
   refine RO (Body.lss rfl rfl) ?_
   refine mv rfl ?_
   refine RG.cons (EfR.sym rfl (fun hc => Body.move rfl) rfl) ?_
   refine RG.cons (EfR.sym rfl (fun hc => Body.move rfl) rfl) ?_
   refine RG.cons (EfR.sym rfl (fun hc => Body.sidx (i := k) (ev1_gd rfl hc) (ev1_gd rfl hc) un9 rfl (show k < s.length from (by omega))) rfl) ?_
   refine RG.cons (EfR.sym rfl (fun hc => Body.gtr (ev1_gd rfl hc) rfl) rfl) ?_
   refine RO (Body.pick rfl rfl rfl rfl (gdB rfl) (pick_or _)) ?_
   refine RN ?_
   refine Ap rfl ?_
   refine TK.norm ⟨[(0, vS (bsO s)), (4, vI n), (5, vI k), (39, vB (bif (decide ((byteAt (bsO s) k) < 48)) then true else (decide (57 < (byteAt (bsO s) k)))))], []⟩ (sb rfl rfl rfl) ?_
   refine TK.cond rfl (fun h3 => ?_) (fun h3 => ?_)
   ·
    refine At rfl ?_
    refine NR ⟨[], []⟩ (sb rfl rfl rfl) rfl ?_
    refine ag rfl ?_
    refine ag rfl ?_
    refine RN ?_
    refine Ap rfl ?_
    refine TK.ret ?_
    refine PK.ret ?_
    refine leaf (val0 := .tup [vI 0, vB false]) (by kernel_rfl) ?_
    exact tup2 (li (by (rw [intR_go h1, hI0.2.1, intG_bad (by omega) h3]; rfl))) (lb (by (rw [intR_go h1, hI0.2.1, intG_bad (by omega) h3]; rfl)))
   ·
    refine At rfl ?_
    refine NR ⟨[(0, vS (bsO s)), (4, vI n), (5, vI k)], []⟩ (sb rfl rfl rfl) rfl ?_
    refine mv rfl ?_
    refine RO (Body.mul rfl rfl (by unfold R64; omega)) ?_
    refine mv rfl ?_
    refine mv rfl ?_
    refine RO (Body.sidx (i := k) rfl rfl un9 rfl (show k < s.length from (by omega))) ?_
    refine RO (Body.subB rfl rfl (by (have hdr := dig_rng h3; omega))) ?_
    refine RO (Body.toI rfl un5 un3 (by unfold R64; (have hdr := dig_rng h3; omega)) rfl) ?_
    refine RO (Body.add rfl rfl (by unfold R64; (have hdr := dig_rng h3; omega))) ?_
    refine ag rfl ?_
    refine RN ?_
    refine Ap rfl ?_
    refine NR ⟨[(0, vS (bsO s)), (4, vI ((10 * n) + ((byteAt (bsO s) k) - 48))), (5, vI k)], []⟩ (sb rfl rfl rfl) rfl ?_
    refine mv rfl ?_
    refine RO (Body.add rfl rfl (by unfold R64; omega)) ?_
    refine ag rfl ?_
    refine RN ?_
    refine Aq rfl ?_
    refine PK.lp ?_
    refine LP.mk ((k + 1), ((10 * n) + ((byteAt (bsO s) k) - 48))) ?_ ?_ (sb rfl rfl rfl)
    · show (k + 1) ≤ s.length ∧ intG 0 s = intG ((10 * n) + ((byteAt (bsO s) k) - 48)) (List.drop (k + 1) s) ∧ 0 ≤ ((10 * n) + ((byteAt (bsO s) k) - 48)) ∧ ((10 * n) + ((byteAt (bsO s) k) - 48)) < 10 ^ (k + 1)
      have hdr := dig_rng h3; refine ⟨by omega, hI0.2.1.trans (intG_step (by omega) h3), by omega, ?_⟩; rw [pow_s]; exact intB_next hI0.2.2.2 hdr.2
    · show s.length - (k + 1) < s.length - k
      omega
  ·
   refine At rfl ?_
   refine TK.exit ?_
   refine PK.exit rfl ?_
   refine Ap rfl ?_
   refine NR ⟨[(4, vI n)], []⟩ (sb rfl rfl rfl) rfl ?_
   refine mv rfl ?_
   refine ag rfl ?_
   refine ag rfl ?_
   refine RN ?_
   refine Ap rfl ?_
   refine TK.ret ?_
   refine PK.ret ?_
   refine leaf (val0 := .tup [vI n, vB true]) (by kernel_rfl) ?_
   exact tup2 (li (by (rw [intR_go h1, hI0.2.1, List.drop_of_length_le (by omega)]; rfl))) (lb (by (rw [intR_go h1, hI0.2.1, List.drop_of_length_le (by omega)]; rfl)))
set_option maxHeartbeats 4000000 in
theorem w186o (hp : PowLaid) (s : List UInt8) (v : Int)  (hv : R64 v) (h256 : CallOk Tryz.prog 256 [vS (bsO s)] (lookM []) (.tup [vI v, .pv (.lit .nilIface)]) []) : CallOk Tryz.prog 186 [vS (bsO s)] (lookM []) (.tup [vI v, vB (decide (0 ≤ v ∧ v ≤ 999999999 ∧ Lib.itoa v = s))]) [] := by
 haveI := tab_ok
 obtain ⟨fn, f1, f2, f3, f4, _, f6⟩ := qf186
 refine callOk_of (Y := tab) (F := fn186) f1 (f2.trans rfl) f3 f4 f6 (Nat.le_of_ble_eq_true rfl) rfl ?_
 clear f1 f2 f3 f4 f6
 show TK _ _ _ _ _ _ ⟨[(0, vS (bsO s))], []⟩
 refine At rfl ?_
 refine NR ⟨[(0, vS (bsO s))], []⟩ (sb rfl rfl rfl) rfl ?_
 refine ag rfl ?_
 refine ag rfl ?_
 refine RN ?_
 refine Ap rfl ?_
 refine NR ⟨[(0, vS (bsO s))], []⟩ (sb rfl rfl rfl) rfl ?_
 refine mv rfl ?_
 refine RO (Body.call (h256) rfl rfl rfl) ?_
 refine rn rfl ?_
 refine rn rfl ?_
 refine rn rfl ?_
 refine ag rfl ?_
 refine ag rfl ?_
 refine RN ?_
 refine Ap rfl ?_
 refine NR ⟨[(0, vS (bsO s)), (4, vI v), (5, .pv (.lit .nilIface))], []⟩ (sb rfl rfl rfl) rfl ?_
 refine mv rfl ?_
 refine mv rfl ?_
 refine RO (Body.ieqE rfl un273) ?_
 refine mv rfl ?_
 refine RG.cons (EfR.sym rfl (fun hc => Body.move rfl) rfl) ?_
 refine RG.cons (EfR.sym rfl (fun hc => Body.geq (ev1_gd rfl hc) rfl) rfl) ?_
 refine RO (Body.pick rfl rfl rfl (gdB rfl) rfl (pick_and _)) ?_
 refine mv rfl ?_
 refine RG.cons (EfR.sym rfl (fun hc => Body.move rfl) rfl) ?_
 refine RG.cons (EfR.sym rfl (fun hc => Body.leq (ev1_gd rfl hc) rfl) rfl) ?_
 refine RO (Body.pick rfl rfl rfl (gdB rfl) rfl (pick_and _)) ?_
 refine mv rfl ?_
 refine RG.cons (EfR.sym rfl (fun hc => Body.move rfl) rfl) ?_
 refine RG.cons (EfR.sym rfl (fun hc => Body.call (w185 hp v hv) rfl (ds1 (ev1_gd rfl hc)) rfl) rfl) ?_
 refine RG.cons (EfR.sym rfl (fun hc => Body.move rfl) rfl) ?_
 refine RG.cons (EfR.sym rfl (fun hc => Body.seqB (a := (Lib.itoa v)) (b := s) (ev1_gd rfl hc) (ev1_gd rfl hc)) rfl) ?_
 refine RO (Body.pick rfl rfl rfl (gdB rfl) rfl (pick_and _)) ?_
 refine ag rfl ?_
 refine ag rfl ?_
 refine RN ?_
 refine Ap rfl ?_
 refine TK.ret ?_
 refine PK.ret ?_
 refine leaf (val0 := .tup [vI v, vB (bif (bif (bif true then (decide (0 ≤ v)) else false) then (decide (v ≤ 999999999)) else false) then (decide ((Lib.itoa v) = s)) else false)]) (by kernel_rfl) ?_
 exact tup2 (rfl) (lb (by exact int_chk))
set_option maxHeartbeats 4000000 in
theorem w186n (hp : PowLaid) (s : List UInt8) (v : Int) (Terr : TypeId)  (hv : R64 v) (h256 : CallOk Tryz.prog 256 [vS (bsO s)] (lookM []) (.tup [vI v, .pv ((.iface Terr .any))]) []) : CallOk Tryz.prog 186 [vS (bsO s)] (lookM []) (.tup [vI v, vB false]) [] := by
 haveI := tab_ok
 obtain ⟨fn, f1, f2, f3, f4, _, f6⟩ := qf186
 refine callOk_of (Y := tab) (F := fn186) f1 (f2.trans rfl) f3 f4 f6 (Nat.le_of_ble_eq_true rfl) rfl ?_
 clear f1 f2 f3 f4 f6
 show TK _ _ _ _ _ _ ⟨[(0, vS (bsO s))], []⟩
 refine At rfl ?_
 refine NR ⟨[(0, vS (bsO s))], []⟩ (sb rfl rfl rfl) rfl ?_
 refine ag rfl ?_
 refine ag rfl ?_
 refine RN ?_
 refine Ap rfl ?_
 refine NR ⟨[(0, vS (bsO s))], []⟩ (sb rfl rfl rfl) rfl ?_
 refine mv rfl ?_
 refine RO (Body.call (h256) rfl rfl rfl) ?_
 refine rn rfl ?_
 refine rn rfl ?_
 refine rn rfl ?_
 refine ag rfl ?_
 refine ag rfl ?_
 refine RN ?_
 refine Ap rfl ?_
 refine NR ⟨[(0, vS (bsO s)), (4, vI v), (5, .pv ((.iface Terr .any)))], []⟩ (sb rfl rfl rfl) rfl ?_
 refine mv rfl ?_
 refine mv rfl ?_
 refine RO (Body.ieqN rfl un273) ?_
 refine mv rfl ?_
 refine RG.cons (EfR.sym rfl (fun hc => Body.move rfl) rfl) ?_
 refine RG.cons (EfR.sym rfl (fun hc => Body.geq (ev1_gd rfl hc) rfl) rfl) ?_
 refine RO (Body.pick rfl rfl rfl (gdB rfl) rfl (pick_and _)) ?_
 refine mv rfl ?_
 refine RG.cons (EfR.sym rfl (fun hc => Body.move rfl) rfl) ?_
 refine RG.cons (EfR.sym rfl (fun hc => Body.leq (ev1_gd rfl hc) rfl) rfl) ?_
 refine RO (Body.pick rfl rfl rfl (gdB rfl) rfl (pick_and _)) ?_
 refine mv rfl ?_
 refine RG.cons (EfR.sym rfl (fun hc => Body.move rfl) rfl) ?_
 refine RG.cons (EfR.sym rfl (fun hc => Body.call (w185 hp v hv) rfl (ds1 (ev1_gd rfl hc)) rfl) rfl) ?_
 refine RG.cons (EfR.sym rfl (fun hc => Body.move rfl) rfl) ?_
 refine RG.cons (EfR.sym rfl (fun hc => Body.seqB (a := (Lib.itoa v)) (b := s) (ev1_gd rfl hc) (ev1_gd rfl hc)) rfl) ?_
 refine RO (Body.pick rfl rfl rfl (gdB rfl) rfl (pick_and _)) ?_
 refine ag rfl ?_
 refine ag rfl ?_
 refine RN ?_
 refine Ap rfl ?_
 refine TK.ret ?_
 refine PK.ret ?_
 refine leaf (val0 := .tup [vI v, vB (bif (bif (bif false then (decide (0 ≤ v)) else false) then (decide (v ≤ 999999999)) else false) then (decide ((Lib.itoa v) = s)) else false)]) (by kernel_rfl) ?_
 exact tup2 (rfl) (lb (by rfl))
theorem w186 (hp : PowLaid) (he : ErrLaid) (s : List UInt8) (hl : s.length ≤ 1000000) : CallOk Tryz.prog 186 [vS (bsO s)] (lookM []) (.tup [vI (intV s).1, vB (intV s).2]) [] := by
 rcases w256 he s hl with ⟨v, hv, e, h⟩ | ⟨v, Terr, hv, e, h⟩
 ·rw [e]; exact w186o hp s v hv h
 ·rw [e]; exact w186n hp s v Terr hv h
set_option maxHeartbeats 4000000 in
theorem w133 (s : List UInt8) (c : UInt8) (hl : s.length ≤ 1000000) : CallOk Tryz.prog 133 [vS (bsO s), .pv (.lit (.int .u8 ((UInt8.toNat c : Nat) : Int)))] (lookM []) (vL eN (splC c s)) [] := by
 haveI := tab_ok
 obtain ⟨fn, f1, f2, f3, f4, _, f6⟩ := qf133
 refine callOk_of (Y := tab) (F := fn133) f1 (f2.trans rfl) f3 f4 f6 (Nat.le_of_ble_eq_true rfl) rfl ?_
 clear f1 f2 f3 f4 f6
 show TK _ _ _ _ _ _ ⟨[(0, vS (bsO s)), (1, .pv (.lit (.int .u8 ((UInt8.toNat c : Nat) : Int))))], []⟩
 refine At rfl ?_
 refine NR ⟨[(0, vS (bsO s)), (1, .pv (.lit (.int .u8 ((UInt8.toNat c : Nat) : Int))))], []⟩ (sb rfl rfl rfl) rfl ?_
 refine RO (Body.nilS (enc := eN) rfl) ?_
 refine RN ?_
 refine Ap rfl ?_
 refine NR ⟨[(0, vS (bsO s)), (1, .pv (.lit (.int .u8 ((UInt8.toNat c : Nat) : Int))))], []⟩ (sb rfl rfl rfl) rfl ?_
 refine RO (Body.adopt 6 1 9 rfl rfl) ?_
 refine RN ?_
 refine Ap rfl ?_
 refine NR ⟨[(0, vS (bsO s)), (1, .pv (.lit (.int .u8 ((UInt8.toNat c : Nat) : Int)))), (5, .aref 6 0)], [(6, .arr 0 1 9 (List.map eN []))]⟩ (sb rfl rfl rfl) rfl ?_
 refine ag rfl ?_
 refine RN ?_
 refine Ap rfl ?_
 refine NR ⟨[(0, vS (bsO s)), (1, .pv (.lit (.int .u8 ((UInt8.toNat c : Nat) : Int)))), (5, .aref 6 0), (6, vI 0)], [(6, .arr 0 1 9 (List.map eN []))]⟩ (sb rfl rfl rfl) rfl ?_
 refine ag rfl ?_
 refine RN ?_
 refine Ap rfl ?_
 refine TK.loop (α := Nat × Nat × Nat × List (List UInt8)) (fun x => ⟨[(0, vS (bsO s)), (1, .pv (.lit (.int .u8 ((UInt8.toNat c : Nat) : Int)))), (5, .aref 6 x.2.2.1), (6, vI ((x.2.1 : Nat) : Int)), (7, vI ((x.1 : Nat) : Int))], [(6, .arr x.2.2.1 1 9 (List.map eN x.2.2.2))]⟩) (fun x => SpcI c s x.1 x.2.1 x.2.2.2) (fun x => s.length + 1 - x.1) (0, 0, 0, []) ?_ (sb rfl rfl rfl) ?_
 · show SpcI c s 0 0 []
   exact spcI0 s
 rintro ⟨i, f, v, out⟩ hI0
 replace hI0 : SpcI c s i f out := hI0
 show TK _ _ _ _ _ _ ⟨[(0, vS (bsO s)), (1, .pv (.lit (.int .u8 ((UInt8.toNat c : Nat) : Int)))), (5, .aref 6 v), (6, vI f), (7, vI i)], [(6, .arr v 1 9 (List.map eN out))]⟩
 refine At rfl ?_
 refine NR ⟨[(0, vS (bsO s)), (1, .pv (.lit (.int .u8 ((UInt8.toNat c : Nat) : Int)))), (5, .aref 6 v), (6, vI f), (7, vI i)], [(6, .arr v 1 9 (List.map eN out))]⟩ (sb rfl rfl rfl) rfl ?_
 refine mv rfl ?_
 refine mv rfl ?_
 refine RO (Body.lenB (a := s) rfl un9) ?_
 refine RO (Body.leq rfl rfl) ?_
 refine RN ?_
 refine Ap rfl ?_
 refine TK.norm ⟨[(0, vS (bsO s)), (1, .pv (.lit (.int .u8 ((UInt8.toNat c : Nat) : Int)))), (5, .aref 6 v), (6, vI f), (7, vI i), (11, vB (decide ((i : Int) ≤ (s.length : Int))))], [(6, .arr v 1 9 (List.map eN out))]⟩ (sb rfl rfl rfl) ?_
 refine TK.condP rfl (fun h1 => ?_) (fun h1 => ?_)
 ·
  refine At rfl ?_
  refine TK.norm ⟨[(0, vS (bsO s)), (1, .pv (.lit (.int .u8 ((UInt8.toNat c : Nat) : Int)))), (5, .aref 6 v), (6, vI f), (7, vI i)], [(6, .arr v 1 9 (List.map eN out))]⟩ (sb rfl rfl rfl) ?_
  have hsp := spc_at hI0 h1
  refine TK.rg (Y := tab) mixed rfl ?_
  refine mv rfl ?_
  refine mv rfl ?_
  refine RO (Body.lenB (a := s) rfl un9) ?_
  refine RO (Body.eql rfl rfl) ?_
  refine mv rfl ?_
  refine RG.cons (EfR.sym rfl (fun hc => Body.move rfl) rfl) ?_
  refine RG.cons (EfR.sym rfl (fun hc => Body.move rfl) rfl) ?_
  refine RG.cons (EfR.sym rfl (fun hc => Body.sidx (i := i) (ev1_gd rfl hc) (ev1_gd rfl hc) un9 rfl (show i < s.length from (by (have hc2 := hc; simp at hc2; omega)))) rfl) ?_
  refine RG.cons (EfR.sym rfl (fun hc => Body.move rfl) rfl) ?_
  refine RG.cons (EfR.sym rfl (fun hc => Body.eql (ev1_gd rfl hc) (ev1_gd rfl hc)) rfl) ?_
  refine RO (Body.pick rfl rfl rfl rfl (gdB rfl) (pick_or _)) ?_
  refine RN ?_
  refine Ap rfl ?_
  refine TK.norm ⟨[(0, vS (bsO s)), (1, .pv (.lit (.int .u8 ((UInt8.toNat c : Nat) : Int)))), (5, .aref 6 v), (6, vI f), (7, vI i), (24, vB (bif (decide ((i : Int) = (s.length : Int))) then true else (decide ((byteAt (bsO s) i) = ((UInt8.toNat c : Nat) : Int)))))], [(6, .arr v 1 9 (List.map eN out))]⟩ (sb rfl rfl rfl) ?_
  refine TK.cond rfl (fun h2 => ?_) (fun h2 => ?_)
  ·
   refine At rfl ?_
   refine NR ⟨[(0, vS (bsO s)), (1, .pv (.lit (.int .u8 ((UInt8.toNat c : Nat) : Int)))), (5, .aref 6 v), (6, vI f), (7, vI i)], [(6, .arr v 1 9 (List.map eN out))]⟩ (sb rfl rfl rfl) rfl ?_
   refine rn rfl ?_
   refine mv rfl ?_
   refine mv rfl ?_
   refine mv rfl ?_
   refine RO (Body.slMB (a := s) (i := f) (j := i) rfl rfl rfl un9 rfl rfl (by omega) (by omega)) ?_
   refine RO (Body.runZ (val := .pv (.slice (List.map eN [(List.drop f (List.take i s))]))) rfl (fun l => Frz.arr l _ _ _ _ _) rfl) ?_
   refine RO (Body.append rfl rfl rfl un73 in9 rfl (fun _ => rfl) by9 (by (simp only [List.length_append, List.length_cons, List.length_nil, List.length_take, List.length_drop]; omega))) ?_
   refine rn rfl ?_
   refine RN ?_
   refine Ap rfl ?_
   refine NR ⟨[(0, vS (bsO s)), (1, .pv (.lit (.int .u8 ((UInt8.toNat c : Nat) : Int)))), (5, .aref 6 (v + 1)), (7, vI i)], [(6, .arr (v + 1) 1 9 (List.map eN (out ++ [(List.drop f (List.take i s))])))]⟩ (sb rfl rfl rfl) rfl ?_
   refine mv rfl ?_
   refine RO (Body.add rfl rfl (by unfold R64; omega)) ?_
   refine ag rfl ?_
   refine RN ?_
   refine Ap rfl ?_
   refine NR ⟨[(0, vS (bsO s)), (1, .pv (.lit (.int .u8 ((UInt8.toNat c : Nat) : Int)))), (5, .aref 6 (v + 1)), (6, vI ((i : Int) + 1)), (7, vI i)], [(6, .arr (v + 1) 1 9 (List.map eN (out ++ [(List.drop f (List.take i s))])))]⟩ (sb rfl rfl rfl) rfl ?_
   refine mv rfl ?_
   refine RO (Body.add rfl rfl (by unfold R64; omega)) ?_
   refine ag rfl ?_
   refine RN ?_
   refine Aq rfl ?_
   refine PK.lp ?_
   refine LP.mk ((i + 1), (i + 1), (v + 1), (out ++ [(List.drop f (List.take i s))])) ?_ ?_ (sb rfl rfl rfl)
   · show SpcI c s (i + 1) (i + 1) (out ++ [(List.drop f (List.take i s))])
     exact spc_stepY hI0 h1 h2
   · show s.length + 1 - (i + 1) < s.length + 1 - i
     omega
  ·
   refine At rfl ?_
   refine NR ⟨[(0, vS (bsO s)), (1, .pv (.lit (.int .u8 ((UInt8.toNat c : Nat) : Int)))), (5, .aref 6 v), (6, vI f), (7, vI i)], [(6, .arr v 1 9 (List.map eN out))]⟩ (sb rfl rfl rfl) rfl ?_
   refine mv rfl ?_
   refine RO (Body.add rfl rfl (by unfold R64; omega)) ?_
   refine ag rfl ?_
   refine RN ?_
   refine Aq rfl ?_
   refine PK.lp ?_
   refine LP.mk ((i + 1), f, v, out) ?_ ?_ (sb rfl rfl rfl)
   · show SpcI c s (i + 1) f out
     exact spc_stepN hI0 h1 h2
   · show s.length + 1 - (i + 1) < s.length + 1 - i
     omega
 ·
  refine At rfl ?_
  refine TK.exit ?_
  refine PK.exit rfl ?_
  refine Ap rfl ?_
  refine TK.norm ⟨[(5, .aref 6 v)], [(6, .arr v 1 9 (List.map eN out))]⟩ (sb rfl rfl rfl) ?_
  refine TK.frz (t := 5) rfl rfl ?_
  refine NR ⟨[(5, vL eN out)], []⟩ (sb rfl rfl rfl) rfl ?_
  refine mv rfl ?_
  refine ag rfl ?_
  refine RN ?_
  refine Ap rfl ?_
  refine TK.ret ?_
  refine PK.ret ?_
  refine leaf (val0 := vL eN out) (by kernel_rfl) ?_
  exact lsl (by exact spc_out hI0 h1)
set_option maxHeartbeats 4000000 in
theorem w132 (l : List (List UInt8)) (hl : l.length ≤ 2000000) : CallOk Tryz.prog 132 [vL eN l] (lookM []) (vL eN (fullW l)) [] := by
 haveI := tab_ok
 obtain ⟨fn, f1, f2, f3, f4, _, f6⟩ := qf132
 refine callOk_of (Y := tab) (F := fn132) f1 (f2.trans rfl) f3 f4 f6 (Nat.le_of_ble_eq_true rfl) rfl ?_
 clear f1 f2 f3 f4 f6
 have hsl := Nat.le_refl l.length
 show TK _ _ _ _ _ _ ⟨[(0, vL eN l)], []⟩
 refine At rfl ?_
 refine NR ⟨[(0, vL eN l)], []⟩ (sb rfl rfl rfl) rfl ?_
 refine RO (Body.nilS (enc := eN) rfl) ?_
 refine RN ?_
 refine Ap rfl ?_
 refine NR ⟨[(0, vL eN l)], []⟩ (sb rfl rfl rfl) rfl ?_
 refine RO (Body.adopt 4 1 9 rfl rfl) ?_
 refine RN ?_
 refine Ap rfl ?_
 refine NR ⟨[(0, vL eN l), (3, .aref 4 0)], [(4, .arr 0 1 9 (List.map eN []))]⟩ (sb rfl rfl rfl) rfl ?_
 refine ag rfl ?_
 refine RN ?_
 refine Ap rfl ?_
 refine TK.loop (α := Nat × Nat × List (List UInt8)) (fun x => ⟨[(0, vL eN l), (3, .aref 4 x.2.1), (4, vI ((x.1 : Nat) : Int))], [(4, .arr x.2.1 1 9 (List.map eN x.2.2))]⟩) (fun x => x.1 ≤ l.length ∧ x.2.2.length ≤ x.1 ∧ x.2.2 = fullW (List.take x.1 l)) (fun x => l.length - x.1) (0, 0, []) ?_ (sb rfl rfl rfl) ?_
 · show 0 ≤ l.length ∧ List.length [] ≤ 0 ∧ [] = fullW (List.take 0 l)
   exact ⟨Nat.zero_le _, Nat.zero_le _, rfl⟩
 rintro ⟨k, v, out⟩ hI0
 replace hI0 : k ≤ l.length ∧ out.length ≤ k ∧ out = fullW (List.take k l) := hI0
 show TK _ _ _ _ _ _ ⟨[(0, vL eN l), (3, .aref 4 v), (4, vI k)], [(4, .arr v 1 9 (List.map eN out))]⟩
 refine At rfl ?_
 refine NR ⟨[(0, vL eN l), (3, .aref 4 v), (4, vI k)], [(4, .arr v 1 9 (List.map eN out))]⟩ (sb rfl rfl rfl) rfl ?_
 refine mv rfl ?_
 refine mv rfl ?_
 refine RO (Body.lenL rfl un73) ?_
 refine RO (Body.lss rfl rfl) ?_
 refine RN ?_
 refine Ap rfl ?_
 refine TK.norm ⟨[(0, vL eN l), (3, .aref 4 v), (4, vI k), (8, vB (decide ((k : Int) < (l.length : Int))))], [(4, .arr v 1 9 (List.map eN out))]⟩ (sb rfl rfl rfl) ?_
 refine TK.condP rfl (fun h1 => ?_) (fun h1 => ?_)
 ·
  refine At rfl ?_
  refine NR ⟨[(0, vL eN l), (3, .aref 4 v), (4, vI k)], [(4, .arr v 1 9 (List.map eN out))]⟩ (sb rfl rfl rfl) rfl ?_
  refine mv rfl ?_
  refine mv rfl ?_
  refine RO (Body.idx (z := []) (i := k) rfl rfl un73 sz9 (fun _ => rfl) rfl (by omega)) ?_
  refine RO (Body.loadP rfl ag9 sz9) ?_
  refine RO (Body.sneB (a := (List.getD l k [])) (b := []) rfl rfl) ?_
  refine RN ?_
  refine Ap rfl ?_
  refine TK.norm ⟨[(0, vL eN l), (3, .aref 4 v), (4, vI k), (15, vB (decide ((List.getD l k []) ≠ [])))], [(4, .arr v 1 9 (List.map eN out))]⟩ (sb rfl rfl rfl) ?_
  refine TK.condP rfl (fun h2 => ?_) (fun h2 => ?_)
  ·
   refine At rfl ?_
   refine NR ⟨[(0, vL eN l), (3, .aref 4 v), (4, vI k)], [(4, .arr v 1 9 (List.map eN out))]⟩ (sb rfl rfl rfl) rfl ?_
   refine rn rfl ?_
   refine mv rfl ?_
   refine mv rfl ?_
   refine RO (Body.idx (z := []) (i := k) rfl rfl un73 sz9 (fun _ => rfl) rfl (by omega)) ?_
   refine RO (Body.loadP rfl ag9 sz9) ?_
   refine RO (Body.runZ (val := .pv (.slice (List.map eN [(List.getD l k [])]))) rfl (fun l => Frz.arr l _ _ _ _ _) rfl) ?_
   refine RO (Body.append rfl rfl rfl un73 in9 rfl (fun _ => rfl) by9 (by (simp only [List.length_append, List.length_cons, List.length_nil]; omega))) ?_
   refine rn rfl ?_
   refine RN ?_
   refine Ap rfl ?_
   refine NR ⟨[(0, vL eN l), (3, .aref 4 (v + 1)), (4, vI k)], [(4, .arr (v + 1) 1 9 (List.map eN (out ++ [(List.getD l k [])])))]⟩ (sb rfl rfl rfl) rfl ?_
   refine mv rfl ?_
   refine RO (Body.add rfl rfl (by unfold R64; omega)) ?_
   refine ag rfl ?_
   refine RN ?_
   refine Aq rfl ?_
   refine PK.lp ?_
   refine LP.mk ((k + 1), (v + 1), (out ++ [(List.getD l k [])])) ?_ ?_ (sb rfl rfl rfl)
   · show (k + 1) ≤ l.length ∧ List.length (out ++ [(List.getD l k [])]) ≤ (k + 1) ∧ (out ++ [(List.getD l k [])]) = fullW (List.take (k + 1) l)
     refine ⟨by omega, by (simp only [List.length_append, List.length_cons, List.length_nil]; omega), ?_⟩; rw [fullW_take (by omega), if_pos (by assumption), hI0.2.2]
   · show l.length - (k + 1) < l.length - k
     omega
  ·
   refine At rfl ?_
   refine NR ⟨[(0, vL eN l), (3, .aref 4 v), (4, vI k)], [(4, .arr v 1 9 (List.map eN out))]⟩ (sb rfl rfl rfl) rfl ?_
   refine mv rfl ?_
   refine RO (Body.add rfl rfl (by unfold R64; omega)) ?_
   refine ag rfl ?_
   refine RN ?_
   refine Aq rfl ?_
   refine PK.lp ?_
   refine LP.mk ((k + 1), v, out) ?_ ?_ (sb rfl rfl rfl)
   · show (k + 1) ≤ l.length ∧ out.length ≤ (k + 1) ∧ out = fullW (List.take (k + 1) l)
     refine ⟨by omega, by omega, ?_⟩; rw [fullW_take (by omega), if_neg (by assumption), hI0.2.2]
   · show l.length - (k + 1) < l.length - k
     omega
 ·
  refine At rfl ?_
  refine TK.exit ?_
  refine PK.exit rfl ?_
  refine Ap rfl ?_
  refine TK.norm ⟨[(3, .aref 4 v)], [(4, .arr v 1 9 (List.map eN out))]⟩ (sb rfl rfl rfl) ?_
  refine TK.frz (t := 3) rfl rfl ?_
  refine NR ⟨[(3, vL eN out)], []⟩ (sb rfl rfl rfl) rfl ?_
  refine mv rfl ?_
  refine ag rfl ?_
  refine RN ?_
  refine Ap rfl ?_
  refine TK.ret ?_
  refine PK.ret ?_
  refine leaf (val0 := vL eN out) (by kernel_rfl) ?_
  exact lsl (by rw [hI0.2.2, List.take_of_length_le (by omega)])
set_option maxHeartbeats 4000000 in
theorem w128 (hp : PowLaid) (s : List UInt8) (hl : s.length ≤ 1000000) : CallOk Tryz.prog 128 [vS (bsO s)] (lookM []) (vL eN (wordsP s)) [] := by
 haveI := tab_ok
 obtain ⟨fn, f1, f2, f3, f4, _, f6⟩ := qf128
 refine callOk_of (Y := tab) (F := fn128) f1 (f2.trans rfl) f3 f4 f6 (Nat.le_of_ble_eq_true rfl) rfl ?_
 clear f1 f2 f3 f4 f6
 have hsl := splS_len s
 show TK _ _ _ _ _ _ ⟨[(0, vS (bsO s))], []⟩
 refine At rfl ?_
 refine NR ⟨[(0, vS (bsO s))], []⟩ (sb rfl rfl rfl) rfl ?_
 refine RO (Body.nilS (enc := eN) rfl) ?_
 refine RN ?_
 refine Ap rfl ?_
 refine NR ⟨[(0, vS (bsO s))], []⟩ (sb rfl rfl rfl) rfl ?_
 refine RO (Body.adopt 4 1 9 rfl rfl) ?_
 refine RN ?_
 refine Ap rfl ?_
 refine NR ⟨[(0, vS (bsO s)), (3, .aref 4 0)], [(4, .arr 0 1 9 (List.map eN []))]⟩ (sb rfl rfl rfl) rfl ?_
 refine mv rfl ?_
 refine RO (Body.call (w116 hp s hl) rfl rfl rfl) ?_
 refine RO (Body.lenL rfl un73) ?_
 refine mv rfl ?_
 refine RN ?_
 refine Ap rfl ?_
 refine TK.loop (α := Nat × Nat × List (List UInt8)) (fun x => ⟨[(3, .aref 4 x.2.1), (7, vL eN (splS s)), (8, vI ((List.length (splS s) : Nat) : Int)), (9, vI ((x.1 : Nat) : Int))], [(4, .arr x.2.1 1 9 (List.map eN x.2.2))]⟩) (fun x => x.1 ≤ List.length (splS s) ∧ x.2.2.length ≤ x.1 ∧ x.2.2 = fullW (List.take x.1 (splS s))) (fun x => List.length (splS s) - x.1) (0, 0, []) ?_ (sb rfl rfl rfl) ?_
 · show 0 ≤ List.length (splS s) ∧ List.length [] ≤ 0 ∧ [] = fullW (List.take 0 (splS s))
   exact ⟨Nat.zero_le _, Nat.zero_le _, rfl⟩
 rintro ⟨k, v, out⟩ hI0
 replace hI0 : k ≤ List.length (splS s) ∧ out.length ≤ k ∧ out = fullW (List.take k (splS s)) := hI0
 show TK _ _ _ _ _ _ ⟨[(3, .aref 4 v), (7, vL eN (splS s)), (8, vI ((List.length (splS s) : Nat) : Int)), (9, vI k)], [(4, .arr v 1 9 (List.map eN out))]⟩
 refine At rfl ?_
 refine NR ⟨[(3, .aref 4 v), (7, vL eN (splS s)), (8, vI ((List.length (splS s) : Nat) : Int)), (9, vI k)], [(4, .arr v 1 9 (List.map eN out))]⟩ (sb rfl rfl rfl) rfl ?_
 refine RO (Body.lss rfl rfl) ?_
 refine RN ?_
 refine Ap rfl ?_
 refine TK.norm ⟨[(3, .aref 4 v), (7, vL eN (splS s)), (8, vI ((List.length (splS s) : Nat) : Int)), (9, vI k), (10, vB (decide ((k : Int) < ((List.length (splS s) : Nat) : Int))))], [(4, .arr v 1 9 (List.map eN out))]⟩ (sb rfl rfl rfl) ?_
 refine TK.condP rfl (fun h1 => ?_) (fun h1 => ?_)
 ·
  refine At rfl ?_
  refine NR ⟨[(3, .aref 4 v), (7, vL eN (splS s)), (8, vI ((List.length (splS s) : Nat) : Int)), (9, vI k)], [(4, .arr v 1 9 (List.map eN out))]⟩ (sb rfl rfl rfl) rfl ?_
  refine RO (Body.idx (z := []) (i := k) rfl rfl un73 sz9 (fun _ => rfl) rfl (by omega)) ?_
  refine RO (Body.loadP rfl ag9 sz9) ?_
  refine ag rfl ?_
  refine RN ?_
  refine Ap rfl ?_
  refine NR ⟨[(3, .aref 4 v), (5, vS (bsO (List.getD (splS s) k []))), (7, vL eN (splS s)), (8, vI ((List.length (splS s) : Nat) : Int)), (9, vI k)], [(4, .arr v 1 9 (List.map eN out))]⟩ (sb rfl rfl rfl) rfl ?_
  refine mv rfl ?_
  refine RO (Body.sneB (a := (List.getD (splS s) k [])) (b := []) rfl rfl) ?_
  refine RN ?_
  refine Ap rfl ?_
  refine TK.norm ⟨[(3, .aref 4 v), (5, vS (bsO (List.getD (splS s) k []))), (7, vL eN (splS s)), (8, vI ((List.length (splS s) : Nat) : Int)), (9, vI k), (14, vB (decide ((List.getD (splS s) k []) ≠ [])))], [(4, .arr v 1 9 (List.map eN out))]⟩ (sb rfl rfl rfl) ?_
  refine TK.condP rfl (fun h2 => ?_) (fun h2 => ?_)
  ·
   refine At rfl ?_
   refine NR ⟨[(3, .aref 4 v), (5, vS (bsO (List.getD (splS s) k []))), (7, vL eN (splS s)), (8, vI ((List.length (splS s) : Nat) : Int)), (9, vI k)], [(4, .arr v 1 9 (List.map eN out))]⟩ (sb rfl rfl rfl) rfl ?_
   refine rn rfl ?_
   refine mv rfl ?_
   refine RO (Body.runZ (val := .pv (.slice (List.map eN [(List.getD (splS s) k [])]))) rfl (fun l => Frz.arr l _ _ _ _ _) rfl) ?_
   refine RO (Body.append rfl rfl rfl un73 in9 rfl (fun _ => rfl) by9 (by (simp only [List.length_append, List.length_cons, List.length_nil]; omega))) ?_
   refine rn rfl ?_
   refine RN ?_
   refine Ap rfl ?_
   refine NR ⟨[(3, .aref 4 (v + 1)), (7, vL eN (splS s)), (8, vI ((List.length (splS s) : Nat) : Int)), (9, vI k)], [(4, .arr (v + 1) 1 9 (List.map eN (out ++ [(List.getD (splS s) k [])])))]⟩ (sb rfl rfl rfl) rfl ?_
   refine RO (Body.add rfl rfl (by unfold R64; omega)) ?_
   refine mv rfl ?_
   refine RN ?_
   refine Aq rfl ?_
   refine PK.lp ?_
   refine LP.mk ((k + 1), (v + 1), (out ++ [(List.getD (splS s) k [])])) ?_ ?_ (sb rfl rfl rfl)
   · show (k + 1) ≤ List.length (splS s) ∧ List.length (out ++ [(List.getD (splS s) k [])]) ≤ (k + 1) ∧ (out ++ [(List.getD (splS s) k [])]) = fullW (List.take (k + 1) (splS s))
     refine ⟨by omega, by (simp only [List.length_append, List.length_cons, List.length_nil]; omega), ?_⟩; rw [fullW_take (by omega), if_pos (by assumption), hI0.2.2]
   · show List.length (splS s) - (k + 1) < List.length (splS s) - k
     omega
  ·
   refine At rfl ?_
   refine NR ⟨[(3, .aref 4 v), (7, vL eN (splS s)), (8, vI ((List.length (splS s) : Nat) : Int)), (9, vI k)], [(4, .arr v 1 9 (List.map eN out))]⟩ (sb rfl rfl rfl) rfl ?_
   refine RO (Body.add rfl rfl (by unfold R64; omega)) ?_
   refine mv rfl ?_
   refine RN ?_
   refine Aq rfl ?_
   refine PK.lp ?_
   refine LP.mk ((k + 1), v, out) ?_ ?_ (sb rfl rfl rfl)
   · show (k + 1) ≤ List.length (splS s) ∧ out.length ≤ (k + 1) ∧ out = fullW (List.take (k + 1) (splS s))
     refine ⟨by omega, by omega, ?_⟩; rw [fullW_take (by omega), if_neg (by assumption), hI0.2.2]
   · show List.length (splS s) - (k + 1) < List.length (splS s) - k
     omega
 ·
  refine At rfl ?_
  refine TK.exit ?_
  refine PK.exit rfl ?_
  refine Ap rfl ?_
  refine TK.norm ⟨[(3, .aref 4 v)], [(4, .arr v 1 9 (List.map eN out))]⟩ (sb rfl rfl rfl) ?_
  refine TK.frz (t := 3) rfl rfl ?_
  refine NR ⟨[(3, vL eN out)], []⟩ (sb rfl rfl rfl) rfl ?_
  refine mv rfl ?_
  refine ag rfl ?_
  refine RN ?_
  refine Ap rfl ?_
  refine TK.ret ?_
  refine PK.ret ?_
  refine leaf (val0 := vL eN out) (by kernel_rfl) ?_
  exact lsl (by rw [hI0.2.2, List.take_of_length_le (by omega)]; rfl)
theorem w132w (s : List UInt8) (hl : s.length ≤ 1000000) : CallOk Tryz.prog 132 [vL eN (splS s)] (lookM []) (vL eN (wordsP s)) [] := w132 (splS s) (by have := splS_len s; omega)
theorem w133s (s : List UInt8) (hl : s.length ≤ 1000000) : CallOk Tryz.prog 133 [vS (bsO s), .pv (.lit (.int .u8 32))] (lookM []) (vL eN (splS s)) [] := by
 have := w133 s 32 hl
 rwa [splC_32] at this
theorem w133c (s : List UInt8) (hl : s.length ≤ 1000000) : CallOk Tryz.prog 133 [vS (bsO s), .pv (.lit (.int .u8 59))] (lookM []) (vL eN (splC 59 s)) [] := w133 s 59 hl
set_option maxHeartbeats 4000000 in
theorem w170c (hp : PowLaid) (s : List UInt8) (c : UInt8) (hl : s.length ≤ 1000000) : CallOk Tryz.prog 170 [vS (bsO s), vS (bsO [c]), vI 0, vI (-1)] (lookM []) (vL eN (splC c s)) [] := by
 haveI := tab_ok
 obtain ⟨fn, f1, f2, f3, f4, _, f6⟩ := qf170
 refine callOk_of (Y := tab) (F := fn170) f1 (f2.trans rfl) f3 f4 f6 (Nat.le_of_ble_eq_true rfl) rfl ?_
 clear f1 f2 f3 f4 f6
 show TK _ _ _ _ _ _ ⟨[(0, vS (bsO s)), (1, vS (bsO [c])), (2, vI 0), (3, vI (-1))], []⟩
 refine At rfl ?_
 refine NR ⟨[(0, vS (bsO s)), (1, vS (bsO [c])), (2, vI 0), (3, vI (-1))], []⟩ (sb rfl rfl rfl) rfl ?_
 refine RO (Body.nilS (enc := eN) rfl) ?_
 refine RN ?_
 refine Ap rfl ?_
 refine NR ⟨[(0, vS (bsO s)), (1, vS (bsO [c])), (2, vI 0), (3, vI (-1))], []⟩ (sb rfl rfl rfl) rfl ?_
 refine mv rfl ?_
 refine RO (Body.eql rfl rfl) ?_
 refine RN ?_
 refine Ap rfl ?_
 refine TK.norm ⟨[(0, vS (bsO s)), (1, vS (bsO [c])), (2, vI 0), (3, vI (-1)), (13, vB (decide ((-1) = 0)))], []⟩ (sb rfl rfl rfl) ?_
 refine TK.condF rfl ?_
 refine At rfl ?_
 refine NR ⟨[(0, vS (bsO s)), (1, vS (bsO [c])), (2, vI 0), (3, vI (-1))], []⟩ (sb rfl rfl rfl) rfl ?_
 refine mv rfl ?_
 refine RO (Body.seqB (a := [c]) (b := []) rfl rfl) ?_
 refine RN ?_
 refine Ap rfl ?_
 refine TK.norm ⟨[(0, vS (bsO s)), (1, vS (bsO [c])), (2, vI 0), (3, vI (-1)), (15, vB (decide ([c] = [])))], []⟩ (sb rfl rfl rfl) ?_
 refine TK.condF rfl ?_
 refine At rfl ?_
 refine NR ⟨[(0, vS (bsO s)), (1, vS (bsO [c])), (2, vI 0), (3, vI (-1))], []⟩ (sb rfl rfl rfl) rfl ?_
 refine mv rfl ?_
 refine RO (Body.lss rfl rfl) ?_
 refine RN ?_
 refine Ap rfl ?_
 refine TK.norm ⟨[(0, vS (bsO s)), (1, vS (bsO [c])), (2, vI 0), (3, vI (-1)), (20, vB (decide ((-1) < 0)))], []⟩ (sb rfl rfl rfl) ?_
 refine TK.condT rfl ?_
 refine At rfl ?_
 refine TK.norm ⟨[(0, vS (bsO s)), (1, vS (bsO [c])), (2, vI 0)], []⟩ (sb rfl rfl rfl) ?_
 have hcl : List.count c s ≤ s.length := List.count_le_length
 refine TK.rg (Y := tab) mixed rfl ?_
 refine mv rfl ?_
 refine mv rfl ?_
 refine RO (Body.call (w244 hp s c (by omega)) rfl rfl rfl) ?_
 refine RO (Body.add rfl rfl (by unfold R64; omega)) ?_
 refine ag rfl ?_
 refine RN ?_
 refine Ap rfl ?_
 refine NR ⟨[(0, vS (bsO s)), (1, vS (bsO [c])), (2, vI 0), (3, vI (((List.count c s : Nat) : Int) + 1))], []⟩ (sb rfl rfl rfl) rfl ?_
 refine mv rfl ?_
 refine mv rfl ?_
 refine RO (Body.lenB (a := s) rfl un9) ?_
 refine RO (Body.add rfl rfl (by unfold R64; omega)) ?_
 refine RO (Body.min rfl rfl) ?_
 refine ag rfl ?_
 refine RN ?_
 refine Ap rfl ?_
 refine TK.norm ⟨[(0, vS (bsO s)), (1, vS (bsO [c])), (2, vI 0), (3, vI (min (((List.count c s : Nat) : Int) + 1) ((s.length : Int) + 1)))], []⟩ (sb rfl rfl rfl) ?_
 obtain ⟨n2, hn2⟩ : ∃ n2, n2 = List.count c s + 1 := ⟨_, rfl⟩
 rw [show (min (((List.count c s : Nat) : Int) + 1) ((s.length : Int) + 1)) = (n2 : Int) by omega]
 refine TK.rg (Y := tab) mixed rfl ?_
 refine mv rfl ?_
 refine RO (Body.makeSl (enc := eN) (sz := 1) (z0 := []) (n := n2) (m := n2) rfl rfl rfl un73 in9 rfl rfl rfl by9 (by omega) rfl rfl) ?_
 refine rn rfl ?_
 refine RN ?_
 refine Ap rfl ?_
 refine NR ⟨[(0, vS (bsO s)), (1, vS (bsO [c])), (2, vI 0), (3, vI n2), (9, .aref 32 0)], [(32, .arr 0 1 9 (List.map eN (List.replicate n2 [])))]⟩ (sb rfl rfl rfl) rfl ?_
 refine mv rfl ?_
 refine RO (Body.sub rfl rfl (by unfold R64; omega)) ?_
 refine ag rfl ?_
 refine RN ?_
 refine Ap rfl ?_
 refine NR ⟨[(0, vS (bsO s)), (1, vS (bsO [c])), (2, vI 0), (3, vI ((n2 : Int) - 1)), (9, .aref 32 0)], [(32, .arr 0 1 9 (List.map eN (List.replicate n2 [])))]⟩ (sb rfl rfl rfl) rfl ?_
 refine ag rfl ?_
 refine RN ?_
 refine Ap rfl ?_
 refine TK.loop (α := Nat × List (List UInt8) × List UInt8) (fun x => ⟨[(0, vS (bsO x.2.2)), (1, vS (bsO [c])), (2, vI 0), (3, vI ((n2 : Int) - 1)), (9, .aref 32 0), (10, vI ((x.1 : Nat) : Int))], [(32, .arr 0 1 9 (List.map eN x.2.1))]⟩) (fun x => GsC c s n2 x.1 x.2.1 x.2.2) (fun x => n2 - x.1) (0, (List.replicate n2 []), s) ?_ (sb rfl rfl rfl) ?_
 · show GsC c s n2 0 (List.replicate n2 []) s
   exact ⟨List.length_replicate, Nat.le_refl _, by omega, by simp⟩
 rintro ⟨i, a, q⟩ hI0
 replace hI0 : GsC c s n2 i a q := hI0
 have hal := hI0.1
 have hil := hI0.2.2.1
 show TK _ _ _ _ _ _ ⟨[(0, vS (bsO q)), (1, vS (bsO [c])), (2, vI 0), (3, vI ((n2 : Int) - 1)), (9, .aref 32 0), (10, vI i)], [(32, .arr 0 1 9 (List.map eN a))]⟩
 refine At rfl ?_
 refine NR ⟨[(0, vS (bsO q)), (1, vS (bsO [c])), (2, vI 0), (3, vI ((n2 : Int) - 1)), (9, .aref 32 0), (10, vI i)], [(32, .arr 0 1 9 (List.map eN a))]⟩ (sb rfl rfl rfl) rfl ?_
 refine mv rfl ?_
 refine mv rfl ?_
 refine RO (Body.lss rfl rfl) ?_
 refine RN ?_
 refine Ap rfl ?_
 refine TK.norm ⟨[(0, vS (bsO q)), (1, vS (bsO [c])), (2, vI 0), (3, vI ((n2 : Int) - 1)), (9, .aref 32 0), (10, vI i), (36, vB (decide ((i : Int) < ((n2 : Int) - 1))))], [(32, .arr 0 1 9 (List.map eN a))]⟩ (sb rfl rfl rfl) ?_
 refine TK.condP rfl (fun h1 => ?_) (fun h1 => ?_)
 ·
  refine At rfl ?_
  refine TK.norm ⟨[(0, vS (bsO q)), (1, vS (bsO [c])), (2, vI 0), (3, vI ((n2 : Int) - 1)), (9, .aref 32 0), (10, vI i)], [(32, .arr 0 1 9 (List.map eN a))]⟩ (sb rfl rfl rfl) ?_
  have hql := hI0.2.1
  refine TK.rg (Y := tab) mixed rfl ?_
  refine mv rfl ?_
  refine mv rfl ?_
  refine RO (Body.call (w245 hp q c (by omega)) rfl rfl rfl) ?_
  refine ag rfl ?_
  refine RN ?_
  refine Ap rfl ?_
  refine NR ⟨[(0, vS (bsO q)), (1, vS (bsO [c])), (2, vI 0), (3, vI ((n2 : Int) - 1)), (9, .aref 32 0), (10, vI i), (11, vI (Lib.indexByte q c))], [(32, .arr 0 1 9 (List.map eN a))]⟩ (sb rfl rfl rfl) rfl ?_
  refine mv rfl ?_
  refine RO (Body.lss rfl rfl) ?_
  refine RN ?_
  refine Ap rfl ?_
  refine TK.norm ⟨[(0, vS (bsO q)), (1, vS (bsO [c])), (2, vI 0), (3, vI ((n2 : Int) - 1)), (9, .aref 32 0), (10, vI i), (11, vI (Lib.indexByte q c)), (41, vB (decide ((Lib.indexByte q c) < 0)))], [(32, .arr 0 1 9 (List.map eN a))]⟩ (sb rfl rfl rfl) ?_
  refine TK.condP rfl (fun h2 => ?_) (fun h2 => ?_)
  ·
   refine At rfl ?_
   refine TK.exit ?_
   refine PK.exit rfl ?_
   refine Ap rfl ?_
   refine TK.norm ⟨[(0, vS (bsO q)), (9, .aref 32 0), (10, vI i)], [(32, .arr 0 1 9 (List.map eN a))]⟩ (sb rfl rfl rfl) ?_
   have hal := hI0.1
   have hil := hI0.2.2.1
   refine TK.rg (Y := tab) mixed rfl ?_
   refine rn rfl ?_
   refine mv rfl ?_
   refine mv rfl ?_
   refine RO (Body.idxE (n := i) rfl rfl rfl un73 sz9 rfl (by omega)) ?_
   refine RO (Body.setE (z0 := q) rfl rfl rfl rfl rfl sz9 (by omega) (fun _ => rfl)) ?_
   refine RN ?_
   refine Ap rfl ?_
   refine TK.norm ⟨[(9, .aref 32 0), (10, vI i)], [(32, .arr 0 1 9 (List.map eN (List.set a i q)))]⟩ (sb rfl rfl rfl) ?_
   refine TK.frz (t := 9) rfl rfl ?_
   refine NR ⟨[(9, vL eN (List.set a i q)), (10, vI i)], []⟩ (sb rfl rfl rfl) rfl ?_
   refine mv rfl ?_
   refine mv rfl ?_
   refine RO (Body.add rfl rfl (by unfold R64; omega)) ?_
   refine RO (Body.slT (j := (i + 1)) rfl rfl un73 sz9 (by omega) (by (simp only [List.length_set]; omega))) ?_
   refine ag rfl ?_
   refine RN ?_
   refine Ap rfl ?_
   refine TK.ret ?_
   refine PK.ret ?_
   refine leaf (val0 := vL eN (List.take (i + 1) (List.set a i q))) (by kernel_rfl) ?_
   exact lsl (by exact gsc_end hI0 (ix_neg (by assumption)))
  ·
   refine At rfl ?_
   refine TK.norm ⟨[(0, vS (bsO q)), (1, vS (bsO [c])), (2, vI 0), (3, vI ((n2 : Int) - 1)), (9, .aref 32 0), (10, vI i), (11, vI (Lib.indexByte q c))], [(32, .arr 0 1 9 (List.map eN a))]⟩ (sb rfl rfl rfl) ?_
   obtain ⟨m, hm, hmq, hm2, hm3⟩ := ix_nat (show 0 ≤ Lib.indexByte q c by omega)
   rw [hm]
   refine TK.rg (Y := tab) mixed rfl ?_
   refine rn rfl ?_
   refine mv rfl ?_
   refine mv rfl ?_
   refine mv rfl ?_
   refine mv rfl ?_
   refine RO (Body.add rfl rfl (by unfold R64; omega)) ?_
   refine RO (Body.slHB (a := q) (j := (Int.toNat ((m : Int) + 0))) rfl rfl un9 (Int.toNat_of_nonneg (by omega)).symm (by omega)) ?_
   refine RO (Body.idxE (n := i) rfl rfl rfl un73 sz9 rfl (by omega)) ?_
   refine RO (Body.setE (z0 := (List.take (Int.toNat ((m : Int) + 0)) q)) rfl rfl rfl rfl rfl sz9 (by omega) (fun _ => rfl)) ?_
   refine RN ?_
   refine Ap rfl ?_
   refine NR ⟨[(0, vS (bsO q)), (1, vS (bsO [c])), (2, vI 0), (3, vI ((n2 : Int) - 1)), (9, .aref 32 0), (10, vI i), (11, vI m)], [(32, .arr 0 1 9 (List.map eN (List.set a i (List.take (Int.toNat ((m : Int) + 0)) q))))]⟩ (sb rfl rfl rfl) rfl ?_
   refine mv rfl ?_
   refine mv rfl ?_
   refine mv rfl ?_
   refine RO (Body.lenB1 (c := c) rfl un9) ?_
   refine RO (Body.add rfl rfl (by unfold R64; omega)) ?_
   refine RO (Body.slLB (a := q) (i := (m + 1)) rfl rfl un9 (by omega) (by omega)) ?_
   refine ag rfl ?_
   refine RN ?_
   refine Ap rfl ?_
   refine NR ⟨[(0, vS (bsO (List.drop (m + 1) q))), (1, vS (bsO [c])), (2, vI 0), (3, vI ((n2 : Int) - 1)), (9, .aref 32 0), (10, vI i)], [(32, .arr 0 1 9 (List.map eN (List.set a i (List.take (Int.toNat ((m : Int) + 0)) q))))]⟩ (sb rfl rfl rfl) rfl ?_
   refine mv rfl ?_
   refine RO (Body.add rfl rfl (by unfold R64; omega)) ?_
   refine ag rfl ?_
   refine RN ?_
   refine Aq rfl ?_
   refine PK.lp ?_
   refine LP.mk ((i + 1), (List.set a i (List.take (Int.toNat ((m : Int) + 0)) q)), (List.drop (m + 1) q)) ?_ ?_ (sb rfl rfl rfl)
   · show GsC c s n2 (i + 1) (List.set a i (List.take (Int.toNat ((m : Int) + 0)) q)) (List.drop (m + 1) q)
     exact gsc_step hI0 hm hmq hm2 hm3
   · show n2 - (i + 1) < n2 - i
     omega
 ·
  refine At rfl ?_
  refine TK.exit ?_
  refine PK.exit rfl ?_
  refine Ap rfl ?_
  refine TK.norm ⟨[(0, vS (bsO q)), (9, .aref 32 0), (10, vI i)], [(32, .arr 0 1 9 (List.map eN a))]⟩ (sb rfl rfl rfl) ?_
  have hal := hI0.1
  have hil := hI0.2.2.1
  refine TK.rg (Y := tab) mixed rfl ?_
  refine rn rfl ?_
  refine mv rfl ?_
  refine mv rfl ?_
  refine RO (Body.idxE (n := i) rfl rfl rfl un73 sz9 rfl (by omega)) ?_
  refine RO (Body.setE (z0 := q) rfl rfl rfl rfl rfl sz9 (by omega) (fun _ => rfl)) ?_
  refine RN ?_
  refine Ap rfl ?_
  refine TK.norm ⟨[(9, .aref 32 0), (10, vI i)], [(32, .arr 0 1 9 (List.map eN (List.set a i q)))]⟩ (sb rfl rfl rfl) ?_
  refine TK.frz (t := 9) rfl rfl ?_
  refine NR ⟨[(9, vL eN (List.set a i q)), (10, vI i)], []⟩ (sb rfl rfl rfl) rfl ?_
  refine mv rfl ?_
  refine mv rfl ?_
  refine RO (Body.add rfl rfl (by unfold R64; omega)) ?_
  refine RO (Body.slT (j := (i + 1)) rfl rfl un73 sz9 (by omega) (by (simp only [List.length_set]; omega))) ?_
  refine ag rfl ?_
  refine RN ?_
  refine Ap rfl ?_
  refine TK.ret ?_
  refine PK.ret ?_
  refine leaf (val0 := vL eN (List.take (i + 1) (List.set a i q))) (by kernel_rfl) ?_
  exact lsl (by exact gsc_end hI0 (gsc_no hI0 (by assumption)))
set_option maxHeartbeats 4000000 in
theorem w116c (hp : PowLaid) (s : List UInt8) (c : UInt8) (hl : s.length ≤ 1000000) : CallOk Tryz.prog 116 [vS (bsO s), vS (bsO [c])] (lookM []) (vL eN (splC c s)) [] := by
 haveI := tab_ok
 obtain ⟨fn, f1, f2, f3, f4, _, f6⟩ := qf116
 refine callOk_of (Y := tab) (F := fn116) f1 (f2.trans rfl) f3 f4 f6 (Nat.le_of_ble_eq_true rfl) rfl ?_
 clear f1 f2 f3 f4 f6
 show TK _ _ _ _ _ _ ⟨[(0, vS (bsO s)), (1, vS (bsO [c]))], []⟩
 refine At rfl ?_
 refine NR ⟨[(0, vS (bsO s)), (1, vS (bsO [c]))], []⟩ (sb rfl rfl rfl) rfl ?_
 refine RO (Body.nilS (enc := eN) rfl) ?_
 refine RN ?_
 refine Ap rfl ?_
 refine NR ⟨[(0, vS (bsO s)), (1, vS (bsO [c]))], []⟩ (sb rfl rfl rfl) rfl ?_
 refine mv rfl ?_
 refine mv rfl ?_
 refine RO (Body.call (w170c hp s c hl) rfl rfl rfl) ?_
 refine ag rfl ?_
 refine RN ?_
 refine Ap rfl ?_
 refine TK.ret ?_
 refine PK.ret ?_
 refine leaf (val0 := vL eN (splC c s)) (by kernel_rfl) ?_
 exact rfl
set_option maxHeartbeats 4000000 in
theorem w129 (hp : PowLaid) (he : ErrLaid) (s : List UInt8) (hl : s.length ≤ 1000000) : CallOk Tryz.prog 129 [vS (bsO s)] (lookM []) (.tup [.pv (.agg [pS (bsO (Prod.fst (Prod.fst (cmdV s)))), pS (bsO (Prod.fst (Prod.snd (cmdV s).1))), pI (Prod.snd (Prod.snd (cmdV s).1))]), vB (cmdV s).2]) [] := by
 haveI := tab_ok
 obtain ⟨fn, f1, f2, f3, f4, _, f6⟩ := qf129
 refine callOk_of (Y := tab) (F := fn129) f1 (f2.trans rfl) f3 f4 f6 (Nat.le_of_ble_eq_true rfl) rfl ?_
 clear f1 f2 f3 f4 f6
 show TK _ _ _ _ _ _ ⟨[(0, vS (bsO s))], []⟩
 refine At rfl ?_
 refine NR ⟨[(0, vS (bsO s))], []⟩ (sb rfl rfl rfl) rfl ?_
 refine rn rfl ?_
 refine ag rfl ?_
 refine RN ?_
 refine Ap rfl ?_
 refine NR ⟨[(0, vS (bsO s)), (2, .bref 3 0)], [(3, .box 116 [vS (bsO []), vS (bsO []), vI 0])]⟩ (sb rfl rfl rfl) rfl ?_
 refine mv rfl ?_
 refine RO (Body.call (w128 hp s (by omega)) rfl rfl rfl) ?_
 refine ag rfl ?_
 refine RN ?_
 refine Ap rfl ?_
 refine NR ⟨[(2, .bref 3 0), (4, vL eN (wordsP s))], [(3, .box 116 [vS (bsO []), vS (bsO []), vI 0])]⟩ (sb rfl rfl rfl) rfl ?_
 refine mv rfl ?_
 refine RO (Body.lenL rfl un73) ?_
 refine RO (Body.eql rfl rfl) ?_
 refine RN ?_
 refine Ap rfl ?_
 refine TK.norm ⟨[(2, .bref 3 0), (4, vL eN (wordsP s)), (11, vB (decide (((List.length (wordsP s) : Nat) : Int) = 0)))], [(3, .box 116 [vS (bsO []), vS (bsO []), vI 0])]⟩ (sb rfl rfl rfl) ?_
 refine TK.condP rfl (fun h1 => ?_) (fun h1 => ?_)
 ·
  refine At rfl ?_
  refine NR ⟨[(2, .bref 3 0)], [(3, .box 116 [vS (bsO []), vS (bsO []), vI 0])]⟩ (sb rfl rfl rfl) rfl ?_
  refine rn rfl ?_
  refine rn rfl ?_
  refine ag rfl ?_
  refine RN ?_
  refine Ap rfl ?_
  refine TK.ret ?_
  refine PK.ret ?_
  refine leaf (val0 := .tup [.pv (.agg [pS (bsO []), pS (bsO []), pI 0]), vB false]) (by kernel_rfl) ?_
  exact tup2 (lag (lcons (pls (by rw [cv_0 h1])) (lcons (pls (by rw [cv_0 h1])) (lcons (pli (by rw [cv_0 h1])) rfl)))) (lb (by rw [cv_0 h1]))
 ·
  refine At rfl ?_
  refine NR ⟨[(2, .bref 3 0), (4, vL eN (wordsP s))], [(3, .box 116 [vS (bsO []), vS (bsO []), vI 0])]⟩ (sb rfl rfl rfl) rfl ?_
  refine mv rfl ?_
  refine RO (Body.idx (z := []) (i := 0) rfl rfl un73 sz9 (fun _ => rfl) rfl (by omega)) ?_
  refine RO (Body.loadP rfl ag9 sz9) ?_
  refine rn rfl ?_
  refine rn rfl ?_
  refine rn rfl ?_
  refine RN ?_
  refine Ap rfl ?_
  refine NR ⟨[(2, .bref 3 0), (4, vL eN (wordsP s)), (5, .bref 6 0)], [(3, .box 116 [vS (bsO []), vS (bsO []), vI 0]), (6, .box 116 [vS (bsO (List.getD (wordsP s) 0 [])), vS (bsO []), vI 0])]⟩ (sb rfl rfl rfl) rfl ?_
  refine ag rfl ?_
  refine RN ?_
  refine Ap rfl ?_
  refine NR ⟨[(2, .bref 3 0), (4, vL eN (wordsP s)), (5, .bref 6 0), (6, vB false)], [(3, .box 116 [vS (bsO []), vS (bsO []), vI 0]), (6, .box 116 [vS (bsO (List.getD (wordsP s) 0 [])), vS (bsO []), vI 0])]⟩ (sb rfl rfl rfl) rfl ?_
  refine RO (Body.fadB rfl fa116_0 rfl) ?_
  refine RO (Body.loadB rfl rfl rfl ag9 sz9 rfl) ?_
  refine RO (Body.seqB (a := (List.getD (wordsP s) 0 [])) (b := [101, 110, 100]) rfl rfl) ?_
  refine mv rfl ?_
  refine RG.cons (EfR.sym rfl (fun hc => Body.move rfl) rfl) ?_
  refine RG.cons (EfR.sym rfl (fun hc => Body.lenL (ev1_gd rfl hc) un73) rfl) ?_
  refine RG.cons (EfR.sym rfl (fun hc => Body.eql (ev1_gd rfl hc) rfl) rfl) ?_
  refine RO (Body.pick rfl rfl rfl (gdB rfl) rfl (pick_and _)) ?_
  refine ag rfl ?_
  refine RN ?_
  refine Ap rfl ?_
  refine TK.norm ⟨[(2, .bref 3 0), (4, vL eN (wordsP s)), (5, .bref 6 0), (6, vB false), (17, vB (bif (decide ((List.getD (wordsP s) 0 []) = [101, 110, 100])) then (decide (((List.length (wordsP s) : Nat) : Int) = 1)) else false))], [(3, .box 116 [vS (bsO []), vS (bsO []), vI 0]), (6, .box 116 [vS (bsO (List.getD (wordsP s) 0 [])), vS (bsO []), vI 0])]⟩ (sb rfl rfl rfl) ?_
  refine TK.cond rfl (fun h2 => ?_) (fun h2 => ?_)
  ·
   refine At rfl ?_
   refine NR ⟨[(2, .bref 3 0), (5, .bref 6 0)], [(3, .box 116 [vS (bsO []), vS (bsO []), vI 0]), (6, .box 116 [vS (bsO (List.getD (wordsP s) 0 [])), vS (bsO []), vI 0])]⟩ (sb rfl rfl rfl) rfl ?_
   refine RO (Body.loadBA rfl rfl rfl ag116 sz116 rfl rfl) ?_
   refine rn rfl ?_
   refine ag rfl ?_
   refine RN ?_
   refine Ap rfl ?_
   refine TK.ret ?_
   refine PK.ret ?_
   refine leaf (val0 := .tup [.pv (.agg [pS (bsO (List.getD (wordsP s) 0 [])), pS (bsO []), pI 0]), vB true]) (by kernel_rfl) ?_
   exact tup2 (lag (lcons (pls (by rw [cv_E h1 h2])) (lcons (pls (by rw [cv_E h1 h2])) (lcons (pli (by rw [cv_E h1 h2])) rfl)))) (lb (by rw [cv_E h1 h2]))
  ·
   refine At rfl ?_
   refine NR ⟨[(2, .bref 3 0), (4, vL eN (wordsP s)), (5, .bref 6 0), (6, vB false)], [(3, .box 116 [vS (bsO []), vS (bsO []), vI 0]), (6, .box 116 [vS (bsO (List.getD (wordsP s) 0 [])), vS (bsO []), vI 0])]⟩ (sb rfl rfl rfl) rfl ?_
   refine RO (Body.fadB rfl fa116_0 rfl) ?_
   refine RO (Body.loadB rfl rfl rfl ag9 sz9 rfl) ?_
   refine RO (Body.seqB (a := (List.getD (wordsP s) 0 [])) (b := [97, 99, 116]) rfl rfl) ?_
   refine mv rfl ?_
   refine RG.cons (EfR.sym rfl (fun hc => Body.move rfl) rfl) ?_
   refine RG.cons (EfR.sym rfl (fun hc => Body.lenL (ev1_gd rfl hc) un73) rfl) ?_
   refine RG.cons (EfR.sym rfl (fun hc => Body.eql (ev1_gd rfl hc) rfl) rfl) ?_
   refine RO (Body.pick rfl rfl rfl (gdB rfl) rfl (pick_and _)) ?_
   refine ag rfl ?_
   refine RN ?_
   refine Ap rfl ?_
   refine TK.norm ⟨[(2, .bref 3 0), (4, vL eN (wordsP s)), (5, .bref 6 0), (6, vB false), (27, vB (bif (decide ((List.getD (wordsP s) 0 []) = [97, 99, 116])) then (decide (((List.length (wordsP s) : Nat) : Int) = 2)) else false))], [(3, .box 116 [vS (bsO []), vS (bsO []), vI 0]), (6, .box 116 [vS (bsO (List.getD (wordsP s) 0 [])), vS (bsO []), vI 0])]⟩ (sb rfl rfl rfl) ?_
   refine TK.cond rfl (fun h3 => ?_) (fun h3 => ?_)
   ·
    refine At rfl ?_
    refine TK.norm ⟨[(2, .bref 3 0), (4, vL eN (wordsP s)), (5, .bref 6 0)], [(3, .box 116 [vS (bsO []), vS (bsO []), vI 0]), (6, .box 116 [vS (bsO (List.getD (wordsP s) 0 [])), vS (bsO []), vI 0])]⟩ (sb rfl rfl rfl) ?_
    have hw2 := cv_two2 h3
    refine TK.rg (Y := tab) mixed rfl ?_
    refine mv rfl ?_
    refine RO (Body.idx (z := []) (i := 1) rfl rfl un73 sz9 (fun _ => rfl) rfl (by omega)) ?_
    refine RO (Body.loadP rfl ag9 sz9) ?_
    refine RO (Body.fadB rfl fa116_1 rfl) ?_
    refine rn rfl ?_
    refine RN ?_
    refine Ap rfl ?_
    refine NR ⟨[(2, .bref 3 0), (5, .bref 6 0)], [(3, .box 116 [vS (bsO []), vS (bsO []), vI 0]), (6, .box 116 [vS (bsO (List.getD (wordsP s) 0 [])), vS (bsO (List.getD (wordsP s) 1 [])), vI 0])]⟩ (sb rfl rfl rfl) rfl ?_
    refine RO (Body.loadBA rfl rfl rfl ag116 sz116 rfl rfl) ?_
    refine rn rfl ?_
    refine ag rfl ?_
    refine RN ?_
    refine Ap rfl ?_
    refine TK.ret ?_
    refine PK.ret ?_
    refine leaf (val0 := .tup [.pv (.agg [pS (bsO (List.getD (wordsP s) 0 [])), pS (bsO (List.getD (wordsP s) 1 [])), pI 0]), vB true]) (by kernel_rfl) ?_
    exact tup2 (lag (lcons (pls (by rw [cv_A h1 h2 h3])) (lcons (pls (by rw [cv_A h1 h2 h3])) (lcons (pli (by rw [cv_A h1 h2 h3])) rfl)))) (lb (by rw [cv_A h1 h2 h3]))
   ·
    refine At rfl ?_
    refine NR ⟨[(2, .bref 3 0), (4, vL eN (wordsP s)), (5, .bref 6 0), (6, vB false)], [(3, .box 116 [vS (bsO []), vS (bsO []), vI 0]), (6, .box 116 [vS (bsO (List.getD (wordsP s) 0 [])), vS (bsO []), vI 0])]⟩ (sb rfl rfl rfl) rfl ?_
    refine RO (Body.fadB rfl fa116_0 rfl) ?_
    refine RO (Body.loadB rfl rfl rfl ag9 sz9 rfl) ?_
    refine RO (Body.seqB (a := (List.getD (wordsP s) 0 [])) (b := [119, 97, 105, 116]) rfl rfl) ?_
    refine mv rfl ?_
    refine RG.cons (EfR.sym rfl (fun hc => Body.fadB rfl fa116_0 rfl) rfl) ?_
    refine RG.cons (EfR.sym rfl (fun hc => Body.loadB (ev1_gd rfl hc) rfl rfl ag9 sz9 rfl) rfl) ?_
    refine RG.cons (EfR.sym rfl (fun hc => Body.seqB (a := (List.getD (wordsP s) 0 [])) (b := [114, 101, 112, 101, 97, 116]) (ev1_gd rfl hc) rfl) rfl) ?_
    refine RO (Body.pick rfl rfl rfl rfl (gdB rfl) (pick_or _)) ?_
    refine mv rfl ?_
    refine RG.cons (EfR.sym rfl (fun hc => Body.move rfl) rfl) ?_
    refine RG.cons (EfR.sym rfl (fun hc => Body.lenL (ev1_gd rfl hc) un73) rfl) ?_
    refine RG.cons (EfR.sym rfl (fun hc => Body.eql (ev1_gd rfl hc) rfl) rfl) ?_
    refine RO (Body.pick rfl rfl rfl (gdB rfl) rfl (pick_and _)) ?_
    refine ag rfl ?_
    refine RN ?_
    refine Ap rfl ?_
    refine TK.norm ⟨[(2, .bref 3 0), (4, vL eN (wordsP s)), (5, .bref 6 0), (6, vB false), (41, vB (bif (bif (decide ((List.getD (wordsP s) 0 []) = [119, 97, 105, 116])) then true else (decide ((List.getD (wordsP s) 0 []) = [114, 101, 112, 101, 97, 116]))) then (decide (((List.length (wordsP s) : Nat) : Int) = 2)) else false))], [(3, .box 116 [vS (bsO []), vS (bsO []), vI 0]), (6, .box 116 [vS (bsO (List.getD (wordsP s) 0 [])), vS (bsO []), vI 0])]⟩ (sb rfl rfl rfl) ?_
    refine TK.cond rfl (fun h4 => ?_) (fun h4 => ?_)
    ·
     refine At rfl ?_
     refine TK.norm ⟨[(2, .bref 3 0), (4, vL eN (wordsP s)), (5, .bref 6 0)], [(3, .box 116 [vS (bsO []), vS (bsO []), vI 0]), (6, .box 116 [vS (bsO (List.getD (wordsP s) 0 [])), vS (bsO []), vI 0])]⟩ (sb rfl rfl rfl) ?_
     have hw2 := cv_two h4
     have hwm := wordsP_mem (getD_mem (l := wordsP s) (k := 1) (z := []) (by omega))
     refine TK.rg (Y := tab) mixed rfl ?_
     refine mv rfl ?_
     refine RO (Body.idx (z := []) (i := 1) rfl rfl un73 sz9 (fun _ => rfl) rfl (by omega)) ?_
     refine RO (Body.loadP rfl ag9 sz9) ?_
     refine RO (Body.call (w186 hp he (List.getD (wordsP s) 1 []) (by omega)) rfl rfl rfl) ?_
     refine rn rfl ?_
     refine rn rfl ?_
     refine rn rfl ?_
     refine RO (Body.fadB rfl fa116_2 rfl) ?_
     refine rn rfl ?_
     refine ag rfl ?_
     refine RN ?_
     refine Ap rfl ?_
     refine NR ⟨[(2, .bref 3 0), (5, .bref 6 0), (6, vB (intV (List.getD (wordsP s) 1 [])).2)], [(3, .box 116 [vS (bsO []), vS (bsO []), vI 0]), (6, .box 116 [vS (bsO (List.getD (wordsP s) 0 [])), vS (bsO []), vI (intV (List.getD (wordsP s) 1 [])).1])]⟩ (sb rfl rfl rfl) rfl ?_
     refine RO (Body.loadBA rfl rfl rfl ag116 sz116 rfl rfl) ?_
     refine mv rfl ?_
     refine rn rfl ?_
     refine ag rfl ?_
     refine RN ?_
     refine Ap rfl ?_
     refine TK.ret ?_
     refine PK.ret ?_
     refine leaf (val0 := .tup [.pv (.agg [pS (bsO (List.getD (wordsP s) 0 [])), pS (bsO []), pI (intV (List.getD (wordsP s) 1 [])).1]), vB (intV (List.getD (wordsP s) 1 [])).2]) (by kernel_rfl) ?_
     exact tup2 (lag (lcons (pls (by rw [cv_I h1 h2 h3 h4])) (lcons (pls (by rw [cv_I h1 h2 h3 h4])) (lcons (pli (by rw [cv_I h1 h2 h3 h4])) rfl)))) (lb (by rw [cv_I h1 h2 h3 h4]))
    ·
     refine At rfl ?_
     refine NR ⟨[(2, .bref 3 0), (5, .bref 6 0), (6, vB false)], [(3, .box 116 [vS (bsO []), vS (bsO []), vI 0]), (6, .box 116 [vS (bsO (List.getD (wordsP s) 0 [])), vS (bsO []), vI 0])]⟩ (sb rfl rfl rfl) rfl ?_
     refine RO (Body.loadBA rfl rfl rfl ag116 sz116 rfl rfl) ?_
     refine mv rfl ?_
     refine rn rfl ?_
     refine ag rfl ?_
     refine RN ?_
     refine Ap rfl ?_
     refine TK.ret ?_
     refine PK.ret ?_
     refine leaf (val0 := .tup [.pv (.agg [pS (bsO (List.getD (wordsP s) 0 [])), pS (bsO []), pI 0]), vB false]) (by kernel_rfl) ?_
     exact tup2 (lag (lcons (pls (by rw [cv_N h1 h2 h3 h4])) (lcons (pls (by rw [cv_N h1 h2 h3 h4])) (lcons (pli (by rw [cv_N h1 h2 h3 h4])) rfl)))) (lb (by rw [cv_N h1 h2 h3 h4]))
set_option maxHeartbeats 4000000 in
theorem w55 (hp : PowLaid) (he : ErrLaid) (s : List UInt8) (hl : s.length ≤ 1000000) : CallOk Tryz.prog 55 [vS (bsO s)] (lookM []) (.tup [vL eC (parScr cmdV s).1, vI (Prod.fst (Prod.snd (parScr cmdV s))), vI (Prod.snd (Prod.snd (parScr cmdV s)))]) [] := by
 haveI := tab_ok
 obtain ⟨fn, f1, f2, f3, f4, _, f6⟩ := qf55
 refine callOk_of (Y := tab) (F := fn55) f1 (f2.trans rfl) f3 f4 f6 (Nat.le_of_ble_eq_true rfl) rfl ?_
 clear f1 f2 f3 f4 f6
 have hPl := splC_len 59 s
 show TK _ _ _ _ _ _ ⟨[(0, vS (bsO s))], []⟩
 refine At rfl ?_
 refine NR ⟨[(0, vS (bsO s))], []⟩ (sb rfl rfl rfl) rfl ?_
 refine RO (Body.nilS (enc := eC) rfl) ?_
 refine ag rfl ?_
 refine ag rfl ?_
 refine RN ?_
 refine Ap rfl ?_
 refine NR ⟨[(0, vS (bsO s))], []⟩ (sb rfl rfl rfl) rfl ?_
 refine mv rfl ?_
 refine RO (Body.lenB (a := s) rfl un9) ?_
 refine RO (Body.gtr rfl rfl) ?_
 refine RN ?_
 refine Ap rfl ?_
 refine TK.norm ⟨[(0, vS (bsO s)), (13, vB (decide (4096 < (s.length : Int))))], []⟩ (sb rfl rfl rfl) ?_
 refine TK.condP rfl (fun h1 => ?_) (fun h1 => ?_)
 ·
  refine At rfl ?_
  refine NR ⟨[], []⟩ (sb rfl rfl rfl) rfl ?_
  refine RO (Body.nilS (enc := eC) rfl) ?_
  refine ag rfl ?_
  refine ag rfl ?_
  refine RN ?_
  refine Ap rfl ?_
  refine TK.ret ?_
  refine PK.ret ?_
  refine leaf (val0 := .tup [vL eC [], vI 0, vI 26]) (by kernel_rfl) ?_
  exact tup3 (lsl (by rw [parScr_long h1])) (li (by rw [parScr_long h1])) (li (by rw [parScr_long h1]))
 ·
  refine At rfl ?_
  refine NR ⟨[(0, vS (bsO s))], []⟩ (sb rfl rfl rfl) rfl ?_
  refine mv rfl ?_
  refine RO (Body.call (w128 hp s (by omega)) rfl rfl rfl) ?_
  refine RO (Body.lenL rfl un73) ?_
  refine RO (Body.eql rfl rfl) ?_
  refine RN ?_
  refine Ap rfl ?_
  refine TK.norm ⟨[(0, vS (bsO s)), (17, vB (decide (((List.length (wordsP s) : Nat) : Int) = 0)))], []⟩ (sb rfl rfl rfl) ?_
  refine TK.condP rfl (fun h2 => ?_) (fun h2 => ?_)
  ·
   refine At rfl ?_
   refine NR ⟨[], []⟩ (sb rfl rfl rfl) rfl ?_
   refine RO (Body.nilS (enc := eC) rfl) ?_
   refine ag rfl ?_
   refine ag rfl ?_
   refine RN ?_
   refine Ap rfl ?_
   refine TK.ret ?_
   refine PK.ret ?_
   refine leaf (val0 := .tup [vL eC [], vI 0, vI 0]) (by kernel_rfl) ?_
   exact tup3 (lsl (by rw [parScr_none h1 h2])) (li (by rw [parScr_none h1 h2])) (li (by rw [parScr_none h1 h2]))
  ·
   refine At rfl ?_
   refine NR ⟨[(0, vS (bsO s))], []⟩ (sb rfl rfl rfl) rfl ?_
   refine RO (Body.adopt 6 3 116 rfl rfl) ?_
   refine RN ?_
   refine Ap rfl ?_
   refine NR ⟨[(0, vS (bsO s)), (5, .aref 6 0)], [(6, .arr 0 3 116 (List.map eC []))]⟩ (sb rfl rfl rfl) rfl ?_
   refine mv rfl ?_
   refine RO (Body.call (w116c hp s 59 (by omega)) rfl rfl rfl) ?_
   refine RO (Body.lenL rfl un73) ?_
   refine mv rfl ?_
   refine RN ?_
   refine Ap rfl ?_
   refine TK.loop (α := Nat × Nat × List Cmd) (fun x => ⟨[(5, .aref 6 x.2.1), (19, vL eN (splC 59 s)), (20, vI ((List.length (splC 59 s) : Nat) : Int)), (21, vI ((x.1 : Nat) : Int))], [(6, .arr x.2.1 3 116 (List.map eC x.2.2))]⟩) (fun x => x.1 ≤ List.length (splC 59 s) ∧ x.2.2.length ≤ x.1 ∧ parScr cmdV s = parG cmdV (List.drop x.1 (splC 59 s)) x.1 x.2.2) (fun x => List.length (splC 59 s) - x.1) (0, 0, []) ?_ (sb rfl rfl rfl) ?_
   · show 0 ≤ List.length (splC 59 s) ∧ List.length [] ≤ 0 ∧ parScr cmdV s = parG cmdV (List.drop 0 (splC 59 s)) 0 []
     exact ⟨Nat.zero_le _, Nat.zero_le _, parScr_go h1 h2⟩
   rintro ⟨k, v, out⟩ hI0
   replace hI0 : k ≤ List.length (splC 59 s) ∧ out.length ≤ k ∧ parScr cmdV s = parG cmdV (List.drop k (splC 59 s)) k out := hI0
   show TK _ _ _ _ _ _ ⟨[(5, .aref 6 v), (19, vL eN (splC 59 s)), (20, vI ((List.length (splC 59 s) : Nat) : Int)), (21, vI k)], [(6, .arr v 3 116 (List.map eC out))]⟩
   refine At rfl ?_
   refine NR ⟨[(5, .aref 6 v), (19, vL eN (splC 59 s)), (20, vI ((List.length (splC 59 s) : Nat) : Int)), (21, vI k)], [(6, .arr v 3 116 (List.map eC out))]⟩ (sb rfl rfl rfl) rfl ?_
   refine RO (Body.lss rfl rfl) ?_
   refine RN ?_
   refine Ap rfl ?_
   refine TK.norm ⟨[(5, .aref 6 v), (19, vL eN (splC 59 s)), (20, vI ((List.length (splC 59 s) : Nat) : Int)), (21, vI k), (22, vB (decide ((k : Int) < ((List.length (splC 59 s) : Nat) : Int))))], [(6, .arr v 3 116 (List.map eC out))]⟩ (sb rfl rfl rfl) ?_
   refine TK.condP rfl (fun h3 => ?_) (fun h3 => ?_)
   ·
    refine At rfl ?_
    refine NR ⟨[(5, .aref 6 v), (19, vL eN (splC 59 s)), (20, vI ((List.length (splC 59 s) : Nat) : Int)), (21, vI k)], [(6, .arr v 3 116 (List.map eC out))]⟩ (sb rfl rfl rfl) rfl ?_
    refine mv rfl ?_
    refine RO (Body.idx (z := []) (i := k) rfl rfl un73 sz9 (fun _ => rfl) rfl (by omega)) ?_
    refine RO (Body.loadP rfl ag9 sz9) ?_
    refine ag rfl ?_
    refine ag rfl ?_
    refine RN ?_
    refine Ap rfl ?_
    refine TK.norm ⟨[(5, .aref 6 v), (6, vI k), (7, vS (bsO (List.getD (splC 59 s) k []))), (19, vL eN (splC 59 s)), (20, vI ((List.length (splC 59 s) : Nat) : Int)), (21, vI k)], [(6, .arr v 3 116 (List.map eC out))]⟩ (sb rfl rfl rfl) ?_
    have hpm := splC_mem (getD_mem (l := splC 59 s) (k := k) (z := []) (by omega))
    refine TK.rg (Y := tab) mixed rfl ?_
    refine mv rfl ?_
    refine RO (Body.call (w129 hp he (List.getD (splC 59 s) k []) (by omega)) rfl rfl rfl) ?_
    refine rn rfl ?_
    refine rn rfl ?_
    refine rn rfl ?_
    refine rn rfl ?_
    refine rn rfl ?_
    refine ag rfl ?_
    refine RN ?_
    refine Ap rfl ?_
    refine NR ⟨[(5, .aref 6 v), (6, vI k), (8, .bref 9 0), (9, vB (cmdV (List.getD (splC 59 s) k [])).2), (19, vL eN (splC 59 s)), (20, vI ((List.length (splC 59 s) : Nat) : Int)), (21, vI k)], [(6, .arr v 3 116 (List.map eC out)), (9, .box 116 [vS (bsO (Prod.fst (Prod.fst (cmdV (List.getD (splC 59 s) k []))))), vS (bsO (Prod.fst (Prod.snd (cmdV (List.getD (splC 59 s) k [])).1))), vI (Prod.snd (Prod.snd (cmdV (List.getD (splC 59 s) k [])).1))])]⟩ (sb rfl rfl rfl) rfl ?_
    refine mv rfl ?_
    refine RO (Body.not rfl) ?_
    refine RN ?_
    refine Ap rfl ?_
    refine TK.norm ⟨[(5, .aref 6 v), (6, vI k), (8, .bref 9 0), (19, vL eN (splC 59 s)), (20, vI ((List.length (splC 59 s) : Nat) : Int)), (21, vI k), (32, vB (!(cmdV (List.getD (splC 59 s) k [])).2))], [(6, .arr v 3 116 (List.map eC out)), (9, .box 116 [vS (bsO (Prod.fst (Prod.fst (cmdV (List.getD (splC 59 s) k []))))), vS (bsO (Prod.fst (Prod.snd (cmdV (List.getD (splC 59 s) k [])).1))), vI (Prod.snd (Prod.snd (cmdV (List.getD (splC 59 s) k [])).1))])]⟩ (sb rfl rfl rfl) ?_
    refine TK.cond rfl (fun h4 => ?_) (fun h4 => ?_)
    ·
     refine At rfl ?_
     refine NR ⟨[(6, vI k)], []⟩ (sb rfl rfl rfl) rfl ?_
     refine mv rfl ?_
     refine RO (Body.add rfl rfl (by unfold R64; omega)) ?_
     refine RO (Body.nilS (enc := eC) rfl) ?_
     refine ag rfl ?_
     refine ag rfl ?_
     refine RN ?_
     refine Ap rfl ?_
     refine TK.ret ?_
     refine PK.ret ?_
     refine leaf (val0 := .tup [vL eC [], vI ((k : Int) + 1), vI 25]) (by kernel_rfl) ?_
     exact tup3 (lsl (by rw [hI0.2.2, parG_no (by omega) (bnot_t h4)])) (li (by rw [hI0.2.2, parG_no (by omega) (bnot_t h4)])) (li (by rw [hI0.2.2, parG_no (by omega) (bnot_t h4)]))
    ·
     refine At rfl ?_
     refine NR ⟨[(5, .aref 6 v), (8, .bref 9 0), (19, vL eN (splC 59 s)), (20, vI ((List.length (splC 59 s) : Nat) : Int)), (21, vI k)], [(6, .arr v 3 116 (List.map eC out)), (9, .box 116 [vS (bsO (Prod.fst (Prod.fst (cmdV (List.getD (splC 59 s) k []))))), vS (bsO (Prod.fst (Prod.snd (cmdV (List.getD (splC 59 s) k [])).1))), vI (Prod.snd (Prod.snd (cmdV (List.getD (splC 59 s) k [])).1))])]⟩ (sb rfl rfl rfl) rfl ?_
     refine rn rfl ?_
     refine RO (Body.loadBA rfl rfl rfl ag116 sz116 rfl rfl) ?_
     refine RO (Body.runZ (val := .pv (.slice (List.map eC [(cmdV (List.getD (splC 59 s) k [])).1]))) rfl (fun l => Frz.arr l _ _ _ _ _) rfl) ?_
     refine RO (Body.append rfl rfl rfl un82 in116 rfl (fun _ => rfl) by116 (by (simp only [List.length_append, List.length_cons, List.length_nil]; omega))) ?_
     refine rn rfl ?_
     refine RN ?_
     refine Ap rfl ?_
     refine NR ⟨[(5, .aref 6 (v + 1)), (19, vL eN (splC 59 s)), (20, vI ((List.length (splC 59 s) : Nat) : Int)), (21, vI k)], [(6, .arr (v + 1) 3 116 (List.map eC (out ++ [(cmdV (List.getD (splC 59 s) k [])).1])))]⟩ (sb rfl rfl rfl) rfl ?_
     refine RO (Body.add rfl rfl (by unfold R64; omega)) ?_
     refine mv rfl ?_
     refine RN ?_
     refine Aq rfl ?_
     refine PK.lp ?_
     refine LP.mk ((k + 1), (v + 1), (out ++ [(cmdV (List.getD (splC 59 s) k [])).1])) ?_ ?_ (sb rfl rfl rfl)
     · show (k + 1) ≤ List.length (splC 59 s) ∧ List.length (out ++ [(cmdV (List.getD (splC 59 s) k [])).1]) ≤ (k + 1) ∧ parScr cmdV s = parG cmdV (List.drop (k + 1) (splC 59 s)) (k + 1) (out ++ [(cmdV (List.getD (splC 59 s) k [])).1])
       exact ⟨by omega, by (simp only [List.length_append, List.length_cons, List.length_nil]; omega), hI0.2.2.trans (parG_go (by omega) (bnot_f h4))⟩
     · show List.length (splC 59 s) - (k + 1) < List.length (splC 59 s) - k
       omega
   ·
    refine At rfl ?_
    refine TK.exit ?_
    refine PK.exit rfl ?_
    refine Ap rfl ?_
    refine TK.norm ⟨[(5, .aref 6 v)], [(6, .arr v 3 116 (List.map eC out))]⟩ (sb rfl rfl rfl) ?_
    refine TK.frz (t := 5) rfl rfl ?_
    refine NR ⟨[(5, vL eC out)], []⟩ (sb rfl rfl rfl) rfl ?_
    refine mv rfl ?_
    refine RO (Body.call (w59 out (by omega)) rfl rfl rfl) ?_
    refine ag rfl ?_
    refine RN ?_
    refine Ap rfl ?_
    refine NR ⟨[(5, vL eC out), (10, vI (chkS out))], []⟩ (sb rfl rfl rfl) rfl ?_
    refine mv rfl ?_
    refine RO (Body.neq rfl rfl) ?_
    refine RN ?_
    refine Ap rfl ?_
    refine TK.norm ⟨[(5, vL eC out), (10, vI (chkS out)), (43, vB (decide ((chkS out) ≠ 0)))], []⟩ (sb rfl rfl rfl) ?_
    refine TK.condP rfl (fun h5 => ?_) (fun h5 => ?_)
    ·
     refine At rfl ?_
     refine NR ⟨[(10, vI (chkS out))], []⟩ (sb rfl rfl rfl) rfl ?_
     refine mv rfl ?_
     refine RO (Body.nilS (enc := eC) rfl) ?_
     refine ag rfl ?_
     refine ag rfl ?_
     refine RN ?_
     refine Ap rfl ?_
     refine TK.ret ?_
     refine PK.ret ?_
     refine leaf (val0 := .tup [vL eC [], vI 0, vI (chkS out)]) (by kernel_rfl) ?_
     exact tup3 (lsl (by rw [hI0.2.2, parG_bad (by omega) h5])) (li (by rw [hI0.2.2, parG_bad (by omega) h5])) (li (by rw [hI0.2.2, parG_bad (by omega) h5]))
    ·
     refine At rfl ?_
     refine NR ⟨[(5, vL eC out)], []⟩ (sb rfl rfl rfl) rfl ?_
     refine mv rfl ?_
     refine ag rfl ?_
     refine ag rfl ?_
     refine ag rfl ?_
     refine RN ?_
     refine Ap rfl ?_
     refine TK.ret ?_
     refine PK.ret ?_
     refine leaf (val0 := .tup [vL eC out, vI 0, vI 0]) (by kernel_rfl) ?_
     exact tup3 (lsl (by rw [hI0.2.2, parG_end (by omega) h5])) (li (by rw [hI0.2.2, parG_end (by omega) h5])) (li (by rw [hI0.2.2, parG_end (by omega) h5]))
set_option maxHeartbeats 4000000 in
theorem w58 (s : List UInt8) (hl : s.length ≤ 1000000) : CallOk Tryz.prog 58 [vS (bsO s)] (lookM []) (.tup [vL eC (parScr cmdR s).1, vI (Prod.fst (Prod.snd (parScr cmdR s))), vI (Prod.snd (Prod.snd (parScr cmdR s)))]) [] := by
 haveI := tab_ok
 obtain ⟨fn, f1, f2, f3, f4, _, f6⟩ := qf58
 refine callOk_of (Y := tab) (F := fn58) f1 (f2.trans rfl) f3 f4 f6 (Nat.le_of_ble_eq_true rfl) rfl ?_
 clear f1 f2 f3 f4 f6
 have hPl := splC_len 59 s
 show TK _ _ _ _ _ _ ⟨[(0, vS (bsO s))], []⟩
 refine At rfl ?_
 refine NR ⟨[(0, vS (bsO s))], []⟩ (sb rfl rfl rfl) rfl ?_
 refine RO (Body.nilS (enc := eC) rfl) ?_
 refine ag rfl ?_
 refine ag rfl ?_
 refine RN ?_
 refine Ap rfl ?_
 refine NR ⟨[(0, vS (bsO s))], []⟩ (sb rfl rfl rfl) rfl ?_
 refine mv rfl ?_
 refine RO (Body.lenB (a := s) rfl un9) ?_
 refine RO (Body.gtr rfl rfl) ?_
 refine RN ?_
 refine Ap rfl ?_
 refine TK.norm ⟨[(0, vS (bsO s)), (15, vB (decide (4096 < (s.length : Int))))], []⟩ (sb rfl rfl rfl) ?_
 refine TK.condP rfl (fun h1 => ?_) (fun h1 => ?_)
 ·
  refine At rfl ?_
  refine NR ⟨[], []⟩ (sb rfl rfl rfl) rfl ?_
  refine RO (Body.nilS (enc := eC) rfl) ?_
  refine ag rfl ?_
  refine ag rfl ?_
  refine RN ?_
  refine Ap rfl ?_
  refine TK.ret ?_
  refine PK.ret ?_
  refine leaf (val0 := .tup [vL eC [], vI 0, vI 26]) (by kernel_rfl) ?_
  exact tup3 (lsl (by rw [parScr_long h1])) (li (by rw [parScr_long h1])) (li (by rw [parScr_long h1]))
 ·
  refine At rfl ?_
  refine NR ⟨[(0, vS (bsO s))], []⟩ (sb rfl rfl rfl) rfl ?_
  refine mv rfl ?_
  refine RO (Body.call (w133s s (by omega)) rfl rfl rfl) ?_
  refine RO (Body.call (w132w s (by omega)) rfl rfl rfl) ?_
  refine RO (Body.lenL rfl un73) ?_
  refine RO (Body.eql rfl rfl) ?_
  refine RN ?_
  refine Ap rfl ?_
  refine TK.norm ⟨[(0, vS (bsO s)), (20, vB (decide (((List.length (wordsP s) : Nat) : Int) = 0)))], []⟩ (sb rfl rfl rfl) ?_
  refine TK.condP rfl (fun h2 => ?_) (fun h2 => ?_)
  ·
   refine At rfl ?_
   refine NR ⟨[], []⟩ (sb rfl rfl rfl) rfl ?_
   refine RO (Body.nilS (enc := eC) rfl) ?_
   refine ag rfl ?_
   refine ag rfl ?_
   refine RN ?_
   refine Ap rfl ?_
   refine TK.ret ?_
   refine PK.ret ?_
   refine leaf (val0 := .tup [vL eC [], vI 0, vI 0]) (by kernel_rfl) ?_
   exact tup3 (lsl (by rw [parScr_none h1 h2])) (li (by rw [parScr_none h1 h2])) (li (by rw [parScr_none h1 h2]))
  ·
   refine At rfl ?_
   refine NR ⟨[(0, vS (bsO s))], []⟩ (sb rfl rfl rfl) rfl ?_
   refine mv rfl ?_
   refine RO (Body.call (w133c s (by omega)) rfl rfl rfl) ?_
   refine ag rfl ?_
   refine RN ?_
   refine Ap rfl ?_
   refine NR ⟨[(5, vL eN (splC 59 s))], []⟩ (sb rfl rfl rfl) rfl ?_
   refine RO (Body.adopt 7 3 115 rfl rfl) ?_
   refine RN ?_
   refine Ap rfl ?_
   refine NR ⟨[(5, vL eN (splC 59 s)), (6, .aref 7 0)], [(7, .arr 0 3 115 (List.map eC []))]⟩ (sb rfl rfl rfl) rfl ?_
   refine ag rfl ?_
   refine RN ?_
   refine Ap rfl ?_
   refine TK.loop (α := Nat × Nat × List Cmd) (fun x => ⟨[(5, vL eN (splC 59 s)), (6, .aref 7 x.2.1), (7, vI ((x.1 : Nat) : Int))], [(7, .arr x.2.1 3 115 (List.map eC x.2.2))]⟩) (fun x => x.1 ≤ List.length (splC 59 s) ∧ x.2.2.length ≤ x.1 ∧ parScr cmdR s = parG cmdR (List.drop x.1 (splC 59 s)) x.1 x.2.2) (fun x => List.length (splC 59 s) - x.1) (0, 0, []) ?_ (sb rfl rfl rfl) ?_
   · show 0 ≤ List.length (splC 59 s) ∧ List.length [] ≤ 0 ∧ parScr cmdR s = parG cmdR (List.drop 0 (splC 59 s)) 0 []
     exact ⟨Nat.zero_le _, Nat.zero_le _, parScr_go h1 h2⟩
   rintro ⟨k, v, out⟩ hI0
   replace hI0 : k ≤ List.length (splC 59 s) ∧ out.length ≤ k ∧ parScr cmdR s = parG cmdR (List.drop k (splC 59 s)) k out := hI0
   show TK _ _ _ _ _ _ ⟨[(5, vL eN (splC 59 s)), (6, .aref 7 v), (7, vI k)], [(7, .arr v 3 115 (List.map eC out))]⟩
   refine At rfl ?_
   refine NR ⟨[(5, vL eN (splC 59 s)), (6, .aref 7 v), (7, vI k)], [(7, .arr v 3 115 (List.map eC out))]⟩ (sb rfl rfl rfl) rfl ?_
   refine mv rfl ?_
   refine mv rfl ?_
   refine RO (Body.lenL rfl un73) ?_
   refine RO (Body.lss rfl rfl) ?_
   refine RN ?_
   refine Ap rfl ?_
   refine TK.norm ⟨[(5, vL eN (splC 59 s)), (6, .aref 7 v), (7, vI k), (26, vB (decide ((k : Int) < ((List.length (splC 59 s) : Nat) : Int))))], [(7, .arr v 3 115 (List.map eC out))]⟩ (sb rfl rfl rfl) ?_
   refine TK.condP rfl (fun h3 => ?_) (fun h3 => ?_)
   ·
    refine At rfl ?_
    refine TK.norm ⟨[(5, vL eN (splC 59 s)), (6, .aref 7 v), (7, vI k)], [(7, .arr v 3 115 (List.map eC out))]⟩ (sb rfl rfl rfl) ?_
    have hpm := splC_mem (getD_mem (l := splC 59 s) (k := k) (z := []) (by omega))
    refine TK.rg (Y := tab) mixed rfl ?_
    refine mv rfl ?_
    refine mv rfl ?_
    refine RO (Body.idx (z := []) (i := k) rfl rfl un73 sz9 (fun _ => rfl) rfl (by omega)) ?_
    refine RO (Body.loadP rfl ag9 sz9) ?_
    refine RO (Body.call (w133s (List.getD (splC 59 s) k []) (by omega)) rfl rfl rfl) ?_
    refine RO (Body.call (w132w (List.getD (splC 59 s) k []) (by omega)) rfl rfl rfl) ?_
    refine ag rfl ?_
    refine RN ?_
    refine Ap rfl ?_
    refine NR ⟨[(5, vL eN (splC 59 s)), (6, .aref 7 v), (7, vI k), (8, vL eN (wordsP (List.getD (splC 59 s) k [])))], [(7, .arr v 3 115 (List.map eC out))]⟩ (sb rfl rfl rfl) rfl ?_
    refine mv rfl ?_
    refine RO (Body.lenL rfl un73) ?_
    refine RO (Body.eql rfl rfl) ?_
    refine mv rfl ?_
    refine RG.cons (EfR.sym rfl (fun hc => Body.move rfl) rfl) ?_
    refine RG.cons (EfR.sym rfl (fun hc => Body.idx (z := []) (i := 0) (ev1_gd rfl hc) rfl un73 sz9 (fun _ => rfl) rfl (by exact gd_len1 hc)) rfl) ?_
    refine RG.cons (EfR.sym rfl (fun hc => Body.loadP (ev1_gd rfl hc) ag9 sz9) rfl) ?_
    refine RG.cons (EfR.sym rfl (fun hc => Body.call (w134 (List.getD (wordsP (List.getD (splC 59 s) k [])) 0 [])) rfl (ds1 (ev1_gd rfl hc)) rfl) rfl) ?_
    refine RG.cons (EfR.sym rfl (fun hc => Body.eql (ev1_gd rfl hc) rfl) rfl) ?_
    refine RO (Body.pick rfl rfl rfl rfl (gdB rfl) (pick_or _)) ?_
    refine mv rfl ?_
    refine RG.cons (EfR.sym rfl (fun hc => Body.move rfl) rfl) ?_
    refine RG.cons (EfR.sym rfl (fun hc => Body.lenL (ev1_gd rfl hc) un73) rfl) ?_
    refine RG.cons (EfR.sym rfl (fun hc => Body.move rfl) rfl) ?_
    refine RG.cons (EfR.sym rfl (fun hc => Body.idx (z := []) (i := 0) (ev1_gd rfl hc) rfl un73 sz9 (fun _ => rfl) rfl (by exact gd_len2 hc)) rfl) ?_
    refine RG.cons (EfR.sym rfl (fun hc => Body.loadP (ev1_gd rfl hc) ag9 sz9) rfl) ?_
    refine RG.cons (EfR.sym rfl (fun hc => Body.call (w134 (List.getD (wordsP (List.getD (splC 59 s) k [])) 0 [])) rfl (ds1 (ev1_gd rfl hc)) rfl) rfl) ?_
    refine RG.cons (EfR.sym rfl (fun hc => Body.neq (ev1_gd rfl hc) (ev1_gd rfl hc)) rfl) ?_
    refine RO (Body.pick rfl rfl rfl rfl (gdB rfl) (pick_or _)) ?_
    refine RN ?_
    refine Ap rfl ?_
    refine TK.norm ⟨[(5, vL eN (splC 59 s)), (6, .aref 7 v), (7, vI k), (8, vL eN (wordsP (List.getD (splC 59 s) k []))), (53, vB (bif (bif (decide (((List.length (wordsP (List.getD (splC 59 s) k [])) : Nat) : Int) = 0)) then true else (decide ((wordsF (List.getD (wordsP (List.getD (splC 59 s) k [])) 0 [])) = 0))) then true else (decide (((List.length (wordsP (List.getD (splC 59 s) k [])) : Nat) : Int) ≠ (wordsF (List.getD (wordsP (List.getD (splC 59 s) k [])) 0 []))))))], [(7, .arr v 3 115 (List.map eC out))]⟩ (sb rfl rfl rfl) ?_
    refine TK.cond rfl (fun h4 => ?_) (fun h4 => ?_)
    ·
     refine At rfl ?_
     refine NR ⟨[(7, vI k)], []⟩ (sb rfl rfl rfl) rfl ?_
     refine mv rfl ?_
     refine RO (Body.add rfl rfl (by unfold R64; omega)) ?_
     refine RO (Body.nilS (enc := eC) rfl) ?_
     refine ag rfl ?_
     refine ag rfl ?_
     refine RN ?_
     refine Ap rfl ?_
     refine TK.ret ?_
     refine PK.ret ?_
     refine leaf (val0 := .tup [vL eC [], vI ((k : Int) + 1), vI 25]) (by kernel_rfl) ?_
     exact tup3 (lsl (by rw [hI0.2.2, parG_no (by omega) (cr_B h4)])) (li (by rw [hI0.2.2, parG_no (by omega) (cr_B h4)])) (li (by rw [hI0.2.2, parG_no (by omega) (cr_B h4)]))
    ·
     refine At rfl ?_
     refine TK.norm ⟨[(5, vL eN (splC 59 s)), (6, .aref 7 v), (7, vI k), (8, vL eN (wordsP (List.getD (splC 59 s) k [])))], [(7, .arr v 3 115 (List.map eC out))]⟩ (sb rfl rfl rfl) ?_
     have hw0 := badR_pos h4
     refine TK.rg (Y := tab) mixed rfl ?_
     refine mv rfl ?_
     refine RO (Body.idx (z := []) (i := 0) rfl rfl un73 sz9 (fun _ => rfl) rfl (by omega)) ?_
     refine RO (Body.loadP rfl ag9 sz9) ?_
     refine rn rfl ?_
     refine rn rfl ?_
     refine rn rfl ?_
     refine RN ?_
     refine Ap rfl ?_
     refine NR ⟨[(5, vL eN (splC 59 s)), (6, .aref 7 v), (7, vI k), (8, vL eN (wordsP (List.getD (splC 59 s) k []))), (9, .bref 10 0)], [(7, .arr v 3 115 (List.map eC out)), (10, .box 115 [vS (bsO (List.getD (wordsP (List.getD (splC 59 s) k [])) 0 [])), vS (bsO []), vI 0])]⟩ (sb rfl rfl rfl) rfl ?_
     refine RO (Body.fadB rfl fa115_0 rfl) ?_
     refine RO (Body.loadB rfl rfl rfl ag9 sz9 rfl) ?_
     refine RO (Body.seqB (a := (List.getD (wordsP (List.getD (splC 59 s) k [])) 0 [])) (b := [97, 99, 116]) rfl rfl) ?_
     refine RN ?_
     refine Ap rfl ?_
     refine TK.norm ⟨[(5, vL eN (splC 59 s)), (6, .aref 7 v), (7, vI k), (8, vL eN (wordsP (List.getD (splC 59 s) k []))), (9, .bref 10 0), (62, vB (decide ((List.getD (wordsP (List.getD (splC 59 s) k [])) 0 []) = [97, 99, 116])))], [(7, .arr v 3 115 (List.map eC out)), (10, .box 115 [vS (bsO (List.getD (wordsP (List.getD (splC 59 s) k [])) 0 [])), vS (bsO []), vI 0])]⟩ (sb rfl rfl rfl) ?_
     refine TK.condP rfl (fun h5 => ?_) (fun h5 => ?_)
     ·
      refine At rfl ?_
      refine TK.norm ⟨[(5, vL eN (splC 59 s)), (6, .aref 7 v), (7, vI k), (8, vL eN (wordsP (List.getD (splC 59 s) k []))), (9, .bref 10 0)], [(7, .arr v 3 115 (List.map eC out)), (10, .box 115 [vS (bsO (List.getD (wordsP (List.getD (splC 59 s) k [])) 0 [])), vS (bsO []), vI 0])]⟩ (sb rfl rfl rfl) ?_
      have hw2 := badR_act h4 h5
      refine TK.rg (Y := tab) mixed rfl ?_
      refine mv rfl ?_
      refine RO (Body.idx (z := []) (i := 1) rfl rfl un73 sz9 (fun _ => rfl) rfl (by omega)) ?_
      refine RO (Body.loadP rfl ag9 sz9) ?_
      refine RO (Body.fadB rfl fa115_1 rfl) ?_
      refine rn rfl ?_
      refine RN ?_
      refine Ap rfl ?_
      refine NR ⟨[(5, vL eN (splC 59 s)), (6, .aref 7 v), (7, vI k), (9, .bref 10 0)], [(7, .arr v 3 115 (List.map eC out)), (10, .box 115 [vS (bsO (List.getD (wordsP (List.getD (splC 59 s) k [])) 0 [])), vS (bsO (List.getD (wordsP (List.getD (splC 59 s) k [])) 1 [])), vI 0])]⟩ (sb rfl rfl rfl) rfl ?_
      refine rn rfl ?_
      refine RO (Body.loadBA rfl rfl rfl ag115 sz115 rfl rfl) ?_
      refine RO (Body.runZ (val := .pv (.slice (List.map eC [((List.getD (wordsP (List.getD (splC 59 s) k [])) 0 []), (List.getD (wordsP (List.getD (splC 59 s) k [])) 1 []), 0)]))) rfl (fun l => Frz.arr l _ _ _ _ _) rfl) ?_
      refine RO (Body.append rfl rfl rfl un83 in115 rfl (fun _ => rfl) by115 (by (simp only [List.length_append, List.length_cons, List.length_nil]; omega))) ?_
      refine rn rfl ?_
      refine RN ?_
      refine Ap rfl ?_
      refine NR ⟨[(5, vL eN (splC 59 s)), (6, .aref 7 (v + 1)), (7, vI k)], [(7, .arr (v + 1) 3 115 (List.map eC (out ++ [((List.getD (wordsP (List.getD (splC 59 s) k [])) 0 []), (List.getD (wordsP (List.getD (splC 59 s) k [])) 1 []), 0)])))]⟩ (sb rfl rfl rfl) rfl ?_
      refine mv rfl ?_
      refine RO (Body.add rfl rfl (by unfold R64; omega)) ?_
      refine ag rfl ?_
      refine RN ?_
      refine Aq rfl ?_
      refine PK.lp ?_
      refine LP.mk ((k + 1), (v + 1), (out ++ [((List.getD (wordsP (List.getD (splC 59 s) k [])) 0 []), (List.getD (wordsP (List.getD (splC 59 s) k [])) 1 []), 0)])) ?_ ?_ (sb rfl rfl rfl)
      · show (k + 1) ≤ List.length (splC 59 s) ∧ List.length (out ++ [((List.getD (wordsP (List.getD (splC 59 s) k [])) 0 []), (List.getD (wordsP (List.getD (splC 59 s) k [])) 1 []), 0)]) ≤ (k + 1) ∧ parScr cmdR s = parG cmdR (List.drop (k + 1) (splC 59 s)) (k + 1) (out ++ [((List.getD (wordsP (List.getD (splC 59 s) k [])) 0 []), (List.getD (wordsP (List.getD (splC 59 s) k [])) 1 []), 0)])
        refine ⟨by omega, by (simp only [List.length_append, List.length_cons, List.length_nil]; omega), hI0.2.2.trans ?_⟩; exact parG_at (by omega) (cr_A h4 h5)
      · show List.length (splC 59 s) - (k + 1) < List.length (splC 59 s) - k
        omega
     ·
      refine At rfl ?_
      refine NR ⟨[(5, vL eN (splC 59 s)), (6, .aref 7 v), (7, vI k), (8, vL eN (wordsP (List.getD (splC 59 s) k []))), (9, .bref 10 0)], [(7, .arr v 3 115 (List.map eC out)), (10, .box 115 [vS (bsO (List.getD (wordsP (List.getD (splC 59 s) k [])) 0 [])), vS (bsO []), vI 0])]⟩ (sb rfl rfl rfl) rfl ?_
      refine mv rfl ?_
      refine RO (Body.lenL rfl un73) ?_
      refine RO (Body.eql rfl rfl) ?_
      refine RN ?_
      refine Ap rfl ?_
      refine TK.norm ⟨[(5, vL eN (splC 59 s)), (6, .aref 7 v), (7, vI k), (8, vL eN (wordsP (List.getD (splC 59 s) k []))), (9, .bref 10 0), (69, vB (decide (((List.length (wordsP (List.getD (splC 59 s) k [])) : Nat) : Int) = 2)))], [(7, .arr v 3 115 (List.map eC out)), (10, .box 115 [vS (bsO (List.getD (wordsP (List.getD (splC 59 s) k [])) 0 [])), vS (bsO []), vI 0])]⟩ (sb rfl rfl rfl) ?_
      refine TK.condP rfl (fun h6 => ?_) (fun h6 => ?_)
      ·
       refine At rfl ?_
       refine NR ⟨[(5, vL eN (splC 59 s)), (6, .aref 7 v), (7, vI k), (8, vL eN (wordsP (List.getD (splC 59 s) k []))), (9, .bref 10 0)], [(7, .arr v 3 115 (List.map eC out)), (10, .box 115 [vS (bsO (List.getD (wordsP (List.getD (splC 59 s) k [])) 0 [])), vS (bsO []), vI 0])]⟩ (sb rfl rfl rfl) rfl ?_
       refine mv rfl ?_
       refine RO (Body.idx (z := []) (i := 1) rfl rfl un73 sz9 (fun _ => rfl) rfl (by omega)) ?_
       refine RO (Body.loadP rfl ag9 sz9) ?_
       refine RO (Body.call (w135 (List.getD (wordsP (List.getD (splC 59 s) k [])) 1 [])) rfl rfl rfl) ?_
       refine rn rfl ?_
       refine rn rfl ?_
       refine rn rfl ?_
       refine ag rfl ?_
       refine ag rfl ?_
       refine RN ?_
       refine Ap rfl ?_
       refine NR ⟨[(5, vL eN (splC 59 s)), (6, .aref 7 v), (7, vI k), (9, .bref 10 0), (10, vI (Option.getD (intR (List.getD (wordsP (List.getD (splC 59 s) k [])) 1 [])) 0)), (11, vB (Option.isSome (intR (List.getD (wordsP (List.getD (splC 59 s) k [])) 1 []))))], [(7, .arr v 3 115 (List.map eC out)), (10, .box 115 [vS (bsO (List.getD (wordsP (List.getD (splC 59 s) k [])) 0 [])), vS (bsO []), vI 0])]⟩ (sb rfl rfl rfl) rfl ?_
       refine mv rfl ?_
       refine RO (Body.not rfl) ?_
       refine RN ?_
       refine Ap rfl ?_
       refine TK.norm ⟨[(5, vL eN (splC 59 s)), (6, .aref 7 v), (7, vI k), (9, .bref 10 0), (10, vI (Option.getD (intR (List.getD (wordsP (List.getD (splC 59 s) k [])) 1 [])) 0)), (78, vB (!(Option.isSome (intR (List.getD (wordsP (List.getD (splC 59 s) k [])) 1 [])))))], [(7, .arr v 3 115 (List.map eC out)), (10, .box 115 [vS (bsO (List.getD (wordsP (List.getD (splC 59 s) k [])) 0 [])), vS (bsO []), vI 0])]⟩ (sb rfl rfl rfl) ?_
       refine TK.cond rfl (fun h7 => ?_) (fun h7 => ?_)
       ·
        refine At rfl ?_
        refine NR ⟨[(7, vI k)], []⟩ (sb rfl rfl rfl) rfl ?_
        refine mv rfl ?_
        refine RO (Body.add rfl rfl (by unfold R64; omega)) ?_
        refine RO (Body.nilS (enc := eC) rfl) ?_
        refine ag rfl ?_
        refine ag rfl ?_
        refine RN ?_
        refine Ap rfl ?_
        refine TK.ret ?_
        refine PK.ret ?_
        refine leaf (val0 := .tup [vL eC [], vI ((k : Int) + 1), vI 25]) (by kernel_rfl) ?_
        exact tup3 (lsl (by rw [hI0.2.2, parG_no (by omega) (cr_I h4 h5 h6 h7)])) (li (by rw [hI0.2.2, parG_no (by omega) (cr_I h4 h5 h6 h7)])) (li (by rw [hI0.2.2, parG_no (by omega) (cr_I h4 h5 h6 h7)]))
       ·
        refine At rfl ?_
        refine NR ⟨[(5, vL eN (splC 59 s)), (6, .aref 7 v), (7, vI k), (9, .bref 10 0), (10, vI (Option.getD (intR (List.getD (wordsP (List.getD (splC 59 s) k [])) 1 [])) 0))], [(7, .arr v 3 115 (List.map eC out)), (10, .box 115 [vS (bsO (List.getD (wordsP (List.getD (splC 59 s) k [])) 0 [])), vS (bsO []), vI 0])]⟩ (sb rfl rfl rfl) rfl ?_
        refine mv rfl ?_
        refine RO (Body.fadB rfl fa115_2 rfl) ?_
        refine rn rfl ?_
        refine RN ?_
        refine Ap rfl ?_
        refine NR ⟨[(5, vL eN (splC 59 s)), (6, .aref 7 v), (7, vI k), (9, .bref 10 0)], [(7, .arr v 3 115 (List.map eC out)), (10, .box 115 [vS (bsO (List.getD (wordsP (List.getD (splC 59 s) k [])) 0 [])), vS (bsO []), vI (Option.getD (intR (List.getD (wordsP (List.getD (splC 59 s) k [])) 1 [])) 0)])]⟩ (sb rfl rfl rfl) rfl ?_
        refine rn rfl ?_
        refine RO (Body.loadBA rfl rfl rfl ag115 sz115 rfl rfl) ?_
        refine RO (Body.runZ (val := .pv (.slice (List.map eC [((List.getD (wordsP (List.getD (splC 59 s) k [])) 0 []), [], (Option.getD (intR (List.getD (wordsP (List.getD (splC 59 s) k [])) 1 [])) 0))]))) rfl (fun l => Frz.arr l _ _ _ _ _) rfl) ?_
        refine RO (Body.append rfl rfl rfl un83 in115 rfl (fun _ => rfl) by115 (by (simp only [List.length_append, List.length_cons, List.length_nil]; omega))) ?_
        refine rn rfl ?_
        refine RN ?_
        refine Ap rfl ?_
        refine NR ⟨[(5, vL eN (splC 59 s)), (6, .aref 7 (v + 1)), (7, vI k)], [(7, .arr (v + 1) 3 115 (List.map eC (out ++ [((List.getD (wordsP (List.getD (splC 59 s) k [])) 0 []), [], (Option.getD (intR (List.getD (wordsP (List.getD (splC 59 s) k [])) 1 [])) 0))])))]⟩ (sb rfl rfl rfl) rfl ?_
        refine mv rfl ?_
        refine RO (Body.add rfl rfl (by unfold R64; omega)) ?_
        refine ag rfl ?_
        refine RN ?_
        refine Aq rfl ?_
        refine PK.lp ?_
        refine LP.mk ((k + 1), (v + 1), (out ++ [((List.getD (wordsP (List.getD (splC 59 s) k [])) 0 []), [], (Option.getD (intR (List.getD (wordsP (List.getD (splC 59 s) k [])) 1 [])) 0))])) ?_ ?_ (sb rfl rfl rfl)
        · show (k + 1) ≤ List.length (splC 59 s) ∧ List.length (out ++ [((List.getD (wordsP (List.getD (splC 59 s) k [])) 0 []), [], (Option.getD (intR (List.getD (wordsP (List.getD (splC 59 s) k [])) 1 [])) 0))]) ≤ (k + 1) ∧ parScr cmdR s = parG cmdR (List.drop (k + 1) (splC 59 s)) (k + 1) (out ++ [((List.getD (wordsP (List.getD (splC 59 s) k [])) 0 []), [], (Option.getD (intR (List.getD (wordsP (List.getD (splC 59 s) k [])) 1 [])) 0))])
          refine ⟨by omega, by (simp only [List.length_append, List.length_cons, List.length_nil]; omega), hI0.2.2.trans ?_⟩; exact parG_at (by omega) (cr_V h4 h5 h6 h7)
        · show List.length (splC 59 s) - (k + 1) < List.length (splC 59 s) - k
          omega
      ·
       refine At rfl ?_
       refine NR ⟨[(5, vL eN (splC 59 s)), (6, .aref 7 v), (7, vI k), (9, .bref 10 0)], [(7, .arr v 3 115 (List.map eC out)), (10, .box 115 [vS (bsO (List.getD (wordsP (List.getD (splC 59 s) k [])) 0 [])), vS (bsO []), vI 0])]⟩ (sb rfl rfl rfl) rfl ?_
       refine rn rfl ?_
       refine RO (Body.loadBA rfl rfl rfl ag115 sz115 rfl rfl) ?_
       refine RO (Body.runZ (val := .pv (.slice (List.map eC [((List.getD (wordsP (List.getD (splC 59 s) k [])) 0 []), [], 0)]))) rfl (fun l => Frz.arr l _ _ _ _ _) rfl) ?_
       refine RO (Body.append rfl rfl rfl un83 in115 rfl (fun _ => rfl) by115 (by (simp only [List.length_append, List.length_cons, List.length_nil]; omega))) ?_
       refine rn rfl ?_
       refine RN ?_
       refine Ap rfl ?_
       refine NR ⟨[(5, vL eN (splC 59 s)), (6, .aref 7 (v + 1)), (7, vI k)], [(7, .arr (v + 1) 3 115 (List.map eC (out ++ [((List.getD (wordsP (List.getD (splC 59 s) k [])) 0 []), [], 0)])))]⟩ (sb rfl rfl rfl) rfl ?_
       refine mv rfl ?_
       refine RO (Body.add rfl rfl (by unfold R64; omega)) ?_
       refine ag rfl ?_
       refine RN ?_
       refine Aq rfl ?_
       refine PK.lp ?_
       refine LP.mk ((k + 1), (v + 1), (out ++ [((List.getD (wordsP (List.getD (splC 59 s) k [])) 0 []), [], 0)])) ?_ ?_ (sb rfl rfl rfl)
       · show (k + 1) ≤ List.length (splC 59 s) ∧ List.length (out ++ [((List.getD (wordsP (List.getD (splC 59 s) k [])) 0 []), [], 0)]) ≤ (k + 1) ∧ parScr cmdR s = parG cmdR (List.drop (k + 1) (splC 59 s)) (k + 1) (out ++ [((List.getD (wordsP (List.getD (splC 59 s) k [])) 0 []), [], 0)])
         refine ⟨by omega, by (simp only [List.length_append, List.length_cons, List.length_nil]; omega), hI0.2.2.trans ?_⟩; exact parG_at (by omega) (cr_N h4 h5 h6)
       · show List.length (splC 59 s) - (k + 1) < List.length (splC 59 s) - k
         omega
   ·
    refine At rfl ?_
    refine TK.exit ?_
    refine PK.exit rfl ?_
    refine Ap rfl ?_
    refine TK.norm ⟨[(6, .aref 7 v)], [(7, .arr v 3 115 (List.map eC out))]⟩ (sb rfl rfl rfl) ?_
    refine TK.frz (t := 6) rfl rfl ?_
    refine NR ⟨[(6, vL eC out)], []⟩ (sb rfl rfl rfl) rfl ?_
    refine mv rfl ?_
    refine RO (Body.call (w56 out (by omega)) rfl rfl rfl) ?_
    refine ag rfl ?_
    refine RN ?_
    refine Ap rfl ?_
    refine NR ⟨[(6, vL eC out), (12, vI (chkS out))], []⟩ (sb rfl rfl rfl) rfl ?_
    refine mv rfl ?_
    refine RO (Body.neq rfl rfl) ?_
    refine RN ?_
    refine Ap rfl ?_
    refine TK.norm ⟨[(6, vL eC out), (12, vI (chkS out)), (90, vB (decide ((chkS out) ≠ 0)))], []⟩ (sb rfl rfl rfl) ?_
    refine TK.condP rfl (fun h8 => ?_) (fun h8 => ?_)
    ·
     refine At rfl ?_
     refine NR ⟨[(12, vI (chkS out))], []⟩ (sb rfl rfl rfl) rfl ?_
     refine mv rfl ?_
     refine RO (Body.nilS (enc := eC) rfl) ?_
     refine ag rfl ?_
     refine ag rfl ?_
     refine RN ?_
     refine Ap rfl ?_
     refine TK.ret ?_
     refine PK.ret ?_
     refine leaf (val0 := .tup [vL eC [], vI 0, vI (chkS out)]) (by kernel_rfl) ?_
     exact tup3 (lsl (by (rw [hI0.2.2, parG_bad (by omega) (by assumption)]))) (li (by (rw [hI0.2.2, parG_bad (by omega) (by assumption)]))) (li (by (rw [hI0.2.2, parG_bad (by omega) (by assumption)])))
    ·
     refine At rfl ?_
     refine NR ⟨[(6, vL eC out)], []⟩ (sb rfl rfl rfl) rfl ?_
     refine mv rfl ?_
     refine ag rfl ?_
     refine ag rfl ?_
     refine ag rfl ?_
     refine RN ?_
     refine Ap rfl ?_
     refine TK.ret ?_
     refine PK.ret ?_
     refine leaf (val0 := .tup [vL eC out, vI 0, vI 0]) (by kernel_rfl) ?_
     exact tup3 (lsl (by (rw [hI0.2.2, parG_end (by omega) (by assumption)]))) (li (by (rw [hI0.2.2, parG_end (by omega) (by assumption)]))) (li (by (rw [hI0.2.2, parG_end (by omega) (by assumption)])))
set_option maxHeartbeats 4000000 in
theorem w127 (hp : PowLaid) (hj2 : Join2Ok) (l : List Cmd) (hc : ∀ c ∈ l, chkC c = 0) (hl : l.length ≤ 64) : CallOk Tryz.prog 127 [vL eC l] (lookM []) (vS (bsO (prtS l))) [] := by
 haveI := tab_ok
 obtain ⟨fn, f1, f2, f3, f4, _, f6⟩ := qf127
 refine callOk_of (Y := tab) (F := fn127) f1 (f2.trans rfl) f3 f4 f6 (Nat.le_of_ble_eq_true rfl) rfl ?_
 clear f1 f2 f3 f4 f6
 show TK _ _ _ _ _ _ ⟨[(0, vL eC l)], []⟩
 refine At rfl ?_
 refine NR ⟨[(0, vL eC l)], []⟩ (sb rfl rfl rfl) rfl ?_
 refine ag rfl ?_
 refine RN ?_
 refine Ap rfl ?_
 refine NR ⟨[(0, vL eC l)], []⟩ (sb rfl rfl rfl) rfl ?_
 refine RO (Body.adopt 4 1 9 rfl rfl) ?_
 refine RN ?_
 refine Ap rfl ?_
 refine NR ⟨[(0, vL eC l), (3, .aref 4 0)], [(4, .arr 0 1 9 (List.map eN []))]⟩ (sb rfl rfl rfl) rfl ?_
 refine mv rfl ?_
 refine RO (Body.lenL rfl un82) ?_
 refine mv rfl ?_
 refine RN ?_
 refine Ap rfl ?_
 refine TK.loop (α := Nat × Nat × List (List UInt8)) (fun x => ⟨[(3, .aref 4 x.2.1), (6, vL eC l), (7, vI l.length), (8, vI ((x.1 : Nat) : Int))], [(4, .arr x.2.1 1 9 (List.map eN x.2.2))]⟩) (fun x => x.1 ≤ l.length ∧ x.2.2.length = x.1 ∧ x.2.2 = List.map prtW (List.take x.1 l)) (fun x => l.length - x.1) (0, 0, []) ?_ (sb rfl rfl rfl) ?_
 · show 0 ≤ l.length ∧ List.length [] = 0 ∧ [] = List.map prtW (List.take 0 l)
   exact ⟨Nat.zero_le _, rfl, rfl⟩
 rintro ⟨k, v, out⟩ hI0
 replace hI0 : k ≤ l.length ∧ out.length = k ∧ out = List.map prtW (List.take k l) := hI0
 show TK _ _ _ _ _ _ ⟨[(3, .aref 4 v), (6, vL eC l), (7, vI l.length), (8, vI k)], [(4, .arr v 1 9 (List.map eN out))]⟩
 refine At rfl ?_
 refine NR ⟨[(3, .aref 4 v), (6, vL eC l), (7, vI l.length), (8, vI k)], [(4, .arr v 1 9 (List.map eN out))]⟩ (sb rfl rfl rfl) rfl ?_
 refine RO (Body.lss rfl rfl) ?_
 refine RN ?_
 refine Ap rfl ?_
 refine TK.norm ⟨[(3, .aref 4 v), (6, vL eC l), (7, vI l.length), (8, vI k), (9, vB (decide ((k : Int) < (l.length : Int))))], [(4, .arr v 1 9 (List.map eN out))]⟩ (sb rfl rfl rfl) ?_
 refine TK.condP rfl (fun h1 => ?_) (fun h1 => ?_)
 ·
  refine At rfl ?_
  refine NR ⟨[(3, .aref 4 v), (6, vL eC l), (7, vI l.length), (8, vI k)], [(4, .arr v 1 9 (List.map eN out))]⟩ (sb rfl rfl rfl) rfl ?_
  refine RO (Body.idx (z := z3) (i := k) rfl rfl un82 sz116 (fun _ => rfl) rfl (by omega)) ?_
  refine RO (Body.loadA (ds := [pS (bsO (List.getD l k z3).1), pS (bsO (Prod.fst (Prod.snd (List.getD l k z3)))), pI (Prod.snd (Prod.snd (List.getD l k z3)))]) rfl ag116 sz116 (Nat.le_of_ble_eq_true rfl) rfl) ?_
  refine rn rfl ?_
  refine rn rfl ?_
  refine RN ?_
  refine Ap rfl ?_
  refine TK.norm ⟨[(3, .aref 4 v), (5, .bref 6 0), (6, vL eC l), (7, vI l.length), (8, vI k)], [(4, .arr v 1 9 (List.map eN out)), (6, .box 116 [vS (bsO (List.getD l k z3).1), vS (bsO (Prod.fst (Prod.snd (List.getD l k z3)))), vI (Prod.snd (Prod.snd (List.getD l k z3)))])]⟩ (sb rfl rfl rfl) ?_
  have hck := hc _ (getD_mem (l := l) (k := k) (z := z3) (by omega))
  have hcs := cmd_sz hck
  refine TK.rg (Y := tab) mixed rfl ?_
  refine RO (Body.fadB rfl fa116_0 rfl) ?_
  refine RO (Body.loadB rfl rfl rfl ag9 sz9 rfl) ?_
  refine RN ?_
  refine Ap rfl ?_
  refine NR ⟨[(3, .aref 4 v), (5, .bref 6 0), (6, vL eC l), (7, vI l.length), (8, vI k), (13, vS (bsO (List.getD l k z3).1))], [(4, .arr v 1 9 (List.map eN out)), (6, .box 116 [vS (bsO (List.getD l k z3).1), vS (bsO (Prod.fst (Prod.snd (List.getD l k z3)))), vI (Prod.snd (Prod.snd (List.getD l k z3)))])]⟩ (sb rfl rfl rfl) rfl ?_
  refine RO (Body.seqB (a := (List.getD l k z3).1) (b := [97, 99, 116]) rfl rfl) ?_
  refine ag rfl ?_
  refine RN ?_
  refine Ap rfl ?_
  refine TK.norm ⟨[(3, .aref 4 v), (5, .bref 6 0), (6, vL eC l), (7, vI l.length), (8, vI k), (13, vS (bsO (List.getD l k z3).1)), (24, vB (decide ((List.getD l k z3).1 = [97, 99, 116])))], [(4, .arr v 1 9 (List.map eN out)), (6, .box 116 [vS (bsO (List.getD l k z3).1), vS (bsO (Prod.fst (Prod.snd (List.getD l k z3)))), vI (Prod.snd (Prod.snd (List.getD l k z3)))])]⟩ (sb rfl rfl rfl) ?_
  refine TK.condP rfl (fun h2 => ?_) (fun h2 => ?_)
  ·
   refine At rfl ?_
   refine NR ⟨[(3, .aref 4 v), (5, .bref 6 0), (6, vL eC l), (7, vI l.length), (8, vI k)], [(4, .arr v 1 9 (List.map eN out)), (6, .box 116 [vS (bsO (List.getD l k z3).1), vS (bsO (Prod.fst (Prod.snd (List.getD l k z3)))), vI (Prod.snd (Prod.snd (List.getD l k z3)))])]⟩ (sb rfl rfl rfl) rfl ?_
   refine rn rfl ?_
   refine RO (Body.fadB rfl fa116_1 rfl) ?_
   refine RO (Body.loadB rfl rfl rfl ag9 sz9 rfl) ?_
   refine RO (Body.catB (a := [97, 99, 116, 32]) (b := (Prod.fst (Prod.snd (List.getD l k z3)))) rfl rfl (by (simp only [List.length_append, List.length_cons, List.length_nil]; omega))) ?_
   refine RO (Body.runZ (val := .pv (.slice (List.map eN [([97, 99, 116, 32] ++ (Prod.fst (Prod.snd (List.getD l k z3))))]))) rfl (fun l => Frz.arr l _ _ _ _ _) rfl) ?_
   refine RO (Body.append rfl rfl rfl un73 in9 rfl (fun _ => rfl) by9 (by (simp only [List.length_append, List.length_cons, List.length_nil]; omega))) ?_
   refine rn rfl ?_
   refine RN ?_
   refine Ap rfl ?_
   refine NR ⟨[(3, .aref 4 (v + 1)), (6, vL eC l), (7, vI l.length), (8, vI k)], [(4, .arr (v + 1) 1 9 (List.map eN (out ++ [([97, 99, 116, 32] ++ (Prod.fst (Prod.snd (List.getD l k z3))))])))]⟩ (sb rfl rfl rfl) rfl ?_
   refine RO (Body.add rfl rfl (by unfold R64; omega)) ?_
   refine mv rfl ?_
   refine RN ?_
   refine Aq rfl ?_
   refine PK.lp ?_
   refine LP.mk ((k + 1), (v + 1), (out ++ [([97, 99, 116, 32] ++ (Prod.fst (Prod.snd (List.getD l k z3))))])) ?_ ?_ (sb rfl rfl rfl)
   · show (k + 1) ≤ l.length ∧ List.length (out ++ [([97, 99, 116, 32] ++ (Prod.fst (Prod.snd (List.getD l k z3))))]) = (k + 1) ∧ (out ++ [([97, 99, 116, 32] ++ (Prod.fst (Prod.snd (List.getD l k z3))))]) = List.map prtW (List.take (k + 1) l)
     refine ⟨by omega, by simp only [List.length_append, List.length_cons, List.length_nil]; omega, ?_⟩; exact prt_next (by omega) hI0.2.2 (by rw [prtW, if_pos h2])
   · show l.length - (k + 1) < l.length - k
     omega
  ·
   refine At rfl ?_
   refine NR ⟨[(3, .aref 4 v), (5, .bref 6 0), (6, vL eC l), (7, vI l.length), (8, vI k), (13, vS (bsO (List.getD l k z3).1))], [(4, .arr v 1 9 (List.map eN out)), (6, .box 116 [vS (bsO (List.getD l k z3).1), vS (bsO (Prod.fst (Prod.snd (List.getD l k z3)))), vI (Prod.snd (Prod.snd (List.getD l k z3)))])]⟩ (sb rfl rfl rfl) rfl ?_
   refine RO (Body.seqB (a := (List.getD l k z3).1) (b := [101, 110, 100]) rfl rfl) ?_
   refine ag rfl ?_
   refine RN ?_
   refine Ap rfl ?_
   refine TK.norm ⟨[(3, .aref 4 v), (5, .bref 6 0), (6, vL eC l), (7, vI l.length), (8, vI k), (32, vB (decide ((List.getD l k z3).1 = [101, 110, 100])))], [(4, .arr v 1 9 (List.map eN out)), (6, .box 116 [vS (bsO (List.getD l k z3).1), vS (bsO (Prod.fst (Prod.snd (List.getD l k z3)))), vI (Prod.snd (Prod.snd (List.getD l k z3)))])]⟩ (sb rfl rfl rfl) ?_
   refine TK.condP rfl (fun h3 => ?_) (fun h3 => ?_)
   ·
    refine At rfl ?_
    refine NR ⟨[(3, .aref 4 v), (6, vL eC l), (7, vI l.length), (8, vI k)], [(4, .arr v 1 9 (List.map eN out))]⟩ (sb rfl rfl rfl) rfl ?_
    refine rn rfl ?_
    refine RO (Body.runZ (val := .pv (.slice (List.map eN [[101, 110, 100]]))) rfl (fun l => Frz.arr l _ _ _ _ _) rfl) ?_
    refine RO (Body.append rfl rfl rfl un73 in9 rfl (fun _ => rfl) by9 (by (simp only [List.length_append, List.length_cons, List.length_nil]; omega))) ?_
    refine rn rfl ?_
    refine RN ?_
    refine Ap rfl ?_
    refine NR ⟨[(3, .aref 4 (v + 1)), (6, vL eC l), (7, vI l.length), (8, vI k)], [(4, .arr (v + 1) 1 9 (List.map eN (out ++ [[101, 110, 100]])))]⟩ (sb rfl rfl rfl) rfl ?_
    refine RO (Body.add rfl rfl (by unfold R64; omega)) ?_
    refine mv rfl ?_
    refine RN ?_
    refine Aq rfl ?_
    refine PK.lp ?_
    refine LP.mk ((k + 1), (v + 1), (out ++ [[101, 110, 100]])) ?_ ?_ (sb rfl rfl rfl)
    · show (k + 1) ≤ l.length ∧ List.length (out ++ [[101, 110, 100]]) = (k + 1) ∧ (out ++ [[101, 110, 100]]) = List.map prtW (List.take (k + 1) l)
      refine ⟨by omega, by simp only [List.length_append, List.length_cons, List.length_nil]; omega, ?_⟩; exact prt_next (by omega) hI0.2.2 (by rw [prtW, if_neg h2, if_pos h3])
    · show l.length - (k + 1) < l.length - k
      omega
   ·
    refine At rfl ?_
    refine TK.norm ⟨[(3, .aref 4 v), (5, .bref 6 0), (6, vL eC l), (7, vI l.length), (8, vI k)], [(4, .arr v 1 9 (List.map eN out)), (6, .box 116 [vS (bsO (List.getD l k z3).1), vS (bsO (Prod.fst (Prod.snd (List.getD l k z3)))), vI (Prod.snd (Prod.snd (List.getD l k z3)))])]⟩ (sb rfl rfl rfl) ?_
    have hil := itoa_len (n := (List.getD l k z3).2.2) (by omega) (by omega)
    refine TK.rg (Y := tab) mixed rfl ?_
    refine rn rfl ?_
    refine RO (Body.fadB rfl fa116_0 rfl) ?_
    refine RO (Body.loadB rfl rfl rfl ag9 sz9 rfl) ?_
    refine RO (Body.catB (a := (List.getD l k z3).1) (b := [32]) rfl rfl (by (simp only [List.length_append, List.length_cons, List.length_nil]; omega))) ?_
    refine RO (Body.fadB rfl fa116_2 rfl) ?_
    refine RO (Body.loadB rfl rfl rfl ag3 sz3 rfl) ?_
    refine RO (Body.call (w185 hp (Prod.snd (Prod.snd (List.getD l k z3))) (by unfold R64; omega)) rfl rfl rfl) ?_
    refine RO (Body.catB (a := ((List.getD l k z3).1 ++ [32])) (b := (Lib.itoa (Prod.snd (Prod.snd (List.getD l k z3))))) rfl rfl (by (simp only [List.length_append, List.length_cons, List.length_nil]; omega))) ?_
    refine RO (Body.runZ (val := .pv (.slice (List.map eN [(((List.getD l k z3).1 ++ [32]) ++ (Lib.itoa (Prod.snd (Prod.snd (List.getD l k z3)))))]))) rfl (fun l => Frz.arr l _ _ _ _ _) rfl) ?_
    refine RO (Body.append rfl rfl rfl un73 in9 rfl (fun _ => rfl) by9 (by (simp only [List.length_append, List.length_cons, List.length_nil]; omega))) ?_
    refine rn rfl ?_
    refine RG.nil (fun _ => by kernel_rfl) ?_
    refine Ap rfl ?_
    refine NR ⟨[(3, .aref 4 (v + 1)), (6, vL eC l), (7, vI l.length), (8, vI k)], [(4, .arr (v + 1) 1 9 (List.map eN (out ++ [(((List.getD l k z3).1 ++ [32]) ++ (Lib.itoa (Prod.snd (Prod.snd (List.getD l k z3)))))])))]⟩ (sb rfl rfl rfl) rfl ?_
    refine RO (Body.add rfl rfl (by unfold R64; omega)) ?_
    refine mv rfl ?_
    refine RN ?_
    refine Aq rfl ?_
    refine PK.lp ?_
    refine LP.mk ((k + 1), (v + 1), (out ++ [(((List.getD l k z3).1 ++ [32]) ++ (Lib.itoa (Prod.snd (Prod.snd (List.getD l k z3)))))])) ?_ ?_ (sb rfl rfl rfl)
    · show (k + 1) ≤ l.length ∧ List.length (out ++ [(((List.getD l k z3).1 ++ [32]) ++ (Lib.itoa (Prod.snd (Prod.snd (List.getD l k z3)))))]) = (k + 1) ∧ (out ++ [(((List.getD l k z3).1 ++ [32]) ++ (Lib.itoa (Prod.snd (Prod.snd (List.getD l k z3)))))]) = List.map prtW (List.take (k + 1) l)
      refine ⟨by omega, by simp only [List.length_append, List.length_cons, List.length_nil]; omega, ?_⟩; exact prt_next (by omega) hI0.2.2 (by rw [prtW, if_neg h2, if_neg h3])
    · show l.length - (k + 1) < l.length - k
      omega
 ·
  refine At rfl ?_
  refine TK.exit ?_
  refine PK.exit rfl ?_
  refine Ap rfl ?_
  refine TK.norm ⟨[(3, .aref 4 v)], [(4, .arr v 1 9 (List.map eN out))]⟩ (sb rfl rfl rfl) ?_
  have hou : out = l.map prtW := by rw [hI0.2.2, List.take_of_length_le (by omega)]
  have hjw : ∀ w ∈ out, w.length ≤ 1000 := by rw [hou]; exact prtW_mem hc
  refine TK.frz (t := 3) rfl rfl ?_
  refine NR ⟨[(3, vL eN out)], []⟩ (sb rfl rfl rfl) rfl ?_
  refine mv rfl ?_
  refine RO (Body.call (hj2 out (by omega) hjw) rfl rfl rfl) ?_
  refine ag rfl ?_
  refine RN ?_
  refine Ap rfl ?_
  refine TK.ret ?_
  refine PK.ret ?_
  refine leaf (val0 := vS (bsO (joinC out))) (by kernel_rfl) ?_
  exact ls (by exact congrArg (fun z => bsO (joinC z)) hou)
set_option maxHeartbeats 4000000 in
theorem w54 (hp : PowLaid) (hj2 : Join2Ok) (l : List Cmd) (hl : l.length ≤ 10000000000000) : CallOk Tryz.prog 54 [vL eC l] (lookM []) (.tup [vS (bsO (srcX l)), vI (chkS l)]) [] := by
 haveI := tab_ok
 obtain ⟨fn, f1, f2, f3, f4, _, f6⟩ := qf54
 refine callOk_of (Y := tab) (F := fn54) f1 (f2.trans rfl) f3 f4 f6 (Nat.le_of_ble_eq_true rfl) rfl ?_
 clear f1 f2 f3 f4 f6
 show TK _ _ _ _ _ _ ⟨[(0, vL eC l)], []⟩
 refine At rfl ?_
 refine NR ⟨[(0, vL eC l)], []⟩ (sb rfl rfl rfl) rfl ?_
 refine ag rfl ?_
 refine ag rfl ?_
 refine RN ?_
 refine Ap rfl ?_
 refine NR ⟨[(0, vL eC l)], []⟩ (sb rfl rfl rfl) rfl ?_
 refine mv rfl ?_
 refine RO (Body.call (w59 l (by omega)) rfl rfl rfl) ?_
 refine ag rfl ?_
 refine RN ?_
 refine Ap rfl ?_
 refine NR ⟨[(0, vL eC l), (4, vI (chkS l))], []⟩ (sb rfl rfl rfl) rfl ?_
 refine mv rfl ?_
 refine RO (Body.neq rfl rfl) ?_
 refine RN ?_
 refine Ap rfl ?_
 refine TK.norm ⟨[(0, vL eC l), (4, vI (chkS l)), (8, vB (decide ((chkS l) ≠ 0)))], []⟩ (sb rfl rfl rfl) ?_
 refine TK.condP rfl (fun h1 => ?_) (fun h1 => ?_)
 ·
  refine At rfl ?_
  refine NR ⟨[(4, vI (chkS l))], []⟩ (sb rfl rfl rfl) rfl ?_
  refine mv rfl ?_
  refine ag rfl ?_
  refine ag rfl ?_
  refine RN ?_
  refine Ap rfl ?_
  refine TK.ret ?_
  refine PK.ret ?_
  refine leaf (val0 := .tup [vS (bsO []), vI (chkS l)]) (by kernel_rfl) ?_
  exact tup2 (ls (by rw [srcX_no h1])) (rfl)
 ·
  refine At rfl ?_
  refine TK.norm ⟨[(0, vL eC l)], []⟩ (sb rfl rfl rfl) ?_
  obtain ⟨hl64, hc, _, _⟩ := chkS_ok (Decidable.not_not.1 h1)
  refine TK.rg (Y := tab) mixed rfl ?_
  refine mv rfl ?_
  refine RO (Body.call (w127 hp hj2 l hc hl64) rfl rfl rfl) ?_
  refine ag rfl ?_
  refine ag rfl ?_
  refine RN ?_
  refine Ap rfl ?_
  refine TK.ret ?_
  refine PK.ret ?_
  refine leaf (val0 := .tup [vS (bsO (prtS l)), vI 0]) (by kernel_rfl) ?_
  exact tup2 (ls (by rw [srcX_ok (Decidable.not_not.1 h1)])) (li (by exact (Decidable.not_not.1 h1).symm))
set_option maxHeartbeats 4000000 in
theorem w57 (l : List Cmd) (hc : ∀ c ∈ l, chkC c = 0) (hl : l.length ≤ 64) : CallOk Tryz.prog 57 [vL eC l] (lookM []) (vS (bsO (prtS l))) [] := by
 haveI := tab_ok
 obtain ⟨fn, f1, f2, f3, f4, _, f6⟩ := qf57
 refine callOk_of (Y := tab) (F := fn57) f1 (f2.trans rfl) f3 f4 f6 (Nat.le_of_ble_eq_true rfl) rfl ?_
 clear f1 f2 f3 f4 f6
 show TK _ _ _ _ _ _ ⟨[(0, vL eC l)], []⟩
 refine At rfl ?_
 refine NR ⟨[(0, vL eC l)], []⟩ (sb rfl rfl rfl) rfl ?_
 refine ag rfl ?_
 refine RN ?_
 refine Ap rfl ?_
 refine NR ⟨[(0, vL eC l)], []⟩ (sb rfl rfl rfl) rfl ?_
 refine ag rfl ?_
 refine RN ?_
 refine Ap rfl ?_
 refine NR ⟨[(0, vL eC l), (3, vS (bsO []))], []⟩ (sb rfl rfl rfl) rfl ?_
 refine ag rfl ?_
 refine RN ?_
 refine Ap rfl ?_
 refine TK.loop (α := Nat × List UInt8) (fun x => ⟨[(0, vL eC l), (3, vS (bsO x.2)), (4, vI ((x.1 : Nat) : Int))], []⟩) (fun x => x.1 ≤ l.length ∧ x.2 = prtS (List.take x.1 l)) (fun x => l.length - x.1) (0, []) ?_ (sb rfl rfl rfl) ?_
 · show 0 ≤ l.length ∧ [] = prtS (List.take 0 l)
   exact ⟨Nat.zero_le _, rfl⟩
 rintro ⟨k, s⟩ hI0
 replace hI0 : k ≤ l.length ∧ s = prtS (List.take k l) := hI0
 show TK _ _ _ _ _ _ ⟨[(0, vL eC l), (3, vS (bsO s)), (4, vI k)], []⟩
 refine At rfl ?_
 refine NR ⟨[(0, vL eC l), (3, vS (bsO s)), (4, vI k)], []⟩ (sb rfl rfl rfl) rfl ?_
 refine mv rfl ?_
 refine mv rfl ?_
 refine RO (Body.lenL rfl un83) ?_
 refine RO (Body.lss rfl rfl) ?_
 refine RN ?_
 refine Ap rfl ?_
 refine TK.norm ⟨[(0, vL eC l), (3, vS (bsO s)), (4, vI k), (8, vB (decide ((k : Int) < (l.length : Int))))], []⟩ (sb rfl rfl rfl) ?_
 refine TK.condP rfl (fun h1 => ?_) (fun h1 => ?_)
 ·
  refine At rfl ?_
  refine TK.norm ⟨[(0, vL eC l), (3, vS (bsO s)), (4, vI k)], []⟩ (sb rfl rfl rfl) ?_
  have hck := hc _ (getD_mem (l := l) (k := k) (z := z3) (by omega))
  have hcs := cmd_sz hck
  have hls : s.length ≤ k * 42 := by have hpl := prtS_len (l := List.take k l) (fun c h => hc c (List.mem_of_mem_take h)); rw [List.length_take] at hpl; rw [hI0.2]; omega
  have hAl := sA_len s k
  refine TK.rg (Y := tab) mixed rfl ?_
  refine mv rfl ?_
  refine RO (Body.gtr rfl rfl) ?_
  refine RN ?_
  refine Ap rfl ?_
  refine TK.norm ⟨[(0, vL eC l), (3, vS (bsO s)), (4, vI k), (12, vB (decide (0 < (k : Int))))], []⟩ (sb rfl rfl rfl) ?_
  refine TK.condJ ⟨[(0, vL eC l), (3, vS (bsO (sA s k))), (4, vI k)], []⟩ rfl rfl (fun h2 => ?_) (fun h2 => ?_) ?_
  ·
   replace h2 := of_decide_eq_true h2
   refine At rfl ?_
   refine NR ⟨[(0, vL eC l), (3, vS (bsO s)), (4, vI k)], []⟩ (sb rfl rfl rfl) rfl ?_
   refine mv rfl ?_
   refine RO (Body.catB (a := s) (b := [59, 32]) rfl rfl (by (simp only [List.length_append, List.length_cons, List.length_nil]; omega))) ?_
   refine ag rfl ?_
   refine RN ?_
   refine Aq rfl ?_
   refine PK.lp ?_
   rw [sA, if_pos (by omega)]
   exact sb rfl rfl rfl
  ·
   replace h2 := of_decide_eq_false h2
   refine Au rfl ?_
   refine PK.lp ?_
   rw [sA, if_neg (by omega)]
   exact sb rfl rfl rfl
  ·
   refine At rfl ?_
   refine NR ⟨[(0, vL eC l), (3, vS (bsO (sA s k))), (4, vI k)], []⟩ (sb rfl rfl rfl) rfl ?_
   refine mv rfl ?_
   refine mv rfl ?_
   refine mv rfl ?_
   refine RO (Body.idx (z := z3) (i := k) rfl rfl un83 sz115 (fun _ => rfl) rfl (by omega)) ?_
   refine RO (Body.fadP rfl fa115_0 rfl) ?_
   refine RO (Body.loadP rfl ag9 sz9) ?_
   refine RO (Body.catB (a := (sA s k)) (b := (List.getD l k z3).1) rfl rfl (by omega)) ?_
   refine ag rfl ?_
   refine RN ?_
   refine Ap rfl ?_
   refine TK.norm ⟨[(0, vL eC l), (3, vS (bsO ((sA s k) ++ (List.getD l k z3).1))), (4, vI k)], []⟩ (sb rfl rfl rfl) ?_
   have hBl := sB_len (List.getD l k z3) (sA s k ++ (List.getD l k z3).1)
   have hAo : (sA s k ++ (List.getD l k z3).1).length ≤ 10000 := by simp only [List.length_append]; omega
   refine TK.rg (Y := tab) mixed rfl ?_
   refine mv rfl ?_
   refine mv rfl ?_
   refine RO (Body.idx (z := z3) (i := k) rfl rfl un83 sz115 (fun _ => rfl) rfl (by omega)) ?_
   refine RO (Body.fadP rfl fa115_1 rfl) ?_
   refine RO (Body.loadP rfl ag9 sz9) ?_
   refine RO (Body.sneB (a := (Prod.fst (Prod.snd (List.getD l k z3)))) (b := []) rfl rfl) ?_
   refine RN ?_
   refine Ap rfl ?_
   refine TK.norm ⟨[(0, vL eC l), (3, vS (bsO ((sA s k) ++ (List.getD l k z3).1))), (4, vI k), (27, vB (decide ((Prod.fst (Prod.snd (List.getD l k z3))) ≠ [])))], []⟩ (sb rfl rfl rfl) ?_
   refine TK.condJ ⟨[(0, vL eC l), (3, vS (bsO (sB (List.getD l k z3) (sA s k ++ (List.getD l k z3).1)))), (4, vI k)], []⟩ rfl rfl (fun h3 => ?_) (fun h3 => ?_) ?_
   ·
    replace h3 := of_decide_eq_true h3
    refine At rfl ?_
    refine NR ⟨[(0, vL eC l), (3, vS (bsO ((sA s k) ++ (List.getD l k z3).1))), (4, vI k)], []⟩ (sb rfl rfl rfl) rfl ?_
    refine mv rfl ?_
    refine RO (Body.catB (a := ((sA s k) ++ (List.getD l k z3).1)) (b := [32]) rfl rfl (by (simp only [List.length_append, List.length_cons, List.length_nil]; omega))) ?_
    refine mv rfl ?_
    refine mv rfl ?_
    refine RO (Body.idx (z := z3) (i := k) rfl rfl un83 sz115 (fun _ => rfl) rfl (by omega)) ?_
    refine RO (Body.fadP rfl fa115_1 rfl) ?_
    refine RO (Body.loadP rfl ag9 sz9) ?_
    refine RO (Body.catB (a := (((sA s k) ++ (List.getD l k z3).1) ++ [32])) (b := (Prod.fst (Prod.snd (List.getD l k z3)))) rfl rfl (by (simp only [List.length_append, List.length_cons, List.length_nil]; omega))) ?_
    refine ag rfl ?_
    refine RN ?_
    refine Aq rfl ?_
    refine PK.lp ?_
    rw [sB, if_neg (by assumption)]
    exact sb rfl rfl rfl
   ·
    replace h3 := of_decide_eq_false h3
    refine Au rfl ?_
    refine PK.lp ?_
    rw [sB, if_pos (Decidable.not_not.1 (by assumption))]
    exact sb rfl rfl rfl
   ·
    refine At rfl ?_
    refine NR ⟨[(0, vL eC l), (3, vS (bsO (sB (List.getD l k z3) (sA s k ++ (List.getD l k z3).1)))), (4, vI k)], []⟩ (sb rfl rfl rfl) rfl ?_
    refine mv rfl ?_
    refine mv rfl ?_
    refine RO (Body.idx (z := z3) (i := k) rfl rfl un83 sz115 (fun _ => rfl) rfl (by omega)) ?_
    refine RO (Body.fadP rfl fa115_2 rfl) ?_
    refine RO (Body.loadP rfl ag3 sz3) ?_
    refine RO (Body.neq rfl rfl) ?_
    refine RN ?_
    refine Ap rfl ?_
    refine TK.norm ⟨[(0, vL eC l), (3, vS (bsO (sB (List.getD l k z3) (sA s k ++ (List.getD l k z3).1)))), (4, vI k), (41, vB (decide ((Prod.snd (Prod.snd (List.getD l k z3))) ≠ 0)))], []⟩ (sb rfl rfl rfl) ?_
    refine TK.condJ ⟨[(0, vL eC l), (3, vS (bsO (sC (List.getD l k z3) (sB (List.getD l k z3) (sA s k ++ (List.getD l k z3).1))))), (4, vI k)], []⟩ rfl rfl (fun h4 => ?_) (fun h4 => ?_) ?_
    ·
     replace h4 := of_decide_eq_true h4
     refine At rfl ?_
     refine NR ⟨[(0, vL eC l), (3, vS (bsO (sB (List.getD l k z3) (sA s k ++ (List.getD l k z3).1)))), (4, vI k)], []⟩ (sb rfl rfl rfl) rfl ?_
     refine mv rfl ?_
     refine RO (Body.catB (a := (sB (List.getD l k z3) (sA s k ++ (List.getD l k z3).1))) (b := [32]) rfl rfl (by (simp only [List.length_append, List.length_cons, List.length_nil]; omega))) ?_
     refine mv rfl ?_
     refine mv rfl ?_
     refine RO (Body.idx (z := z3) (i := k) rfl rfl un83 sz115 (fun _ => rfl) rfl (by omega)) ?_
     refine RO (Body.fadP rfl fa115_2 rfl) ?_
     refine RO (Body.loadP rfl ag3 sz3) ?_
     refine RO (Body.call (w131 (Prod.snd (Prod.snd (List.getD l k z3))) (by omega) (by omega)) rfl rfl rfl) ?_
     refine RO (Body.catB (a := ((sB (List.getD l k z3) (sA s k ++ (List.getD l k z3).1)) ++ [32])) (b := (Lib.itoa (Prod.snd (Prod.snd (List.getD l k z3))))) rfl rfl (by (have hil := itoa_len (n := (List.getD l k z3).2.2) (by omega) (by omega); simp only [List.length_append, List.length_cons, List.length_nil]; omega))) ?_
     refine ag rfl ?_
     refine RN ?_
     refine Aq rfl ?_
     refine PK.lp ?_
     rw [sC, if_neg (by assumption)]
     exact sb rfl rfl rfl
    ·
     replace h4 := of_decide_eq_false h4
     refine Au rfl ?_
     refine PK.lp ?_
     rw [sC, if_pos (Decidable.not_not.1 (by assumption))]
     exact sb rfl rfl rfl
    ·
     refine At rfl ?_
     refine NR ⟨[(0, vL eC l), (3, vS (bsO (sC (List.getD l k z3) (sB (List.getD l k z3) (sA s k ++ (List.getD l k z3).1))))), (4, vI k)], []⟩ (sb rfl rfl rfl) rfl ?_
     refine mv rfl ?_
     refine RO (Body.add rfl rfl (by unfold R64; omega)) ?_
     refine ag rfl ?_
     refine RN ?_
     refine Aq rfl ?_
     refine PK.lp ?_
     refine LP.mk ((k + 1), (sC (List.getD l k z3) (sB (List.getD l k z3) (sA s k ++ (List.getD l k z3).1)))) ?_ ?_ (sb rfl rfl rfl)
     · show (k + 1) ≤ l.length ∧ (sC (List.getD l k z3) (sB (List.getD l k z3) (sA s k ++ (List.getD l k z3).1))) = prtS (List.take (k + 1) l)
       exact ⟨by omega, src_next hc (by omega) hI0.2⟩
     · show l.length - (k + 1) < l.length - k
       omega
 ·
  refine At rfl ?_
  refine TK.exit ?_
  refine PK.exit rfl ?_
  refine Ap rfl ?_
  refine NR ⟨[(3, vS (bsO s))], []⟩ (sb rfl rfl rfl) rfl ?_
  refine mv rfl ?_
  refine ag rfl ?_
  refine RN ?_
  refine Ap rfl ?_
  refine TK.ret ?_
  refine PK.ret ?_
  refine leaf (val0 := vS (bsO s)) (by kernel_rfl) ?_
  exact ls (by rw [hI0.2, List.take_of_length_le (by omega)])
set_option maxHeartbeats 4000000 in
theorem w60 (a b : List Cmd) (hl : a.length ≤ 1000000000000000) : CallOk Tryz.prog 60 [vL eC a, vL eC b] (lookM []) (vB (decide (a = b))) [] := by
 haveI := tab_ok
 obtain ⟨fn, f1, f2, f3, f4, _, f6⟩ := qf60
 refine callOk_of (Y := tab) (F := fn60) f1 (f2.trans rfl) f3 f4 f6 (Nat.le_of_ble_eq_true rfl) rfl ?_
 clear f1 f2 f3 f4 f6
 show TK _ _ _ _ _ _ ⟨[(0, vL eC a), (1, vL eC b)], []⟩
 refine At rfl ?_
 refine NR ⟨[(0, vL eC a), (1, vL eC b)], []⟩ (sb rfl rfl rfl) rfl ?_
 refine ag rfl ?_
 refine RN ?_
 refine Ap rfl ?_
 refine NR ⟨[(0, vL eC a), (1, vL eC b)], []⟩ (sb rfl rfl rfl) rfl ?_
 refine mv rfl ?_
 refine RO (Body.lenL rfl un83) ?_
 refine mv rfl ?_
 refine RO (Body.lenL rfl un83) ?_
 refine RO (Body.neq rfl rfl) ?_
 refine RN ?_
 refine Ap rfl ?_
 refine TK.norm ⟨[(0, vL eC a), (1, vL eC b), (10, vB (decide ((a.length : Int) ≠ (b.length : Int))))], []⟩ (sb rfl rfl rfl) ?_
 refine TK.condP rfl (fun h1 => ?_) (fun h1 => ?_)
 ·
  refine At rfl ?_
  refine NR ⟨[], []⟩ (sb rfl rfl rfl) rfl ?_
  refine ag rfl ?_
  refine RN ?_
  refine Ap rfl ?_
  refine TK.ret ?_
  refine PK.ret ?_
  refine leaf (val0 := vB false) (by kernel_rfl) ?_
  exact lb (by exact (decide_eq_false fun e => by subst e; omega).symm)
 ·
  refine At rfl ?_
  refine NR ⟨[(0, vL eC a), (1, vL eC b)], []⟩ (sb rfl rfl rfl) rfl ?_
  refine ag rfl ?_
  refine RN ?_
  refine Ap rfl ?_
  refine TK.loop (α := Nat) (fun x => ⟨[(0, vL eC a), (1, vL eC b), (5, vI x)], []⟩) (fun x => x ≤ a.length ∧ a.length = b.length ∧ ∀ j, j < x → List.getD a j z3 = List.getD b j z3) (fun x => a.length - x) 0 ?_ (sb rfl rfl rfl) ?_
  · show 0 ≤ a.length ∧ a.length = b.length ∧ ∀ j, j < 0 → List.getD a j z3 = List.getD b j z3
    exact ⟨Nat.zero_le _, by omega, fun j hj => by omega⟩
  rintro k hI0
  replace hI0 : k ≤ a.length ∧ a.length = b.length ∧ ∀ j, j < k → List.getD a j z3 = List.getD b j z3 := hI0
  show TK _ _ _ _ _ _ ⟨[(0, vL eC a), (1, vL eC b), (5, vI k)], []⟩
  refine At rfl ?_
  refine NR ⟨[(0, vL eC a), (1, vL eC b), (5, vI k)], []⟩ (sb rfl rfl rfl) rfl ?_
  refine mv rfl ?_
  refine mv rfl ?_
  refine RO (Body.lenL rfl un83) ?_
  refine RO (Body.lss rfl rfl) ?_
  refine RN ?_
  refine Ap rfl ?_
  refine TK.norm ⟨[(0, vL eC a), (1, vL eC b), (5, vI k), (14, vB (decide ((k : Int) < (a.length : Int))))], []⟩ (sb rfl rfl rfl) ?_
  refine TK.condP rfl (fun h2 => ?_) (fun h2 => ?_)
  ·
   refine At rfl ?_
   refine NR ⟨[(0, vL eC a), (1, vL eC b), (5, vI k)], []⟩ (sb rfl rfl rfl) rfl ?_
   refine mv rfl ?_
   refine mv rfl ?_
   refine RO (Body.idx (z := z3) (i := k) rfl rfl un83 sz115 (fun _ => rfl) rfl (by omega)) ?_
   refine RO (Body.loadA (ds := [pS (bsO (List.getD a k z3).1), pS (bsO (Prod.fst (Prod.snd (List.getD a k z3)))), pI (Prod.snd (Prod.snd (List.getD a k z3)))]) rfl ag115 sz115 (Nat.le_of_ble_eq_true rfl) rfl) ?_
   refine mv rfl ?_
   refine mv rfl ?_
   refine RO (Body.idx (z := z3) (i := k) rfl rfl un83 sz115 (fun _ => rfl) rfl (by omega)) ?_
   refine RO (Body.loadA (ds := [pS (bsO (List.getD b k z3).1), pS (bsO (Prod.fst (Prod.snd (List.getD b k z3)))), pI (Prod.snd (Prod.snd (List.getD b k z3)))]) rfl ag115 sz115 (Nat.le_of_ble_eq_true rfl) rfl) ?_
   refine RO (Body.stqN rfl rfl fq115 (eqv_cons eqv_s (eqv_cons eqv_s (eqv_last eqv_i)))) ?_
   refine RG.nil (fun _ => by kernel_rfl) ?_
   refine Ap rfl ?_
   refine TK.norm ⟨[(0, vL eC a), (1, vL eC b), (5, vI k), (25, vB (!((decide ((List.getD a k z3).1 = (List.getD b k z3).1)) && ((decide ((Prod.fst (Prod.snd (List.getD a k z3))) = (Prod.fst (Prod.snd (List.getD b k z3))))) && (decide ((Prod.snd (Prod.snd (List.getD a k z3))) = (Prod.snd (Prod.snd (List.getD b k z3)))))))))], []⟩ (sb rfl rfl rfl) ?_
   refine TK.cond rfl (fun h3 => ?_) (fun h3 => ?_)
   ·
    refine At rfl ?_
    refine NR ⟨[], []⟩ (sb rfl rfl rfl) rfl ?_
    refine ag rfl ?_
    refine RN ?_
    refine Ap rfl ?_
    refine TK.ret ?_
    refine PK.ret ?_
    refine leaf (val0 := vB false) (by kernel_rfl) ?_
    exact lb (by exact (decide_eq_false fun e => by subst e; exact cm_ne h3 rfl).symm)
   ·
    refine At rfl ?_
    refine NR ⟨[(0, vL eC a), (1, vL eC b), (5, vI k)], []⟩ (sb rfl rfl rfl) rfl ?_
    refine mv rfl ?_
    refine RO (Body.add rfl rfl (by unfold R64; omega)) ?_
    refine ag rfl ?_
    refine RN ?_
    refine Aq rfl ?_
    refine PK.lp ?_
    refine LP.mk (k + 1) ?_ ?_ (sb rfl rfl rfl)
    · show (k + 1) ≤ a.length ∧ a.length = b.length ∧ ∀ j, j < (k + 1) → List.getD a j z3 = List.getD b j z3
      refine ⟨by omega, hI0.2.1, fun j hj => ?_⟩; rcases Nat.lt_succ_iff_lt_or_eq.1 hj with h | h; exact hI0.2.2 j h; subst h; exact cm_eq h3
    · show a.length - (k + 1) < a.length - k
      omega
  ·
   refine At rfl ?_
   refine TK.exit ?_
   refine PK.exit rfl ?_
   refine Ap rfl ?_
   refine NR ⟨[], []⟩ (sb rfl rfl rfl) rfl ?_
   refine ag rfl ?_
   refine RN ?_
   refine Ap rfl ?_
   refine TK.ret ?_
   refine PK.ret ?_
   refine leaf (val0 := vB true) (by kernel_rfl) ?_
   exact lb (by exact (decide_eq_true (eq_getD z3 hI0.2.1 fun j hj => hI0.2.2 j (by omega))).symm)
set_option maxHeartbeats 4000000 in
theorem w9 (ha : CallOk Tryz.prog 19 [] (lookM []) (.pv (.lit (.bool true))) []) (hp : PowLaid) (he : ErrLaid) (hj2 : Join2Ok) (l : List Cmd) (src : List UInt8) (hl : l.length * 40 ≤ 140737488355328) : CallOk Tryz.prog 9 [vL eC l, vS (bsO src)] (lookM []) (vB true) [] := by
 haveI := tab_ok
 obtain ⟨fn, f1, f2, f3, f4, _, f6⟩ := qf9
 refine callOk_of (Y := tab) (F := fn9) f1 (f2.trans rfl) f3 f4 f6 (Nat.le_of_ble_eq_true rfl) rfl ?_
 clear f1 f2 f3 f4 f6
 show TK _ _ _ _ _ _ ⟨[(0, vL eC l), (1, vS (bsO src))], []⟩
 refine At rfl ?_
 refine NR ⟨[(0, vL eC l), (1, vS (bsO src))], []⟩ (sb rfl rfl rfl) rfl ?_
 refine ag rfl ?_
 refine RN ?_
 refine Ap rfl ?_
 refine NR ⟨[(0, vL eC l), (1, vS (bsO src))], []⟩ (sb rfl rfl rfl) rfl ?_
 refine mv rfl ?_
 refine RO (Body.call (w46 l (by omega)) rfl rfl rfl) ?_
 refine ag rfl ?_
 refine RN ?_
 refine Ap rfl ?_
 refine NR ⟨[(0, vL eC l), (1, vS (bsO src)), (5, vL eC l)], []⟩ (sb rfl rfl rfl) rfl ?_
 refine mv rfl ?_
 refine RO (Body.call (w47 l 12 (by omega)) rfl rfl rfl) ?_
 refine RO (Body.not rfl) ?_
 refine mv rfl ?_
 refine RG.cons (EfR.sym rfl (fun hc => Body.move rfl) rfl) ?_
 refine RG.cons (EfR.sym rfl (fun hc => Body.lenB (a := src) (ev1_gd rfl hc) un9) rfl) ?_
 refine RG.cons (EfR.sym rfl (fun hc => Body.gtr (ev1_gd rfl hc) rfl) rfl) ?_
 refine RG.cons (EfR.sym rfl (fun hc => Body.move (ev1_gd rfl hc)) rfl) ?_
 refine RG.cons (EfR.sym rfl (fun hc => Body.move rfl) rfl) ?_
 refine RG.cons (EfR.sym rfl (fun hc => Body.lenB (a := src) (ev1_gd rfl hc) un9) rfl) ?_
 refine RG.cons (EfR.sym rfl (fun hc => Body.leq (ev1_gd rfl hc) rfl) rfl) ?_
 refine RG.cons (EfR.sym rfl (fun hc => Body.pick (ev1_gd rfl hc) rfl rfl (gdB rfl) rfl (pick_and2 hc)) rfl) ?_
 refine RO (Body.pick rfl rfl rfl rfl (gdB rfl) (pick_or _)) ?_
 refine mv rfl ?_
 refine RG.cons (EfR.sym rfl (fun hc => Body.move rfl) rfl) ?_
 refine RG.cons (EfR.sym rfl (fun hc => Body.lenB (a := src) (ev1_gd rfl hc) un9) rfl) ?_
 refine RG.cons (EfR.sym rfl (fun hc => Body.gtr (ev1_gd rfl hc) rfl) rfl) ?_
 refine RO (Body.pick rfl rfl rfl rfl (gdB rfl) (pick_or _)) ?_
 refine RN ?_
 refine Ap rfl ?_
 refine TK.norm ⟨[(0, vL eC l), (1, vS (bsO src)), (5, vL eC l), (35, vB (bif (bif (!(shortS l 12)) then true else (bif (decide (300 < (src.length : Int))) then (decide ((src.length : Int) ≤ 4096)) else false)) then true else (decide (4099 < (src.length : Int)))))], []⟩ (sb rfl rfl rfl) ?_
 refine TK.cond rfl (fun h1 => ?_) (fun h1 => ?_)
 ·
  refine At rfl ?_
  refine NR ⟨[], []⟩ (sb rfl rfl rfl) rfl ?_
  refine RO (Body.call (ha) rfl rfl rfl) ?_
  refine ag rfl ?_
  refine RN ?_
  refine Ap rfl ?_
  refine TK.ret ?_
  refine PK.ret ?_
  refine leaf (val0 := vB true) (by kernel_rfl) ?_
  exact rfl
 ·
  refine At rfl ?_
  refine TK.norm ⟨[(0, vL eC l), (1, vS (bsO src)), (5, vL eC l)], []⟩ (sb rfl rfl rfl) ?_
  have hsr := ns_early h1
  refine TK.rg (Y := tab) mixed rfl ?_
  refine mv rfl ?_
  refine RO (Body.call (w54 hp hj2 l (by omega)) rfl rfl rfl) ?_
  refine rn rfl ?_
  refine rn rfl ?_
  refine rn rfl ?_
  refine ag rfl ?_
  refine ag rfl ?_
  refine RN ?_
  refine Ap rfl ?_
  refine NR ⟨[(0, vL eC l), (1, vS (bsO src)), (5, vL eC l), (6, vS (bsO (srcX l))), (7, vI (chkS l))], []⟩ (sb rfl rfl rfl) rfl ?_
  refine mv rfl ?_
  refine RO (Body.call (w55 hp he src (by omega)) rfl rfl rfl) ?_
  refine rn rfl ?_
  refine rn rfl ?_
  refine rn rfl ?_
  refine rn rfl ?_
  refine ag rfl ?_
  refine ag rfl ?_
  refine ag rfl ?_
  refine RN ?_
  refine Ap rfl ?_
  refine NR ⟨[(0, vL eC l), (1, vS (bsO src)), (5, vL eC l), (6, vS (bsO (srcX l))), (7, vI (chkS l)), (8, vL eC (parScr cmdV src).1), (9, vI (Prod.fst (Prod.snd (parScr cmdV src)))), (10, vI (Prod.snd (Prod.snd (parScr cmdV src))))], []⟩ (sb rfl rfl rfl) rfl ?_
  refine mv rfl ?_
  refine RO (Body.call (w56 l (by omega)) rfl rfl rfl) ?_
  refine ag rfl ?_
  refine RN ?_
  refine Ap rfl ?_
  refine NR ⟨[(0, vL eC l), (1, vS (bsO src)), (5, vL eC l), (6, vS (bsO (srcX l))), (7, vI (chkS l)), (8, vL eC (parScr cmdV src).1), (9, vI (Prod.fst (Prod.snd (parScr cmdV src)))), (10, vI (Prod.snd (Prod.snd (parScr cmdV src)))), (11, vI (chkS l))], []⟩ (sb rfl rfl rfl) rfl ?_
  refine ag rfl ?_
  refine RN ?_
  refine Ap rfl ?_
  refine NR ⟨[(0, vL eC l), (1, vS (bsO src)), (5, vL eC l), (6, vS (bsO (srcX l))), (7, vI (chkS l)), (8, vL eC (parScr cmdV src).1), (9, vI (Prod.fst (Prod.snd (parScr cmdV src)))), (10, vI (Prod.snd (Prod.snd (parScr cmdV src)))), (11, vI (chkS l)), (12, vS (bsO []))], []⟩ (sb rfl rfl rfl) rfl ?_
  refine mv rfl ?_
  refine RO (Body.eql rfl rfl) ?_
  refine RN ?_
  refine Ap rfl ?_
  refine TK.norm ⟨[(0, vL eC l), (1, vS (bsO src)), (5, vL eC l), (6, vS (bsO (srcX l))), (7, vI (chkS l)), (8, vL eC (parScr cmdV src).1), (9, vI (Prod.fst (Prod.snd (parScr cmdV src)))), (10, vI (Prod.snd (Prod.snd (parScr cmdV src)))), (11, vI (chkS l)), (12, vS (bsO [])), (51, vB (decide ((chkS l) = 0)))], []⟩ (sb rfl rfl rfl) ?_
  refine TK.condJ ⟨[(0, vL eC l), (1, vS (bsO src)), (6, vS (bsO (srcX l))), (7, vI (chkS l)), (8, vL eC (parScr cmdV src).1), (9, vI (Prod.fst (Prod.snd (parScr cmdV src)))), (10, vI (Prod.snd (Prod.snd (parScr cmdV src)))), (11, vI (chkS l)), (12, vS (bsO (srcX l)))], []⟩ rfl rfl (fun h2 => ?_) (fun h2 => ?_) ?_
  ·
   replace h2 := of_decide_eq_true h2
   refine At rfl ?_
   refine TK.norm ⟨[(0, vL eC l), (1, vS (bsO src)), (5, vL eC l), (6, vS (bsO (srcX l))), (7, vI (chkS l)), (8, vL eC (parScr cmdV src).1), (9, vI (Prod.fst (Prod.snd (parScr cmdV src)))), (10, vI (Prod.snd (Prod.snd (parScr cmdV src)))), (11, vI (chkS l))], []⟩ (sb rfl rfl rfl) ?_
   obtain ⟨hl64, hc64, _, _⟩ := chkS_ok h2
   refine TK.rg (Y := tab) mixed rfl ?_
   refine mv rfl ?_
   refine RO (Body.call (w57 l hc64 hl64) rfl rfl rfl) ?_
   refine ag rfl ?_
   refine RN ?_
   refine Aq rfl ?_
   refine PK.lp ?_
   rw [srcX_ok h2]
   exact sb rfl rfl rfl
  ·
   replace h2 := of_decide_eq_false h2
   refine Au rfl ?_
   refine PK.lp ?_
   rw [srcX_no h2]
   exact sb rfl rfl rfl
  ·
   refine At rfl ?_
   refine NR ⟨[(0, vL eC l), (1, vS (bsO src)), (6, vS (bsO (srcX l))), (7, vI (chkS l)), (8, vL eC (parScr cmdV src).1), (9, vI (Prod.fst (Prod.snd (parScr cmdV src)))), (10, vI (Prod.snd (Prod.snd (parScr cmdV src)))), (11, vI (chkS l)), (12, vS (bsO (srcX l)))], []⟩ (sb rfl rfl rfl) rfl ?_
   refine mv rfl ?_
   refine RO (Body.call (w58 src (by omega)) rfl rfl rfl) ?_
   refine rn rfl ?_
   refine rn rfl ?_
   refine rn rfl ?_
   refine rn rfl ?_
   refine ag rfl ?_
   refine ag rfl ?_
   refine ag rfl ?_
   refine RN ?_
   refine Ap rfl ?_
   refine TK.norm ⟨[(0, vL eC l), (6, vS (bsO (srcX l))), (7, vI (chkS l)), (8, vL eC (parScr cmdV src).1), (9, vI (Prod.fst (Prod.snd (parScr cmdV src)))), (10, vI (Prod.snd (Prod.snd (parScr cmdV src)))), (11, vI (chkS l)), (12, vS (bsO (srcX l))), (13, vL eC (parScr cmdR src).1), (14, vI (Prod.fst (Prod.snd (parScr cmdR src)))), (15, vI (Prod.snd (Prod.snd (parScr cmdR src))))], []⟩ (sb rfl rfl rfl) ?_
   rw [par_same src]
   have hpl := parScr_len cmdR src
   refine TK.rg (Y := tab) mixed rfl ?_
   refine mv rfl ?_
   refine RO (Body.call (w59 l (by omega)) rfl rfl rfl) ?_
   refine mv rfl ?_
   refine RO (Body.eql rfl rfl) ?_
   refine mv rfl ?_
   refine RG.cons (EfR.sym rfl (fun hc => Body.move rfl) rfl) ?_
   refine RG.cons (EfR.sym rfl (fun hc => Body.move rfl) rfl) ?_
   refine RG.cons (EfR.sym rfl (fun hc => Body.eql (ev1_gd rfl hc) (ev1_gd rfl hc)) rfl) ?_
   refine RO (Body.pick rfl rfl rfl (gdB rfl) rfl (pick_and _)) ?_
   refine mv rfl ?_
   refine RG.cons (EfR.sym rfl (fun hc => Body.move rfl) rfl) ?_
   refine RG.cons (EfR.sym rfl (fun hc => Body.move rfl) rfl) ?_
   refine RG.cons (EfR.sym rfl (fun hc => Body.seqB (a := (srcX l)) (b := (srcX l)) (ev1_gd rfl hc) (ev1_gd rfl hc)) rfl) ?_
   refine RO (Body.pick rfl rfl rfl (gdB rfl) rfl (pick_and _)) ?_
   refine mv rfl ?_
   refine RG.cons (EfR.sym rfl (fun hc => Body.move rfl) rfl) ?_
   refine RG.cons (EfR.sym rfl (fun hc => Body.move rfl) rfl) ?_
   refine RG.cons (EfR.sym rfl (fun hc => Body.eql (ev1_gd rfl hc) (ev1_gd rfl hc)) rfl) ?_
   refine RO (Body.pick rfl rfl rfl (gdB rfl) rfl (pick_and _)) ?_
   refine mv rfl ?_
   refine RG.cons (EfR.sym rfl (fun hc => Body.move rfl) rfl) ?_
   refine RG.cons (EfR.sym rfl (fun hc => Body.move rfl) rfl) ?_
   refine RG.cons (EfR.sym rfl (fun hc => Body.eql (ev1_gd rfl hc) (ev1_gd rfl hc)) rfl) ?_
   refine RO (Body.pick rfl rfl rfl (gdB rfl) rfl (pick_and _)) ?_
   refine mv rfl ?_
   refine RG.cons (EfR.sym rfl (fun hc => Body.move rfl) rfl) ?_
   refine RG.cons (EfR.sym rfl (fun hc => Body.call (w46 (parScr cmdR src).1 (by omega)) rfl (ds1 (ev1_gd rfl hc)) rfl) rfl) ?_
   refine RG.cons (EfR.sym rfl (fun hc => Body.move rfl) rfl) ?_
   refine RG.cons (EfR.sym rfl (fun hc => Body.call (w60 (parScr cmdR src).1 (parScr cmdR src).1 (by omega)) rfl (ds2 (ev1_gd rfl hc) (ev1_gd rfl hc)) rfl) rfl) ?_
   refine RO (Body.pick rfl rfl rfl (gdB rfl) rfl (pick_and _)) ?_
   refine mv rfl ?_
   refine RG.cons (EfR.sym rfl (fun hc => Body.call (ha) rfl rfl rfl) rfl) ?_
   refine RO (Body.pick rfl rfl rfl (gdB rfl) rfl (pick_and _)) ?_
   refine ag rfl ?_
   refine RN ?_
   refine Ap rfl ?_
   refine TK.ret ?_
   refine PK.ret ?_
   refine leaf (val0 := vB (bif (bif (bif (bif (bif (bif (decide ((chkS l) = (chkS l))) then (decide ((chkS l) = (chkS l))) else false) then (decide ((srcX l) = (srcX l))) else false) then (decide ((Prod.snd (Prod.snd (parScr cmdR src))) = (Prod.snd (Prod.snd (parScr cmdR src))))) else false) then (decide ((Prod.fst (Prod.snd (parScr cmdR src))) = (Prod.fst (Prod.snd (parScr cmdR src))))) else false) then (decide ((parScr cmdR src).1 = (parScr cmdR src).1)) else false) then true else false)) (by kernel_rfl) ?_
   exact lb (by simp)
end Go.Lens.Tm
end
