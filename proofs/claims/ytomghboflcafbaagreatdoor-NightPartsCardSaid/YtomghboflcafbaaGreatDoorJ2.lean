/- A part of the proof that NightPartsCardSaid holds, without conditions. -/
import Derived.Test.YtomghboflcafbaaGreatDoorJ1
import Derived.Test.YtomghboflcafbaaGreatDoorS10
import Derived.Shelf.Strings.OnBuilder
import Derived.Test.YtomghboflcafbaaGreatDoorProg
import Derived.Shelf.LaysC
import Derived.Shelf.Strconv.ErrVarAll
import Derived.Lib.AtoiErrMem
set_option linter.unusedVariables false
set_option linter.unusedSimpArgs false
section
namespace Go.Lens.Tm
open Go.Lens.Tb Go.Proofs
variable [Lz]
set_option linter.unusedSectionVars false
set_option maxHeartbeats 4000000
set_option maxRecDepth 100000
attribute [local irreducible] TK PK T RG EfR Body
theorem ag115 : aggT tab 115 = some true := by kernel_rfl
theorem ag116 : aggT tab 116 = some true := by kernel_rfl
theorem by115 : ty115.info.bytes = 40 := by kernel_rfl
theorem fa115_0 : fadQ tab 115 0 = some 0 := by kernel_rfl
theorem fa115_1 : fadQ tab 115 1 = some 1 := by kernel_rfl
theorem fa115_2 : fadQ tab 115 2 = some 2 := by kernel_rfl
theorem fa116_0 : fadQ tab 116 0 = some 0 := by kernel_rfl
theorem fa116_1 : fadQ tab 116 1 = some 1 := by kernel_rfl
theorem fa116_2 : fadQ tab 116 2 = some 2 := by kernel_rfl
theorem in115 : tab.info? 115 = some ty115.info := by kernel_rfl
theorem sz115 : szT tab 115 = some 3 := by kernel_rfl
theorem sz116 : szT tab 116 = some 3 := by kernel_rfl
theorem un82 : tab.underlying 82 = some (.slice 116) := by kernel_rfl
theorem un83 : tab.underlying 83 = some (.slice 115) := by kernel_rfl
theorem w136 (c : Cmd) : CallOk Tryz.prog 136 [.pv (gC c)] (lookM []) (vI (chkC c)) [] := by
 refine cO qf136 rfl (nB rfl) rfl ?_
 refine na ⟨[(0, .pv (gC c))], []⟩ rfl rfl rfl rfl rfl ?_
 refine rn rfl ?_
 refine ag rfl ?_
 refine zn ⟨[(1, .bref 2 0)], [(2, bC 116 c)]⟩ rfl rfl rfl rfl rfl ?_
 refine RO (B.fadB rfl fa116_0 rfl) ?_
 refine RO (B.loadB rfl rfl rfl ag9 sz9 rfl) ?_
 refine zn ⟨[(1, .bref 2 0), (4, vS (bsO c.1))], [(2, bC 116 c)]⟩ rfl rfl rfl rfl rfl ?_
 refine RO (B.seqB (a := c.1) (b := [97, 99, 116]) rfl rfl) ?_
 refine ag rfl ?_
 refine tz ⟨[(1, .bref 2 0), (4, vS (bsO c.1)), (5, vB (decide (c.1 = [97, 99, 116])))], [(2, bC 116 c)]⟩ rfl rfl rfl rfl ?_
 refine TK.condP rfl (fun h1 => ?_) (fun h1 => ?_)
 ·
  refine na ⟨[(1, .bref 2 0)], [(2, bC 116 c)]⟩ rfl rfl rfl rfl rfl ?_
  refine RO (B.fadB rfl fa116_1 rfl) ?_
  refine RO (B.loadB rfl rfl rfl ag9 sz9 rfl) ?_
  refine RO (B.call (w104 (bsO c.2.1)) rfl rfl rfl) ?_
  refine RO (B.fadB rfl fa116_2 rfl) ?_
  refine RO (B.loadB rfl rfl rfl ag3 sz3 rfl) ?_
  refine RO (B.call (w99 c.2.2 0 0) rfl rfl rfl) ?_
  refine RO (B.runZ (val := .pv (.slice (List.map eI [(whenF (!(isNameF (bsO c.2.1))) 8), (withinF c.2.2 0 0)]))) rfl (fun l => Frz.arr l _ _ _ _ _) rfl) ?_
  refine RO (B.call (w100 [(whenF (!(isNameF (bsO c.2.1))) 8), (withinF c.2.2 0 0)] (nB rfl)) rfl rfl rfl) ?_
  refine ag rfl ?_
  refine RG.nil (fun _ => by kernel_rfl) ?_
  refine Ap rfl ?_
  refine lf ?_
  refine leaf (val0 := vI (firstF [(whenF (!(isNameF (bsO c.2.1))) 8), (withinF c.2.2 0 0)])) (by kernel_rfl) ?_
  exact li (by (rw [chkC, if_pos h1]))
 ·
  refine na ⟨[(1, .bref 2 0), (4, vS (bsO c.1))], [(2, bC 116 c)]⟩ rfl rfl rfl rfl rfl ?_
  refine RO (B.seqB (a := c.1) (b := [101, 110, 100]) rfl rfl) ?_
  refine ag rfl ?_
  refine tz ⟨[(1, .bref 2 0), (4, vS (bsO c.1)), (15, vB (decide (c.1 = [101, 110, 100])))], [(2, bC 116 c)]⟩ rfl rfl rfl rfl ?_
  refine TK.condP rfl (fun h2 => ?_) (fun h2 => ?_)
  ·
   refine na ⟨[(1, .bref 2 0)], [(2, bC 116 c)]⟩ rfl rfl rfl rfl rfl ?_
   refine RO (B.fadB rfl fa116_1 rfl) ?_
   refine RO (B.loadB rfl rfl rfl ag9 sz9 rfl) ?_
   refine RO (B.sneB (a := c.2.1) (b := []) rfl rfl) ?_
   refine RO (B.call (w101 (decide (c.2.1 ≠ [])) 1) rfl rfl rfl) ?_
   refine RO (B.fadB rfl fa116_2 rfl) ?_
   refine RO (B.loadB rfl rfl rfl ag3 sz3 rfl) ?_
   refine RO (B.call (w99 c.2.2 0 0) rfl rfl rfl) ?_
   refine RO (B.runZ (val := .pv (.slice (List.map eI [(whenF (decide (c.2.1 ≠ [])) 1), (withinF c.2.2 0 0)]))) rfl (fun l => Frz.arr l _ _ _ _ _) rfl) ?_
   refine RO (B.call (w100 [(whenF (decide (c.2.1 ≠ [])) 1), (withinF c.2.2 0 0)] (nB rfl)) rfl rfl rfl) ?_
   refine ag rfl ?_
   refine RG.nil (fun _ => by kernel_rfl) ?_
   refine Ap rfl ?_
   refine lf ?_
   refine leaf (val0 := vI (firstF [(whenF (decide (c.2.1 ≠ [])) 1), (withinF c.2.2 0 0)])) (by kernel_rfl) ?_
   exact li (by (rw [chkC, if_neg h1, if_pos h2]))
  ·
   refine na ⟨[(1, .bref 2 0), (4, vS (bsO c.1))], [(2, bC 116 c)]⟩ rfl rfl rfl rfl rfl ?_
   refine RO (B.seqB (a := c.1) (b := [119, 97, 105, 116]) rfl rfl) ?_
   refine ag rfl ?_
   refine tz ⟨[(1, .bref 2 0), (4, vS (bsO c.1)), (26, vB (decide (c.1 = [119, 97, 105, 116])))], [(2, bC 116 c)]⟩ rfl rfl rfl rfl ?_
   refine TK.condP rfl (fun h3 => ?_) (fun h3 => ?_)
   ·
    refine na ⟨[(1, .bref 2 0)], [(2, bC 116 c)]⟩ rfl rfl rfl rfl rfl ?_
    refine RO (B.fadB rfl fa116_1 rfl) ?_
    refine RO (B.loadB rfl rfl rfl ag9 sz9 rfl) ?_
    refine RO (B.sneB (a := c.2.1) (b := []) rfl rfl) ?_
    refine RO (B.call (w101 (decide (c.2.1 ≠ [])) 1) rfl rfl rfl) ?_
    refine RO (B.fadB rfl fa116_2 rfl) ?_
    refine RO (B.loadB rfl rfl rfl ag3 sz3 rfl) ?_
    refine RO (B.call (w99 c.2.2 1 100000) rfl rfl rfl) ?_
    refine RO (B.runZ (val := .pv (.slice (List.map eI [(whenF (decide (c.2.1 ≠ [])) 1), (withinF c.2.2 1 100000)]))) rfl (fun l => Frz.arr l _ _ _ _ _) rfl) ?_
    refine RO (B.call (w100 [(whenF (decide (c.2.1 ≠ [])) 1), (withinF c.2.2 1 100000)] (nB rfl)) rfl rfl rfl) ?_
    refine ag rfl ?_
    refine RG.nil (fun _ => by kernel_rfl) ?_
    refine Ap rfl ?_
    refine lf ?_
    refine leaf (val0 := vI (firstF [(whenF (decide (c.2.1 ≠ [])) 1), (withinF c.2.2 1 100000)])) (by kernel_rfl) ?_
    exact li (by (rw [chkC, if_neg h1, if_neg h2, if_pos h3]))
   ·
    refine na ⟨[(1, .bref 2 0), (4, vS (bsO c.1))], [(2, bC 116 c)]⟩ rfl rfl rfl rfl rfl ?_
    refine RO (B.seqB (a := c.1) (b := [114, 101, 112, 101, 97, 116]) rfl rfl) ?_
    refine ag rfl ?_
    refine tz ⟨[(1, .bref 2 0), (37, vB (decide (c.1 = [114, 101, 112, 101, 97, 116])))], [(2, bC 116 c)]⟩ rfl rfl rfl rfl ?_
    refine TK.condP rfl (fun h4 => ?_) (fun h4 => ?_)
    ·
     refine na ⟨[(1, .bref 2 0)], [(2, bC 116 c)]⟩ rfl rfl rfl rfl rfl ?_
     refine RO (B.fadB rfl fa116_1 rfl) ?_
     refine RO (B.loadB rfl rfl rfl ag9 sz9 rfl) ?_
     refine RO (B.sneB (a := c.2.1) (b := []) rfl rfl) ?_
     refine RO (B.call (w101 (decide (c.2.1 ≠ [])) 1) rfl rfl rfl) ?_
     refine RO (B.fadB rfl fa116_2 rfl) ?_
     refine RO (B.loadB rfl rfl rfl ag3 sz3 rfl) ?_
     refine RO (B.call (w99 c.2.2 1 100) rfl rfl rfl) ?_
     refine RO (B.runZ (val := .pv (.slice (List.map eI [(whenF (decide (c.2.1 ≠ [])) 1), (withinF c.2.2 1 100)]))) rfl (fun l => Frz.arr l _ _ _ _ _) rfl) ?_
     refine RO (B.call (w100 [(whenF (decide (c.2.1 ≠ [])) 1), (withinF c.2.2 1 100)] (nB rfl)) rfl rfl rfl) ?_
     refine ag rfl ?_
     refine RG.nil (fun _ => by kernel_rfl) ?_
     refine Ap rfl ?_
     refine lf ?_
     refine leaf (val0 := vI (firstF [(whenF (decide (c.2.1 ≠ [])) 1), (withinF c.2.2 1 100)])) (by kernel_rfl) ?_
     exact li (by (rw [chkC, if_neg h1, if_neg h2, if_neg h3, if_pos h4]))
    ·
     refine na ⟨[], []⟩ rfl rfl rfl rfl rfl ?_
     refine ag rfl ?_
     refine ra rfl ?_
     refine lf ?_
     refine leaf (val0 := vI 13) (by kernel_rfl) ?_
     exact li (by (rw [chkC, if_neg h1, if_neg h2, if_neg h3, if_neg h4]))
theorem w134 (o : List UInt8) : CallOk Tryz.prog 134 [vS (bsO o)] (lookM []) (vI (wordsF o)) [] := by
 refine cO qf134 rfl (nB rfl) rfl ?_
 refine na ⟨[(0, vS (bsO o))], []⟩ rfl rfl rfl rfl rfl ?_
 refine ag rfl ?_
 refine zn ⟨[(0, vS (bsO o))], []⟩ rfl rfl rfl rfl rfl ?_
 refine mv rfl ?_
 refine zn ⟨[(3, vS (bsO o))], []⟩ rfl rfl rfl rfl rfl ?_
 refine RO (B.seqB (a := o) (b := [97, 99, 116]) rfl rfl) ?_
 refine ag rfl ?_
 refine tz ⟨[(3, vS (bsO o)), (4, vB (decide (o = [97, 99, 116])))], []⟩ rfl rfl rfl rfl ?_
 refine TK.condP rfl (fun h1 => ?_) (fun h1 => ?_)
 ·
  refine ta ⟨[(3, vS (bsO o)), (4, vB (decide (o = [97, 99, 116])))], []⟩ rfl rfl rfl rfl ?_
  refine TK.condP rfl (fun h2 => ?_) (fun h2 => ?_)
  ·
   refine na ⟨[], []⟩ rfl rfl rfl rfl rfl ?_
   refine ag rfl ?_
   refine ra rfl ?_
   refine lf ?_
   refine leaf (val0 := vI 2) (by kernel_rfl) ?_
   exact li (by (rw [wordsF, if_pos (by assumption)]))
  ·
   refine na ⟨[(3, vS (bsO o))], []⟩ rfl rfl rfl rfl rfl ?_
   refine RO (B.seqB (a := o) (b := [101, 110, 100]) rfl rfl) ?_
   refine ag rfl ?_
   refine tz ⟨[(8, vB (decide (o = [101, 110, 100])))], []⟩ rfl rfl rfl rfl ?_
   refine TK.condP rfl (fun h3 => ?_) (fun h3 => ?_)
   ·
    refine na ⟨[], []⟩ rfl rfl rfl rfl rfl ?_
    refine ag rfl ?_
    refine ra rfl ?_
    refine lf ?_
    refine leaf (val0 := vI 1) (by kernel_rfl) ?_
    exact li (by (exfalso; contradiction))
   ·
    refine na ⟨[], []⟩ rfl rfl rfl rfl rfl ?_
    refine ag rfl ?_
    refine ra rfl ?_
    refine lf ?_
    refine leaf (val0 := vI 0) (by kernel_rfl) ?_
    exact li (by (exfalso; contradiction))
 ·
  refine na ⟨[(3, vS (bsO o))], []⟩ rfl rfl rfl rfl rfl ?_
  refine RO (B.seqB (a := o) (b := [119, 97, 105, 116]) rfl rfl) ?_
  refine ag rfl ?_
  refine tz ⟨[(3, vS (bsO o)), (4, vB (decide (o = [119, 97, 105, 116])))], []⟩ rfl rfl rfl rfl ?_
  refine TK.condP rfl (fun h4 => ?_) (fun h4 => ?_)
  ·
   refine ta ⟨[(3, vS (bsO o)), (4, vB (decide (o = [119, 97, 105, 116])))], []⟩ rfl rfl rfl rfl ?_
   refine TK.condP rfl (fun h5 => ?_) (fun h5 => ?_)
   ·
    refine na ⟨[], []⟩ rfl rfl rfl rfl rfl ?_
    refine ag rfl ?_
    refine ra rfl ?_
    refine lf ?_
    refine leaf (val0 := vI 2) (by kernel_rfl) ?_
    exact li (by (rw [wordsF, if_neg (by assumption), if_pos (by assumption)]))
   ·
    refine na ⟨[(3, vS (bsO o))], []⟩ rfl rfl rfl rfl rfl ?_
    refine RO (B.seqB (a := o) (b := [101, 110, 100]) rfl rfl) ?_
    refine ag rfl ?_
    refine tz ⟨[(8, vB (decide (o = [101, 110, 100])))], []⟩ rfl rfl rfl rfl ?_
    refine TK.condP rfl (fun h6 => ?_) (fun h6 => ?_)
    ·
     refine na ⟨[], []⟩ rfl rfl rfl rfl rfl ?_
     refine ag rfl ?_
     refine ra rfl ?_
     refine lf ?_
     refine leaf (val0 := vI 1) (by kernel_rfl) ?_
     exact li (by (exfalso; contradiction))
    ·
     refine na ⟨[], []⟩ rfl rfl rfl rfl rfl ?_
     refine ag rfl ?_
     refine ra rfl ?_
     refine lf ?_
     refine leaf (val0 := vI 0) (by kernel_rfl) ?_
     exact li (by (exfalso; contradiction))
  ·
   refine na ⟨[(3, vS (bsO o))], []⟩ rfl rfl rfl rfl rfl ?_
   refine RO (B.seqB (a := o) (b := [114, 101, 112, 101, 97, 116]) rfl rfl) ?_
   refine ag rfl ?_
   refine tz ⟨[(3, vS (bsO o)), (4, vB (decide (o = [114, 101, 112, 101, 97, 116])))], []⟩ rfl rfl rfl rfl ?_
   refine TK.condP rfl (fun h7 => ?_) (fun h7 => ?_)
   ·
    refine na ⟨[], []⟩ rfl rfl rfl rfl rfl ?_
    refine ag rfl ?_
    refine ra rfl ?_
    refine lf ?_
    refine leaf (val0 := vI 2) (by kernel_rfl) ?_
    exact li (by (rw [wordsF, if_neg (by assumption), if_neg (by assumption), if_pos (by assumption)]))
   ·
    refine na ⟨[(3, vS (bsO o))], []⟩ rfl rfl rfl rfl rfl ?_
    refine RO (B.seqB (a := o) (b := [101, 110, 100]) rfl rfl) ?_
    refine ag rfl ?_
    refine tz ⟨[(8, vB (decide (o = [101, 110, 100])))], []⟩ rfl rfl rfl rfl ?_
    refine TK.condP rfl (fun h8 => ?_) (fun h8 => ?_)
    ·
     refine na ⟨[], []⟩ rfl rfl rfl rfl rfl ?_
     refine ag rfl ?_
     refine ra rfl ?_
     refine lf ?_
     refine leaf (val0 := vI 1) (by kernel_rfl) ?_
     exact li (by (rw [wordsF, if_neg (by assumption), if_neg (by assumption), if_neg (by assumption), if_pos (by assumption)]))
    ·
     refine na ⟨[], []⟩ rfl rfl rfl rfl rfl ?_
     refine ag rfl ?_
     refine ra rfl ?_
     refine lf ?_
     refine leaf (val0 := vI 0) (by kernel_rfl) ?_
     exact li (by (rw [wordsF, if_neg (by assumption), if_neg (by assumption), if_neg (by assumption), if_neg (by assumption)]))
theorem w130 (c : Cmd) : CallOk Tryz.prog 130 [.pv (gC c)] (lookM []) (vI (chkC c)) [] := by
 refine cO qf130 rfl (nB rfl) rfl ?_
 refine na ⟨[(0, .pv (gC c))], []⟩ rfl rfl rfl rfl rfl ?_
 refine rn rfl ?_
 refine ag rfl ?_
 refine zn ⟨[(1, .bref 2 0)], [(2, bC 115 c)]⟩ rfl rfl rfl rfl rfl ?_
 refine RO (B.fadB rfl fa115_0 rfl) ?_
 refine RO (B.loadB rfl rfl rfl ag9 sz9 rfl) ?_
 refine RO (B.call (w134 c.1) rfl rfl rfl) ?_
 refine RO (B.eql rfl rfl) ?_
 refine tz ⟨[(1, .bref 2 0), (8, vB (decide ((wordsF c.1) = 0)))], [(2, bC 115 c)]⟩ rfl rfl rfl rfl ?_
 refine TK.condP rfl (fun h1 => ?_) (fun h1 => ?_)
 ·
  refine na ⟨[], []⟩ rfl rfl rfl rfl rfl ?_
  refine ag rfl ?_
  refine ra rfl ?_
  refine lf ?_
  refine leaf (val0 := vI 13) (by kernel_rfl) ?_
  exact li (by (exact (chk_kind h1).symm))
 ·
  refine na ⟨[(1, .bref 2 0)], [(2, bC 115 c)]⟩ rfl rfl rfl rfl rfl ?_
  refine RO (B.fadB rfl fa115_0 rfl) ?_
  refine RO (B.loadB rfl rfl rfl ag9 sz9 rfl) ?_
  refine RO (B.seqB (a := c.1) (b := [97, 99, 116]) rfl rfl) ?_
  refine mv rfl ?_
  refine RS rfl (fun hc => B.fadB rfl fa115_1 rfl) rfl ?_
  refine RS rfl (fun hc => B.loadB (ev1_gd rfl hc) rfl rfl ag9 sz9 rfl) rfl ?_
  refine RS rfl (fun hc => B.call (w94 (bsO c.2.1)) rfl (ds1 (ev1_gd rfl hc)) rfl) rfl ?_
  refine RS rfl (fun hc => B.not (ev1_gd rfl hc)) rfl ?_
  refine RO (B.pick rfl rfl rfl (gdB rfl) rfl (pick_and _)) ?_
  refine tz ⟨[(1, .bref 2 0), (17, vB (bif (decide (c.1 = [97, 99, 116])) then (!(isNameF (bsO c.2.1))) else false))], [(2, bC 115 c)]⟩ rfl rfl rfl rfl ?_
  refine TK.cond rfl (fun h2 => ?_) (fun h2 => ?_)
  ·
   refine na ⟨[], []⟩ rfl rfl rfl rfl rfl ?_
   refine ag rfl ?_
   refine ra rfl ?_
   refine lf ?_
   refine leaf (val0 := vI 8) (by kernel_rfl) ?_
   exact li (by (exact (chk_name h2).symm))
  ·
   refine na ⟨[(1, .bref 2 0)], [(2, bC 115 c)]⟩ rfl rfl rfl rfl rfl ?_
   refine RO (B.fadB rfl fa115_0 rfl) ?_
   refine RO (B.loadB rfl rfl rfl ag9 sz9 rfl) ?_
   refine RO (B.sneB (a := c.1) (b := [97, 99, 116]) rfl rfl) ?_
   refine mv rfl ?_
   refine RS rfl (fun hc => B.fadB rfl fa115_1 rfl) rfl ?_
   refine RS rfl (fun hc => B.loadB (ev1_gd rfl hc) rfl rfl ag9 sz9 rfl) rfl ?_
   refine RS rfl (fun hc => B.sneB (a := c.2.1) (b := []) (ev1_gd rfl hc) rfl) rfl ?_
   refine RO (B.pick rfl rfl rfl (gdB rfl) rfl (pick_and _)) ?_
   refine tz ⟨[(1, .bref 2 0), (25, vB (bif (decide (c.1 ≠ [97, 99, 116])) then (decide (c.2.1 ≠ [])) else false))], [(2, bC 115 c)]⟩ rfl rfl rfl rfl ?_
   refine TK.cond rfl (fun h3 => ?_) (fun h3 => ?_)
   ·
    refine na ⟨[], []⟩ rfl rfl rfl rfl rfl ?_
    refine ag rfl ?_
    refine ra rfl ?_
    refine lf ?_
    refine leaf (val0 := vI 1) (by kernel_rfl) ?_
    exact li (by (exact (chk_form h1 h3).symm))
   ·
    refine na ⟨[(1, .bref 2 0)], [(2, bC 115 c)]⟩ rfl rfl rfl rfl rfl ?_
    refine ag rfl ?_
    refine ag rfl ?_
    refine zn ⟨[(1, .bref 2 0), (3, vI 0), (4, vI 0)], [(2, bC 115 c)]⟩ rfl rfl rfl rfl rfl ?_
    refine RO (B.fadB rfl fa115_0 rfl) ?_
    refine RO (B.loadB rfl rfl rfl ag9 sz9 rfl) ?_
    refine RO (B.seqB (a := c.1) (b := [119, 97, 105, 116]) rfl rfl) ?_
    refine tz ⟨[(1, .bref 2 0), (3, vI 0), (4, vI 0), (28, vB (decide (c.1 = [119, 97, 105, 116])))], [(2, bC 115 c)]⟩ rfl rfl rfl rfl ?_
    refine TK.condP rfl (fun h4 => ?_) (fun h4 => ?_)
    ·
     refine na ⟨[(1, .bref 2 0)], [(2, bC 115 c)]⟩ rfl rfl rfl rfl rfl ?_
     refine ag rfl ?_
     refine ag rfl ?_
     refine zn ⟨[(1, .bref 2 0), (3, vI 1), (4, vI 100000)], [(2, bC 115 c)]⟩ rfl rfl rfl rfl rfl ?_
     refine RO (B.fadB rfl fa115_0 rfl) ?_
     refine RO (B.loadB rfl rfl rfl ag9 sz9 rfl) ?_
     refine RO (B.seqB (a := c.1) (b := [114, 101, 112, 101, 97, 116]) rfl rfl) ?_
     refine tz ⟨[(1, .bref 2 0), (3, vI 1), (4, vI 100000), (31, vB (decide (c.1 = [114, 101, 112, 101, 97, 116])))], [(2, bC 115 c)]⟩ rfl rfl rfl rfl ?_
     refine TK.condP rfl (fun h5 => ?_) (fun h5 => ?_)
     ·
      refine na ⟨[(1, .bref 2 0)], [(2, bC 115 c)]⟩ rfl rfl rfl rfl rfl ?_
      refine ag rfl ?_
      refine ag rfl ?_
      refine zn ⟨[(1, .bref 2 0), (3, vI 1), (4, vI 100)], [(2, bC 115 c)]⟩ rfl rfl rfl rfl rfl ?_
      refine RO (B.fadB rfl fa115_2 rfl) ?_
      refine RO (B.loadB rfl rfl rfl ag3 sz3 rfl) ?_
      refine mv rfl ?_
      refine mv rfl ?_
      refine RO (B.call (w93 c.2.2 1 100) rfl rfl rfl) ?_
      refine tz ⟨[(36, vB (outF c.2.2 1 100))], []⟩ rfl rfl rfl rfl ?_
      refine TK.cond rfl (fun h6 => ?_) (fun h6 => ?_)
      ·
       refine na ⟨[], []⟩ rfl rfl rfl rfl rfl ?_
       refine ag rfl ?_
       refine ra rfl ?_
       refine lf ?_
       refine leaf (val0 := vI 3) (by kernel_rfl) ?_
       exact li (by exact absurd (h4.symm.trans (by assumption)) (show ¬ kWait = kRep by decide))
      ·
       refine na ⟨[], []⟩ rfl rfl rfl rfl rfl ?_
       refine ag rfl ?_
       refine ra rfl ?_
       refine lf ?_
       refine leaf (val0 := vI 0) (by kernel_rfl) ?_
       exact li (by exact absurd (h4.symm.trans (by assumption)) (show ¬ kWait = kRep by decide))
     ·
      refine na ⟨[(1, .bref 2 0), (3, vI 1), (4, vI 100000)], [(2, bC 115 c)]⟩ rfl rfl rfl rfl rfl ?_
      refine RO (B.fadB rfl fa115_2 rfl) ?_
      refine RO (B.loadB rfl rfl rfl ag3 sz3 rfl) ?_
      refine mv rfl ?_
      refine mv rfl ?_
      refine RO (B.call (w93 c.2.2 1 100000) rfl rfl rfl) ?_
      refine tz ⟨[(36, vB (outF c.2.2 1 100000))], []⟩ rfl rfl rfl rfl ?_
      refine TK.cond rfl (fun h7 => ?_) (fun h7 => ?_)
      ·
       refine na ⟨[], []⟩ rfl rfl rfl rfl rfl ?_
       refine ag rfl ?_
       refine ra rfl ?_
       refine lf ?_
       refine leaf (val0 := vI 3) (by kernel_rfl) ?_
       exact li (by (rw [chk_rest h1 h2 h3, if_pos (by assumption)]; exact (with_out (by assumption)).symm))
      ·
       refine na ⟨[], []⟩ rfl rfl rfl rfl rfl ?_
       refine ag rfl ?_
       refine ra rfl ?_
       refine lf ?_
       refine leaf (val0 := vI 0) (by kernel_rfl) ?_
       exact li (by (rw [chk_rest h1 h2 h3, if_pos (by assumption)]; exact (with_in (by assumption)).symm))
    ·
     refine na ⟨[(1, .bref 2 0), (3, vI 0), (4, vI 0)], [(2, bC 115 c)]⟩ rfl rfl rfl rfl rfl ?_
     refine RO (B.fadB rfl fa115_0 rfl) ?_
     refine RO (B.loadB rfl rfl rfl ag9 sz9 rfl) ?_
     refine RO (B.seqB (a := c.1) (b := [114, 101, 112, 101, 97, 116]) rfl rfl) ?_
     refine tz ⟨[(1, .bref 2 0), (3, vI 0), (4, vI 0), (31, vB (decide (c.1 = [114, 101, 112, 101, 97, 116])))], [(2, bC 115 c)]⟩ rfl rfl rfl rfl ?_
     refine TK.condP rfl (fun h8 => ?_) (fun h8 => ?_)
     ·
      refine na ⟨[(1, .bref 2 0)], [(2, bC 115 c)]⟩ rfl rfl rfl rfl rfl ?_
      refine ag rfl ?_
      refine ag rfl ?_
      refine zn ⟨[(1, .bref 2 0), (3, vI 1), (4, vI 100)], [(2, bC 115 c)]⟩ rfl rfl rfl rfl rfl ?_
      refine RO (B.fadB rfl fa115_2 rfl) ?_
      refine RO (B.loadB rfl rfl rfl ag3 sz3 rfl) ?_
      refine mv rfl ?_
      refine mv rfl ?_
      refine RO (B.call (w93 c.2.2 1 100) rfl rfl rfl) ?_
      refine tz ⟨[(36, vB (outF c.2.2 1 100))], []⟩ rfl rfl rfl rfl ?_
      refine TK.cond rfl (fun h9 => ?_) (fun h9 => ?_)
      ·
       refine na ⟨[], []⟩ rfl rfl rfl rfl rfl ?_
       refine ag rfl ?_
       refine ra rfl ?_
       refine lf ?_
       refine leaf (val0 := vI 3) (by kernel_rfl) ?_
       exact li (by (rw [chk_rest h1 h2 h3, if_neg (by assumption), if_pos (by assumption)]; exact (with_out (by assumption)).symm))
      ·
       refine na ⟨[], []⟩ rfl rfl rfl rfl rfl ?_
       refine ag rfl ?_
       refine ra rfl ?_
       refine lf ?_
       refine leaf (val0 := vI 0) (by kernel_rfl) ?_
       exact li (by (rw [chk_rest h1 h2 h3, if_neg (by assumption), if_pos (by assumption)]; exact (with_in (by assumption)).symm))
     ·
      refine na ⟨[(1, .bref 2 0), (3, vI 0), (4, vI 0)], [(2, bC 115 c)]⟩ rfl rfl rfl rfl rfl ?_
      refine RO (B.fadB rfl fa115_2 rfl) ?_
      refine RO (B.loadB rfl rfl rfl ag3 sz3 rfl) ?_
      refine mv rfl ?_
      refine mv rfl ?_
      refine RO (B.call (w93 c.2.2 0 0) rfl rfl rfl) ?_
      refine tz ⟨[(36, vB (outF c.2.2 0 0))], []⟩ rfl rfl rfl rfl ?_
      refine TK.cond rfl (fun h10 => ?_) (fun h10 => ?_)
      ·
       refine na ⟨[], []⟩ rfl rfl rfl rfl rfl ?_
       refine ag rfl ?_
       refine ra rfl ?_
       refine lf ?_
       refine leaf (val0 := vI 3) (by kernel_rfl) ?_
       exact li (by (rw [chk_rest h1 h2 h3, if_neg (by assumption), if_neg (by assumption)]; exact (with_out (by assumption)).symm))
      ·
       refine na ⟨[], []⟩ rfl rfl rfl rfl rfl ?_
       refine ag rfl ?_
       refine ra rfl ?_
       refine lf ?_
       refine leaf (val0 := vI 0) (by kernel_rfl) ?_
       exact li (by (rw [chk_rest h1 h2 h3, if_neg (by assumption), if_neg (by assumption)]; exact (with_in (by assumption)).symm))
theorem w138 (l : List Cmd) (i : Nat) (hi : i ≤ l.length) (hl : l.length ≤ 1000000000000) : CallOk Tryz.prog 138 [vL eC l, vI i] (lookM []) (vI ((matGo 0 i (List.drop i l) : Nat) : Int)) [] := by
 refine cO qf138 rfl (nB rfl) rfl ?_
 refine na ⟨[(0, vL eC l), (1, vI i)], []⟩ rfl rfl rfl rfl rfl ?_
 refine ag rfl ?_
 refine zn ⟨[(0, vL eC l), (1, vI i)], []⟩ rfl rfl rfl rfl rfl ?_
 refine ag rfl ?_
 refine zn ⟨[(0, vL eC l), (1, vI i), (5, vI 0)], []⟩ rfl rfl rfl rfl rfl ?_
 refine mv rfl ?_
 refine ag rfl ?_
 refine ra rfl ?_
 refine TK.loop (α := Nat × Int) (fun x => ⟨[(0, vL eC l), (5, vI x.2), (6, vI ((x.1 : Nat) : Int))], []⟩) (fun x => x.1 ≤ l.length ∧ matGo 0 i (List.drop i l) = matGo x.2 x.1 (List.drop x.1 l) ∧ -((x.1 : Nat) : Int) ≤ x.2 ∧ x.2 ≤ ((x.1 : Nat) : Int)) (fun x => l.length - x.1) (i, 0) ?_ (sb rfl rfl rfl) ?_
 · show i ≤ l.length ∧ matGo 0 i (List.drop i l) = matGo 0 i (List.drop i l) ∧ -(i : Int) ≤ 0 ∧ 0 ≤ (i : Int)
   exact ⟨hi, rfl, by omega, by omega⟩
 rintro ⟨k, d⟩ hI0
 replace hI0 : k ≤ l.length ∧ matGo 0 i (List.drop i l) = matGo d k (List.drop k l) ∧ -(k : Int) ≤ d ∧ d ≤ (k : Int) := hI0
 show TK _ _ _ _ _ _ ⟨[(0, vL eC l), (5, vI d), (6, vI k)], []⟩
 refine na ⟨[(0, vL eC l), (5, vI d), (6, vI k)], []⟩ rfl rfl rfl rfl rfl ?_
 refine mv rfl ?_
 refine mv rfl ?_
 refine RO (B.lenL rfl un83) ?_
 refine RO (B.lss rfl rfl) ?_
 refine tz ⟨[(0, vL eC l), (5, vI d), (6, vI k), (11, vB (decide ((k : Int) < (l.length : Int))))], []⟩ rfl rfl rfl rfl ?_
 refine TK.condP rfl (fun h1 => ?_) (fun h1 => ?_)
 ·
  refine na ⟨[(0, vL eC l), (5, vI d), (6, vI k)], []⟩ rfl rfl rfl rfl rfl ?_
  refine mv rfl ?_
  refine mv rfl ?_
  refine RO (B.idx (z := z3) (i := k) rfl rfl un83 sz115 (fun _ => rfl) rfl (by omega)) ?_
  refine RO (B.fadP rfl fa115_0 rfl) ?_
  refine RO (B.loadP rfl ag9 sz9) ?_
  refine RO (B.seqB (a := (List.getD l k z3).1) (b := [114, 101, 112, 101, 97, 116]) rfl rfl) ?_
  refine tz ⟨[(0, vL eC l), (5, vI d), (6, vI k), (19, vB (decide ((List.getD l k z3).1 = [114, 101, 112, 101, 97, 116])))], []⟩ rfl rfl rfl rfl ?_
  refine TK.condP rfl (fun h2 => ?_) (fun h2 => ?_)
  ·
   refine na ⟨[(0, vL eC l), (5, vI d), (6, vI k)], []⟩ rfl rfl rfl rfl rfl ?_
   refine mv rfl ?_
   refine RO (B.add rfl rfl (by unfold R64; omega)) ?_
   refine ag rfl ?_
   refine zn ⟨[(0, vL eC l), (5, vI (d + 1)), (6, vI k)], []⟩ rfl rfl rfl rfl rfl ?_
   refine mv rfl ?_
   refine mv rfl ?_
   refine RO (B.idx (z := z3) (i := k) rfl rfl un83 sz115 (fun _ => rfl) rfl (by omega)) ?_
   refine RO (B.fadP rfl fa115_0 rfl) ?_
   refine RO (B.loadP rfl ag9 sz9) ?_
   refine RO (B.seqB (a := (List.getD l k z3).1) (b := [101, 110, 100]) rfl rfl) ?_
   refine tz ⟨[(0, vL eC l), (5, vI (d + 1)), (6, vI k), (27, vB (decide ((List.getD l k z3).1 = [101, 110, 100])))], []⟩ rfl rfl rfl rfl ?_
   refine TK.condP rfl (fun h3 => ?_) (fun h3 => ?_)
   ·
    refine na ⟨[(0, vL eC l), (5, vI (d + 1)), (6, vI k)], []⟩ rfl rfl rfl rfl rfl ?_
    refine mv rfl ?_
    refine RO (B.sub rfl rfl (by unfold R64; omega)) ?_
    refine ag rfl ?_
    refine zn ⟨[(0, vL eC l), (5, vI ((d + 1) - 1)), (6, vI k)], []⟩ rfl rfl rfl rfl rfl ?_
    refine mv rfl ?_
    refine RO (B.eql rfl rfl) ?_
    refine tz ⟨[(0, vL eC l), (5, vI ((d + 1) - 1)), (6, vI k), (31, vB (decide (((d + 1) - 1) = 0)))], []⟩ rfl rfl rfl rfl ?_
    refine TK.condP rfl (fun h4 => ?_) (fun h4 => ?_)
    ·
     refine na ⟨[(6, vI k)], []⟩ rfl rfl rfl rfl rfl ?_
     refine mv rfl ?_
     refine ag rfl ?_
     refine ra rfl ?_
     refine lf ?_
     refine leaf (val0 := vI k) (by kernel_rfl) ?_
     exact li (by exact absurd (Eq.trans (Eq.symm h2) h3) rep_end)
    ·
     refine na ⟨[(0, vL eC l), (5, vI ((d + 1) - 1)), (6, vI k)], []⟩ rfl rfl rfl rfl rfl ?_
     refine mv rfl ?_
     refine RO (B.add rfl rfl (by unfold R64; omega)) ?_
     refine ag rfl ?_
     refine RN ?_
     refine Aq rfl ?_
     refine PK.lp ?_
     refine LP.mk ((k + 1), ((d + 1) - 1)) ?_ ?_ (sb rfl rfl rfl)
     · show (k + 1) ≤ l.length ∧ matGo 0 i (List.drop i l) = matGo ((d + 1) - 1) (k + 1) (List.drop (k + 1) l) ∧ -(((k + 1) : Nat) : Int) ≤ ((d + 1) - 1) ∧ ((d + 1) - 1) ≤ (((k + 1) : Nat) : Int)
       refine ⟨by omega, hI0.2.1.trans ?_, by omega, by omega⟩; exact absurd (Eq.trans (Eq.symm h2) h3) rep_end
     · show l.length - (k + 1) < l.length - k
       omega
   ·
    refine na ⟨[(0, vL eC l), (5, vI (d + 1)), (6, vI k)], []⟩ rfl rfl rfl rfl rfl ?_
    refine mv rfl ?_
    refine RO (B.add rfl rfl (by unfold R64; omega)) ?_
    refine ag rfl ?_
    refine RN ?_
    refine Aq rfl ?_
    refine PK.lp ?_
    refine LP.mk ((k + 1), (d + 1)) ?_ ?_ (sb rfl rfl rfl)
    · show (k + 1) ≤ l.length ∧ matGo 0 i (List.drop i l) = matGo (d + 1) (k + 1) (List.drop (k + 1) l) ∧ -(((k + 1) : Nat) : Int) ≤ (d + 1) ∧ (d + 1) ≤ (((k + 1) : Nat) : Int)
      refine ⟨by omega, hI0.2.1.trans ?_, by omega, by omega⟩; exact mat_rep (by omega) h2
    · show l.length - (k + 1) < l.length - k
      omega
  ·
   refine na ⟨[(0, vL eC l), (5, vI d), (6, vI k)], []⟩ rfl rfl rfl rfl rfl ?_
   refine mv rfl ?_
   refine mv rfl ?_
   refine RO (B.idx (z := z3) (i := k) rfl rfl un83 sz115 (fun _ => rfl) rfl (by omega)) ?_
   refine RO (B.fadP rfl fa115_0 rfl) ?_
   refine RO (B.loadP rfl ag9 sz9) ?_
   refine RO (B.seqB (a := (List.getD l k z3).1) (b := [101, 110, 100]) rfl rfl) ?_
   refine tz ⟨[(0, vL eC l), (5, vI d), (6, vI k), (27, vB (decide ((List.getD l k z3).1 = [101, 110, 100])))], []⟩ rfl rfl rfl rfl ?_
   refine TK.condP rfl (fun h5 => ?_) (fun h5 => ?_)
   ·
    refine na ⟨[(0, vL eC l), (5, vI d), (6, vI k)], []⟩ rfl rfl rfl rfl rfl ?_
    refine mv rfl ?_
    refine RO (B.sub rfl rfl (by unfold R64; omega)) ?_
    refine ag rfl ?_
    refine zn ⟨[(0, vL eC l), (5, vI (d - 1)), (6, vI k)], []⟩ rfl rfl rfl rfl rfl ?_
    refine mv rfl ?_
    refine RO (B.eql rfl rfl) ?_
    refine tz ⟨[(0, vL eC l), (5, vI (d - 1)), (6, vI k), (31, vB (decide ((d - 1) = 0)))], []⟩ rfl rfl rfl rfl ?_
    refine TK.condP rfl (fun h6 => ?_) (fun h6 => ?_)
    ·
     refine na ⟨[(6, vI k)], []⟩ rfl rfl rfl rfl rfl ?_
     refine mv rfl ?_
     refine ag rfl ?_
     refine ra rfl ?_
     refine lf ?_
     refine leaf (val0 := vI k) (by kernel_rfl) ?_
     exact li (by (rw [hI0.2.1, mat_end (by omega) h5, if_pos h6]))
    ·
     refine na ⟨[(0, vL eC l), (5, vI (d - 1)), (6, vI k)], []⟩ rfl rfl rfl rfl rfl ?_
     refine mv rfl ?_
     refine RO (B.add rfl rfl (by unfold R64; omega)) ?_
     refine ag rfl ?_
     refine RN ?_
     refine Aq rfl ?_
     refine PK.lp ?_
     refine LP.mk ((k + 1), (d - 1)) ?_ ?_ (sb rfl rfl rfl)
     · show (k + 1) ≤ l.length ∧ matGo 0 i (List.drop i l) = matGo (d - 1) (k + 1) (List.drop (k + 1) l) ∧ -(((k + 1) : Nat) : Int) ≤ (d - 1) ∧ (d - 1) ≤ (((k + 1) : Nat) : Int)
       refine ⟨by omega, hI0.2.1.trans ?_, by omega, by omega⟩; (rw [mat_end (by omega) h5, if_neg h6])
     · show l.length - (k + 1) < l.length - k
       omega
   ·
    refine na ⟨[(0, vL eC l), (5, vI d), (6, vI k)], []⟩ rfl rfl rfl rfl rfl ?_
    refine mv rfl ?_
    refine RO (B.add rfl rfl (by unfold R64; omega)) ?_
    refine ag rfl ?_
    refine RN ?_
    refine Aq rfl ?_
    refine PK.lp ?_
    refine LP.mk ((k + 1), d) ?_ ?_ (sb rfl rfl rfl)
    · show (k + 1) ≤ l.length ∧ matGo 0 i (List.drop i l) = matGo d (k + 1) (List.drop (k + 1) l) ∧ -(((k + 1) : Nat) : Int) ≤ d ∧ d ≤ (((k + 1) : Nat) : Int)
      refine ⟨by omega, hI0.2.1.trans ?_, by omega, by omega⟩; exact mat_one (by omega) h2 h5
    · show l.length - (k + 1) < l.length - k
      omega
 ·
  refine At rfl ?_
  refine TK.exit ?_
  refine PK.exit rfl ?_
  refine Ap rfl ?_
  refine nr ⟨[(0, vL eC l)], []⟩ rfl rfl rfl rfl ?_
  refine mv rfl ?_
  refine RO (B.lenL rfl un83) ?_
  refine ag rfl ?_
  refine ra rfl ?_
  refine lf ?_
  refine leaf (val0 := vI l.length) (by kernel_rfl) ?_
  exact li (by (rw [hI0.2.1, mat_nil (by omega)]; omega))
theorem w61 (l : List Cmd) (d : Nat) (hw : Wf d l) (hc : ∀ c ∈ l, chkC c = 0) (hl : l.length ≤ 64) (hd : d ≤ 4)
 (hrec : ∀ (b : List Cmd) (d1 : Nat), b.length < l.length → Wf d1 b → (∀ c ∈ b, chkC c = 0) → d1 ≤ 4 → CallOk Tryz.prog 61 [vL eC b] (lookM []) (vI (lenP b)) []) : CallOk Tryz.prog 61 [vL eC l] (lookM []) (vI (lenP l)) [] := by
 refine cO qf61 rfl (nB rfl) rfl ?_
 have hsl := wf_small hw hd hc hl
 refine na ⟨[(0, vL eC l)], []⟩ rfl rfl rfl rfl rfl ?_
 refine ag rfl ?_
 refine zn ⟨[(0, vL eC l)], []⟩ rfl rfl rfl rfl rfl ?_
 refine ag rfl ?_
 refine zn ⟨[(0, vL eC l), (3, vI 0)], []⟩ rfl rfl rfl rfl rfl ?_
 refine ag rfl ?_
 refine ra rfl ?_
 refine TK.loop (α := Nat × Int) (fun x => ⟨[(0, vL eC l), (3, vI x.2), (4, vI ((x.1 : Nat) : Int))], []⟩) (fun x => x.1 ≤ l.length ∧ Wf d (List.drop x.1 l) ∧ x.2 + lenP (List.drop x.1 l) = lenP l ∧ 0 ≤ x.2) (fun x => l.length - x.1) (0, 0) ?_ (sb rfl rfl rfl) ?_
 · show 0 ≤ l.length ∧ Wf d (List.drop 0 l) ∧ 0 + lenP (List.drop 0 l) = lenP l ∧ 0 ≤ 0
   exact ⟨Nat.zero_le _, hw, by rw [List.drop_zero]; omega, by omega⟩
 rintro ⟨i, n⟩ hI0
 replace hI0 : i ≤ l.length ∧ Wf d (List.drop i l) ∧ n + lenP (List.drop i l) = lenP l ∧ 0 ≤ n := hI0
 have hs0 := wf_small hI0.2.1 hd (fun c h => hc c (List.mem_of_mem_drop h)) (by rw [List.length_drop]; omega)
 show TK _ _ _ _ _ _ ⟨[(0, vL eC l), (3, vI n), (4, vI i)], []⟩
 refine na ⟨[(0, vL eC l), (3, vI n), (4, vI i)], []⟩ rfl rfl rfl rfl rfl ?_
 refine mv rfl ?_
 refine mv rfl ?_
 refine RO (B.lenL rfl un83) ?_
 refine RO (B.lss rfl rfl) ?_
 refine tz ⟨[(0, vL eC l), (3, vI n), (4, vI i), (9, vB (decide ((i : Int) < (l.length : Int))))], []⟩ rfl rfl rfl rfl ?_
 refine TK.condP rfl (fun h1 => ?_) (fun h1 => ?_)
 ·
  refine na ⟨[(0, vL eC l), (3, vI n), (4, vI i)], []⟩ rfl rfl rfl rfl rfl ?_
  refine mv rfl ?_
  refine mv rfl ?_
  refine RO (B.idx (z := z3) (i := i) rfl rfl un83 sz115 (fun _ => rfl) rfl (by omega)) ?_
  refine RO (B.fadP rfl fa115_0 rfl) ?_
  refine RO (B.loadP rfl ag9 sz9) ?_
  refine RO (B.sneB (a := (List.getD l i z3).1) (b := [114, 101, 112, 101, 97, 116]) rfl rfl) ?_
  refine tz ⟨[(0, vL eC l), (3, vI n), (4, vI i), (17, vB (decide ((List.getD l i z3).1 ≠ [114, 101, 112, 101, 97, 116])))], []⟩ rfl rfl rfl rfl ?_
  refine TK.condP rfl (fun h2 => ?_) (fun h2 => ?_)
  ·
   refine na ⟨[(0, vL eC l), (3, vI n), (4, vI i)], []⟩ rfl rfl rfl rfl rfl ?_
   refine mv rfl ?_
   refine RO (B.add rfl rfl (by unfold R64; omega)) ?_
   refine ag rfl ?_
   refine ra rfl ?_
   refine TK.exit ?_
   refine PK.exit rfl ?_
   refine Ap rfl ?_
   refine nr ⟨[(0, vL eC l), (3, vI (n + 1)), (4, vI i)], []⟩ rfl rfl rfl rfl ?_
   refine mv rfl ?_
   refine RO (B.add rfl rfl (by unfold R64; omega)) ?_
   refine ag rfl ?_
   refine RN ?_
   refine Aq rfl ?_
   refine PK.lp ?_
   refine LP.mk ((i + 1), (n + 1)) ?_ ?_ (sb rfl rfl rfl)
   · show (i + 1) ≤ l.length ∧ Wf d (List.drop (i + 1) l) ∧ (n + 1) + lenP (List.drop (i + 1) l) = lenP l ∧ 0 ≤ (n + 1)
     (obtain ⟨q1, q2, q3⟩ := wf_next hI0.2.1 (by omega) h2; exact ⟨by omega, q2, by omega, by omega⟩)
   · show l.length - (i + 1) < l.length - i
     omega
  ·
   refine na ⟨[(0, vL eC l), (3, vI n), (4, vI i)], []⟩ rfl rfl rfl rfl rfl ?_
   refine mv rfl ?_
   refine mv rfl ?_
   refine RO (B.call (w138 l i (by omega) (by omega)) rfl rfl rfl) ?_
   refine ag rfl ?_
   refine tz ⟨[(0, vL eC l), (3, vI n), (4, vI i), (5, vI ((matGo 0 i (List.drop i l) : Nat) : Int))], []⟩ rfl rfl rfl rfl ?_
   obtain ⟨d1, e, hde, he, he1, he2, hwb, hwr, hle⟩ := wf_at hI0.2.1 (by omega) (Decidable.not_not.1 h2)
   rw [← he]
   have hcb : ∀ c ∈ List.drop (i + 1) (List.take e l), chkC c = 0 := fun c h => hc c (List.mem_of_mem_take (List.mem_of_mem_drop h))
   have hbl : (List.drop (i + 1) (List.take e l)).length < l.length := by rw [List.length_drop, List.length_take]; omega
   have hsb := wf_small hwb (by omega) hcb (by omega)
   have hsr := wf_small hwr hd (fun c h => hc c (List.mem_of_mem_drop h)) (by rw [List.length_drop]; omega)
   have hcn := cnt_rep (hc _ (getD_mem (z := z3) (k := i) (by omega))) (Decidable.not_not.1 h2)
   have hpn : 0 ≤ (List.getD l i z3).2.2 * (1 + lenP (List.drop (i + 1) (List.take e l))) := Int.mul_nonneg (by omega) (by omega)
   refine TK.rg (Y := tab) mixed rfl ?_
   refine mv rfl ?_
   refine mv rfl ?_
   refine mv rfl ?_
   refine RO (B.idx (z := z3) (i := i) rfl rfl un83 sz115 (fun _ => rfl) rfl (by omega)) ?_
   refine RO (B.fadP rfl fa115_2 rfl) ?_
   refine RO (B.loadP rfl ag3 sz3) ?_
   refine mv rfl ?_
   refine mv rfl ?_
   refine RO (B.add rfl rfl (by unfold R64; omega)) ?_
   refine mv rfl ?_
   refine RO (B.slTD (i := (i + 1)) (j := e) rfl rfl rfl un83 sz115 (fun _ => rfl) (by omega) rfl (by omega) (by omega)) ?_
   refine RO (B.call (hrec _ d1 hbl hwb hcb (by omega)) rfl rfl rfl) ?_
   refine RO (B.add rfl rfl (by unfold R64; omega)) ?_
   refine RO (B.mul rfl rfl (by unfold R64; omega)) ?_
   refine RO (B.add rfl rfl (by unfold R64; omega)) ?_
   refine ag rfl ?_
   refine RG.nil (fun _ => by kernel_rfl) ?_
   refine Ap rfl ?_
   refine nr ⟨[(0, vL eC l), (3, vI (n + ((List.getD l i z3).2.2 * (1 + (lenP (List.drop (i + 1) (List.take e l))))))), (5, vI e)], []⟩ rfl rfl rfl rfl ?_
   refine mv rfl ?_
   refine ag rfl ?_
   refine zn ⟨[(0, vL eC l), (3, vI (n + ((List.getD l i z3).2.2 * (1 + (lenP (List.drop (i + 1) (List.take e l))))))), (4, vI e)], []⟩ rfl rfl rfl rfl rfl ?_
   refine mv rfl ?_
   refine RO (B.add rfl rfl (by unfold R64; omega)) ?_
   refine ag rfl ?_
   refine RN ?_
   refine Aq rfl ?_
   refine PK.lp ?_
   refine LP.mk ((e + 1), (n + ((List.getD l i z3).2.2 * (1 + (lenP (List.drop (i + 1) (List.take e l))))))) ?_ ?_ (sb rfl rfl rfl)
   · show (e + 1) ≤ l.length ∧ Wf d (List.drop (e + 1) l) ∧ (n + ((List.getD l i z3).2.2 * (1 + (lenP (List.drop (i + 1) (List.take e l)))))) + lenP (List.drop (e + 1) l) = lenP l ∧ 0 ≤ (n + ((List.getD l i z3).2.2 * (1 + (lenP (List.drop (i + 1) (List.take e l))))))
     exact ⟨by omega, hwr, by omega, by omega⟩
   · show l.length - (e + 1) < l.length - i
     omega
 ·
  refine At rfl ?_
  refine TK.exit ?_
  refine PK.exit rfl ?_
  refine Ap rfl ?_
  refine nr ⟨[(3, vI n)], []⟩ rfl rfl rfl rfl ?_
  refine mv rfl ?_
  refine ag rfl ?_
  refine ra rfl ?_
  refine lf ?_
  refine leaf (val0 := vI n) (by kernel_rfl) ?_
  exact li (by have hz := hI0.2.2.1; rw [List.drop_of_length_le (by omega), lenP_nil] at hz; omega)
theorem w61r : ∀ (n : Nat) (l : List Cmd) (d : Nat), l.length ≤ n → Wf d l → (∀ c ∈ l, chkC c = 0) → l.length ≤ 64 → d ≤ 4 → CallOk Tryz.prog 61 [vL eC l] (lookM []) (vI (lenP l)) []
 | 0, l, d, hn, hw, hc, hl, hd => w61 l d hw hc hl hd fun b d1 hb => absurd hb (by omega)
 | n + 1, l, d, hn, hw, hc, hl, hd => w61 l d hw hc hl hd fun b d1 hb hw1 hc1 hd1 => w61r n b d1 (by omega) hw1 hc1 (by omega) hd1
theorem w61s {l : List Cmd} (hl : l.length ≤ 64) (hc : ∀ c ∈ l, chkC c = 0) (hd : depC 0 l = 0) : CallOk Tryz.prog 61 [vL eC l] (lookM []) (vI (lenP l)) [] := w61r l.length l 4 (Nat.le_refl _) (wf_of hd) hc hl (by omega)
theorem w61k {l : List Cmd} (h : decide (chkS l ≠ 0) = false) : CallOk Tryz.prog 61 [vL eC l] (lookM []) (vI (lenP l)) [] := by
 obtain ⟨h1, h2, h3, _⟩ := chkS_ok (Decidable.not_not.1 (of_decide_eq_false h))
 exact w61s h1 h2 h3
theorem w137 (l : List Cmd) (hc : ∀ c ∈ l, chkC c = 0) (hl : l.length ≤ 64) (hd : depC 0 l = 0) : CallOk Tryz.prog 137 [vL eC l] (lookM []) (vI (lenP l)) [] := by
 refine cO qf137 rfl (nB rfl) rfl ?_
 have hsl := wf_small (wf_of hd) (by omega) hc hl
 refine na ⟨[(0, vL eC l)], []⟩ rfl rfl rfl rfl rfl ?_
 refine ag rfl ?_
 refine zn ⟨[(0, vL eC l)], []⟩ rfl rfl rfl rfl rfl ?_
 refine rn rfl ?_
 refine rn rfl ?_
 refine zn ⟨[(0, vL eC l), (3, .aref 9 0)], [(9, .arr 0 1 3 (List.map eI [0]))]⟩ rfl rfl rfl rfl rfl ?_
 refine RO (B.adopt 5 1 3 rfl rfl) ?_
 refine zn ⟨[(0, vL eC l), (3, .aref 9 0), (4, .aref 5 0)], [(5, .arr 0 1 3 (List.map eI [])), (9, .arr 0 1 3 (List.map eI [0]))]⟩ rfl rfl rfl rfl rfl ?_
 refine mv rfl ?_
 refine RO (B.lenL rfl un82) ?_
 refine mv rfl ?_
 refine ra rfl ?_
 refine TK.loop (α := Nat × Nat × Nat × Int × List (Int × Int)) (fun x => ⟨[(3, .aref 9 x.2.1), (4, .aref 5 x.2.2.1), (9, vL eC l), (10, vI l.length), (11, vI ((x.1 : Nat) : Int))], [(5, .arr x.2.2.1 1 3 (List.map eI (cnL x.2.2.2.2))), (9, .arr x.2.1 1 3 (List.map eI (smL x.2.2.2.2 x.2.2.2.1)))]⟩) (fun x => x.1 ≤ l.length ∧ LnI l x.1 x.2.2.2.1 x.2.2.2.2) (fun x => l.length - x.1) (0, 0, 0, 0, []) ?_ (sb rfl rfl rfl) ?_
 · show 0 ≤ l.length ∧ LnI l 0 0 []
   exact ⟨Nat.zero_le _, ln_init hd⟩
 rintro ⟨k, v, u, s, st⟩ hI0
 replace hI0 : k ≤ l.length ∧ LnI l k s st := hI0
 have hle := ln_le hI0.2 hc
 have hsk := hI0.2.1.2.2
 have hsl2 := smL_len st s
 have hcl2 := cnL_len st
 show TK _ _ _ _ _ _ ⟨[(3, .aref 9 v), (4, .aref 5 u), (9, vL eC l), (10, vI l.length), (11, vI k)], [(5, .arr u 1 3 (List.map eI (cnL st))), (9, .arr v 1 3 (List.map eI (smL st s)))]⟩
 refine na ⟨[(3, .aref 9 v), (4, .aref 5 u), (9, vL eC l), (10, vI l.length), (11, vI k)], [(5, .arr u 1 3 (List.map eI (cnL st))), (9, .arr v 1 3 (List.map eI (smL st s)))]⟩ rfl rfl rfl rfl rfl ?_
 refine RO (B.lss rfl rfl) ?_
 refine tz ⟨[(3, .aref 9 v), (4, .aref 5 u), (9, vL eC l), (10, vI l.length), (11, vI k), (12, vB (decide ((k : Int) < (l.length : Int))))], [(5, .arr u 1 3 (List.map eI (cnL st))), (9, .arr v 1 3 (List.map eI (smL st s)))]⟩ rfl rfl rfl rfl ?_
 refine TK.condP rfl (fun h1 => ?_) (fun h1 => ?_)
 ·
  refine na ⟨[(3, .aref 9 v), (4, .aref 5 u), (9, vL eC l), (10, vI l.length), (11, vI k)], [(5, .arr u 1 3 (List.map eI (cnL st))), (9, .arr v 1 3 (List.map eI (smL st s)))]⟩ rfl rfl rfl rfl rfl ?_
  refine RO (B.idx (z := z3) (i := k) rfl rfl un82 sz116 (fun _ => rfl) rfl (by omega)) ?_
  refine RO (B.loadA (ds := [pS (bsO (List.getD l k z3).1), pS (bsO (List.getD l k z3).2.1), pI (List.getD l k z3).2.2]) rfl ag116 sz116 (nB rfl) rfl) ?_
  refine rn rfl ?_
  refine rn rfl ?_
  refine zn ⟨[(3, .aref 9 v), (4, .aref 5 u), (6, .bref 7 0), (9, vL eC l), (10, vI l.length), (11, vI k)], [(5, .arr u 1 3 (List.map eI (cnL st))), (7, bC 116 (List.getD l k z3)), (9, .arr v 1 3 (List.map eI (smL st s)))]⟩ rfl rfl rfl rfl rfl ?_
  refine rn rfl ?_
  refine RO (B.lenA rfl rfl un22) ?_
  refine RO (B.sub rfl rfl (by unfold R64; omega)) ?_
  refine ag rfl ?_
  refine tz ⟨[(3, .aref 9 v), (4, .aref 5 u), (6, .bref 7 0), (7, vI (((List.length (smL st s) : Nat) : Int) - 1)), (9, vL eC l), (10, vI l.length), (11, vI k)], [(5, .arr u 1 3 (List.map eI (cnL st))), (7, bC 116 (List.getD l k z3)), (9, .arr v 1 3 (List.map eI (smL st s)))]⟩ rfl rfl rfl rfl ?_
  obtain ⟨m, hm⟩ : ∃ m, m = st.length := ⟨_, rfl⟩
  rw [show (((List.length (smL st s) : Nat) : Int) - 1) = (m : Int) by omega]
  refine TK.rg (Y := tab) mixed rfl ?_
  refine RO (B.fadB rfl fa116_0 rfl) ?_
  refine RO (B.loadB rfl rfl rfl ag9 sz9 rfl) ?_
  refine zn ⟨[(3, .aref 9 v), (4, .aref 5 u), (6, .bref 7 0), (7, vI m), (9, vL eC l), (10, vI l.length), (11, vI k), (19, vS (bsO (List.getD l k z3).1))], [(5, .arr u 1 3 (List.map eI (cnL st))), (7, bC 116 (List.getD l k z3)), (9, .arr v 1 3 (List.map eI (smL st s)))]⟩ rfl rfl rfl rfl rfl ?_
  refine RO (B.seqB (a := (List.getD l k z3).1) (b := [114, 101, 112, 101, 97, 116]) rfl rfl) ?_
  refine ag rfl ?_
  refine tz ⟨[(3, .aref 9 v), (4, .aref 5 u), (6, .bref 7 0), (7, vI m), (9, vL eC l), (10, vI l.length), (11, vI k), (19, vS (bsO (List.getD l k z3).1)), (26, vB (decide ((List.getD l k z3).1 = [114, 101, 112, 101, 97, 116])))], [(5, .arr u 1 3 (List.map eI (cnL st))), (7, bC 116 (List.getD l k z3)), (9, .arr v 1 3 (List.map eI (smL st s)))]⟩ rfl rfl rfl rfl ?_
  refine TK.condP rfl (fun h2 => ?_) (fun h2 => ?_)
  ·
   refine na ⟨[(3, .aref 9 v), (4, .aref 5 u), (6, .bref 7 0), (9, vL eC l), (10, vI l.length), (11, vI k)], [(5, .arr u 1 3 (List.map eI (cnL st))), (7, bC 116 (List.getD l k z3)), (9, .arr v 1 3 (List.map eI (smL st s)))]⟩ rfl rfl rfl rfl rfl ?_
   refine rn rfl ?_
   refine RO (B.runZ (val := .pv (.slice (List.map eI [1]))) rfl (fun l => Frz.arr l _ _ _ _ _) rfl) ?_
   refine RO (B.append rfl rfl rfl un22 in3 rfl (fun _ => rfl) by3 (by (simp only [List.length_set, List.length_append, List.length_cons, List.length_nil]; omega))) ?_
   refine rn rfl ?_
   refine RO (B.fadB rfl fa116_2 rfl) ?_
   refine RO (B.loadB rfl rfl rfl ag3 sz3 rfl) ?_
   refine RO (B.runZ (val := .pv (.slice (List.map eI [(List.getD l k z3).2.2]))) rfl (fun l => Frz.arr l _ _ _ _ _) rfl) ?_
   refine RO (B.append rfl rfl rfl un22 in3 rfl (fun _ => rfl) by3 (by (simp only [List.length_set, List.length_append, List.length_cons, List.length_nil]; omega))) ?_
   refine rn rfl ?_
   refine rn rfl ?_
   refine RG.nil (fun _ => by kernel_rfl) ?_
   refine Ap rfl ?_
   refine nr ⟨[(3, .aref 9 (v + 1)), (4, .aref 5 (u + 1)), (9, vL eC l), (10, vI l.length), (11, vI k)], [(5, .arr (u + 1) 1 3 (List.map eI ((cnL st) ++ [(List.getD l k z3).2.2]))), (9, .arr (v + 1) 1 3 (List.map eI ((smL st s) ++ [1])))]⟩ rfl rfl rfl rfl ?_
   refine RO (B.add rfl rfl (by unfold R64; omega)) ?_
   refine mv rfl ?_
   refine RN ?_
   refine Aq rfl ?_
   refine PK.lp ?_
   refine LP.mk ((k + 1), (v + 1), (u + 1), 1, ((s, (List.getD l k z3).2.2) :: st)) ?_ ?_ (sb rfl rfl rfl)
   · show (k + 1) ≤ l.length ∧ LnI l (k + 1) 1 ((s, (List.getD l k z3).2.2) :: st)
     refine ⟨by omega, ?_⟩; exact ln_rep hI0.2 hc (by omega) h2
   · show l.length - (k + 1) < l.length - k
     omega
  ·
   refine na ⟨[(3, .aref 9 v), (4, .aref 5 u), (7, vI m), (9, vL eC l), (10, vI l.length), (11, vI k), (19, vS (bsO (List.getD l k z3).1))], [(5, .arr u 1 3 (List.map eI (cnL st))), (9, .arr v 1 3 (List.map eI (smL st s)))]⟩ rfl rfl rfl rfl rfl ?_
   refine RO (B.seqB (a := (List.getD l k z3).1) (b := [101, 110, 100]) rfl rfl) ?_
   refine ag rfl ?_
   refine tz ⟨[(3, .aref 9 v), (4, .aref 5 u), (7, vI m), (9, vL eC l), (10, vI l.length), (11, vI k), (36, vB (decide ((List.getD l k z3).1 = [101, 110, 100])))], [(5, .arr u 1 3 (List.map eI (cnL st))), (9, .arr v 1 3 (List.map eI (smL st s)))]⟩ rfl rfl rfl rfl ?_
   refine TK.condP rfl (fun h3 => ?_) (fun h3 => ?_)
   ·
    refine ta ⟨[(3, .aref 9 v), (4, .aref 5 u), (7, vI m), (9, vL eC l), (10, vI l.length), (11, vI k)], [(5, .arr u 1 3 (List.map eI (cnL st))), (9, .arr v 1 3 (List.map eI (smL st s)))]⟩ rfl rfl rfl rfl ?_
    obtain ⟨p, st2, rfl⟩ := ln_some hI0.2 (by omega) h3
    have hm2 : m = st2.length + 1 := hm
    have g1 : (List.getD (smL (p :: st2) s) (m - 1) 0) = Prod.fst p := by rw [hm2]; exact smL_get2 p st2 s
    have g2 : (List.getD (cnL (p :: st2)) (m - 1) 0) = Prod.snd p := by rw [hm2]; exact cnL_get p st2
    have g3 : (List.getD (smL (p :: st2) s) m 0) = s := by rw [hm2]; exact smL_get (p :: st2) s
    have hpop := ln_pop hI0.2 (by omega) h3
    have hpl := (ln_le hpop hc).1
    have hp0 := hI0.2.2.2 p (List.mem_cons_self ..)
    have hq1 : 0 ≤ (List.getD (cnL (p :: st2)) (m - 1) 0) * (List.getD (smL (p :: st2) s) m 0) ∧ (List.getD (smL (p :: st2) s) (m - 1) 0) + (List.getD (cnL (p :: st2)) (m - 1) 0) * (List.getD (smL (p :: st2) s) m 0) ≤ 7000000000 ∧ 0 ≤ (List.getD (smL (p :: st2) s) (m - 1) 0) := by
      rw [g1, g2, g3]; exact ⟨Int.mul_nonneg (by omega) hI0.2.2.1, by omega, hp0.1⟩
    refine TK.rg (Y := tab) mixed rfl ?_
    refine rn rfl ?_
    refine mv rfl ?_
    refine RO (B.sub rfl rfl (by unfold R64; omega)) ?_
    refine RO (B.idxE (n := (m - 1)) rfl rfl rfl un22 sz3 (by omega) (by omega)) ?_
    refine RO (B.loadE (n := (m - 1)) (z0 := 0) rfl rfl ag3 sz3 (by omega) rfl) ?_
    refine rn rfl ?_
    refine mv rfl ?_
    refine RO (B.sub rfl rfl (by unfold R64; omega)) ?_
    refine RO (B.idxE (n := (m - 1)) rfl rfl rfl un22 sz3 (by omega) (by omega)) ?_
    refine RO (B.loadE (n := (m - 1)) (z0 := 0) rfl rfl ag3 sz3 (by omega) rfl) ?_
    refine rn rfl ?_
    refine mv rfl ?_
    refine RO (B.idxE (n := m) rfl rfl rfl un22 sz3 rfl (by omega)) ?_
    refine RO (B.loadE (n := m) (z0 := 0) rfl rfl ag3 sz3 (by omega) rfl) ?_
    refine RO (B.mul rfl rfl (by unfold R64; omega)) ?_
    refine RO (B.add rfl rfl (by unfold R64; omega)) ?_
    refine RO (B.idxE (n := (m - 1)) rfl rfl rfl un22 sz3 (by omega) (by omega)) ?_
    refine RO (B.setE (z0 := ((List.getD (smL (p :: st2) s) (m - 1) 0) + ((List.getD (cnL (p :: st2)) (m - 1) 0) * (List.getD (smL (p :: st2) s) m 0)))) rfl rfl rfl rfl rfl sz3 (by omega) (fun _ => rfl)) ?_
    refine RG.nil (fun _ => by kernel_rfl) ?_
    refine Ap rfl ?_
    refine nr ⟨[(3, .aref 9 v), (4, .aref 5 u), (7, vI m), (9, vL eC l), (10, vI l.length), (11, vI k)], [(5, .arr u 1 3 (List.map eI (cnL (p :: st2)))), (9, .arr v 1 3 (List.map eI (List.set (smL (p :: st2) s) (m - 1) ((List.getD (smL (p :: st2) s) (m - 1) 0) + ((List.getD (cnL (p :: st2)) (m - 1) 0) * (List.getD (smL (p :: st2) s) m 0))))))]⟩ rfl rfl rfl rfl ?_
    refine rn rfl ?_
    refine mv rfl ?_
    refine RO (B.slA (n := m) rfl rfl rfl un22 sz3 rfl (by (simp only [List.length_set, List.length_append, List.length_cons, List.length_nil]; omega))) ?_
    refine rn rfl ?_
    refine mv rfl ?_
    refine RO (B.sub rfl rfl (by unfold R64; omega)) ?_
    refine RO (B.slA (n := (m - 1)) rfl rfl rfl un22 sz3 (by omega) (by omega)) ?_
    refine rn rfl ?_
    refine rn rfl ?_
    refine RG.nil (fun _ => by kernel_rfl) ?_
    refine Ap rfl ?_
    refine tn ⟨[(3, .atrunc 9 v m), (4, .atrunc 5 u (m - 1)), (9, vL eC l), (10, vI l.length), (11, vI k)], [(5, .arr u 1 3 (List.map eI (cnL (p :: st2)))), (9, .arr v 1 3 (List.map eI (List.set (smL (p :: st2) s) (m - 1) ((List.getD (smL (p :: st2) s) (m - 1) 0) + ((List.getD (cnL (p :: st2)) (m - 1) 0) * (List.getD (smL (p :: st2) s) m 0))))))]⟩ rfl rfl rfl ?_
    refine TK.trunc (t := 3) rfl rfl ?_
    refine tn ⟨[(3, .aref 9 (v + 1)), (4, .atrunc 5 u (m - 1)), (9, vL eC l), (10, vI l.length), (11, vI k)], [(5, .arr u 1 3 (List.map eI (cnL (p :: st2)))), (9, .arr (v + 1) 1 3 (List.map eI (List.take m (List.set (smL (p :: st2) s) (m - 1) ((List.getD (smL (p :: st2) s) (m - 1) 0) + ((List.getD (cnL (p :: st2)) (m - 1) 0) * (List.getD (smL (p :: st2) s) m 0)))))))]⟩ rfl rfl rfl ?_
    refine TK.trunc (t := 4) rfl rfl ?_
    refine tn ⟨[(3, .aref 9 (v + 1)), (4, .aref 5 (u + 1)), (9, vL eC l), (10, vI l.length), (11, vI k)], [(5, .arr (u + 1) 1 3 (List.map eI (List.take (m - 1) (cnL (p :: st2))))), (9, .arr (v + 1) 1 3 (List.map eI (List.take m (List.set (smL (p :: st2) s) (m - 1) ((List.getD (smL (p :: st2) s) (m - 1) 0) + ((List.getD (cnL (p :: st2)) (m - 1) 0) * (List.getD (smL (p :: st2) s) m 0)))))))]⟩ rfl rfl rfl ?_
    have e1 : (List.take m (List.set (smL (p :: st2) s) (m - 1) ((List.getD (smL (p :: st2) s) (m - 1) 0) + ((List.getD (cnL (p :: st2)) (m - 1) 0) * (List.getD (smL (p :: st2) s) m 0))))) = smL st2 (Prod.fst p + Prod.snd p * s) := by rw [g1, g2, g3, hm2]; exact smL_pop p st2 s _
    have e2 : (List.take (m - 1) (cnL (p :: st2))) = cnL st2 := by rw [hm2]; exact cnL_pop p st2
    rw [e1, e2]
    refine TK.rg (Y := tab) mixed rfl ?_
    refine RO (B.add rfl rfl (by unfold R64; omega)) ?_
    refine mv rfl ?_
    refine RN ?_
    refine Aq rfl ?_
    refine PK.lp ?_
    refine LP.mk ((k + 1), (v + 1), (u + 1), (Prod.fst p + Prod.snd p * s), st2) ?_ ?_ (sb rfl rfl rfl)
    · show (k + 1) ≤ l.length ∧ LnI l (k + 1) (Prod.fst p + Prod.snd p * s) st2
      refine ⟨by omega, ?_⟩; exact hpop
    · show l.length - (k + 1) < l.length - k
      omega
   ·
    refine ta ⟨[(3, .aref 9 v), (4, .aref 5 u), (7, vI m), (9, vL eC l), (10, vI l.length), (11, vI k)], [(5, .arr u 1 3 (List.map eI (cnL st))), (9, .arr v 1 3 (List.map eI (smL st s)))]⟩ rfl rfl rfl rfl ?_
    have g4 : List.getD (smL st s) m 0 = s := by rw [hm]; exact smL_get st s
    have hsn := hI0.2.2.1
    refine TK.rg (Y := tab) mixed rfl ?_
    refine rn rfl ?_
    refine mv rfl ?_
    refine RO (B.idxE (n := m) rfl rfl rfl un22 sz3 rfl (by omega)) ?_
    refine RO (B.loadE (n := m) (z0 := 0) rfl rfl ag3 sz3 (by omega) rfl) ?_
    refine RO (B.add rfl rfl (by unfold R64; omega)) ?_
    refine RO (B.idxE (n := m) rfl rfl rfl un22 sz3 rfl (by omega)) ?_
    refine RO (B.setE (z0 := ((List.getD (smL st s) m 0) + 1)) rfl rfl rfl rfl rfl sz3 (by omega) (fun _ => rfl)) ?_
    refine tz ⟨[(3, .aref 9 v), (4, .aref 5 u), (9, vL eC l), (10, vI l.length), (11, vI k)], [(5, .arr u 1 3 (List.map eI (cnL st))), (9, .arr v 1 3 (List.map eI (List.set (smL st s) m ((List.getD (smL st s) m 0) + 1))))]⟩ rfl rfl rfl rfl ?_
    have e1 : (List.set (smL st s) m ((List.getD (smL st s) m 0) + 1)) = smL st (s + 1) := by rw [g4, hm]; exact smL_set st s _
    rw [e1]
    refine TK.rg (Y := tab) mixed rfl ?_
    refine RO (B.add rfl rfl (by unfold R64; omega)) ?_
    refine mv rfl ?_
    refine RN ?_
    refine Aq rfl ?_
    refine PK.lp ?_
    refine LP.mk ((k + 1), v, u, (s + 1), st) ?_ ?_ (sb rfl rfl rfl)
    · show (k + 1) ≤ l.length ∧ LnI l (k + 1) (s + 1) st
      refine ⟨by omega, ?_⟩; exact ln_one hI0.2 (by omega) h2 h3
    · show l.length - (k + 1) < l.length - k
      omega
 ·
  refine At rfl ?_
  refine TK.exit ?_
  refine PK.exit rfl ?_
  refine Ap rfl ?_
  refine nr ⟨[(3, .aref 9 v)], [(9, .arr v 1 3 (List.map eI (smL st s)))]⟩ rfl rfl rfl rfl ?_
  refine rn rfl ?_
  refine RO (B.idxE (n := 0) rfl rfl rfl un22 sz3 rfl (by omega)) ?_
  refine RO (B.loadE (n := 0) (z0 := 0) rfl rfl ag3 sz3 (by omega) rfl) ?_
  refine ag rfl ?_
  refine ra rfl ?_
  refine lf ?_
  refine leaf (val0 := vI (List.getD (smL st s) 0 0)) (by kernel_rfl) ?_
  exact li (by exact ln_end hI0.2 (by omega))
theorem w59 (l : List Cmd) (hl : l.length ≤ 1000000000000000) : CallOk Tryz.prog 59 [vL eC l] (lookM []) (vI (chkS l)) [] := by
 refine cO qf59 rfl (nB rfl) rfl ?_
 refine na ⟨[(0, vL eC l)], []⟩ rfl rfl rfl rfl rfl ?_
 refine ag rfl ?_
 refine zn ⟨[(0, vL eC l)], []⟩ rfl rfl rfl rfl rfl ?_
 refine mv rfl ?_
 refine RO (B.lenL rfl un82) ?_
 refine RO (B.gtr rfl rfl) ?_
 refine tz ⟨[(0, vL eC l), (11, vB (decide (64 < (l.length : Int))))], []⟩ rfl rfl rfl rfl ?_
 refine TK.condP rfl (fun h1 => ?_) (fun h1 => ?_)
 ·
  refine na ⟨[], []⟩ rfl rfl rfl rfl rfl ?_
  refine ag rfl ?_
  refine ra rfl ?_
  refine lf ?_
  refine leaf (val0 := vI 5) (by kernel_rfl) ?_
  exact li (by (exact (chkS_many h1).symm))
 ·
  refine na ⟨[(0, vL eC l)], []⟩ rfl rfl rfl rfl rfl ?_
  refine mv rfl ?_
  refine RO (B.lenL rfl un82) ?_
  refine mv rfl ?_
  refine ra rfl ?_
  refine TK.loop (α := Nat) (fun x => ⟨[(0, vL eC l), (12, vL eC l), (13, vI l.length), (14, vI x)], []⟩) (fun x => x ≤ l.length ∧ badC l = badC (List.drop x l)) (fun x => l.length - x) 0 ?_ (sb rfl rfl rfl) ?_
  · show 0 ≤ l.length ∧ badC l = badC (List.drop 0 l)
    exact ⟨Nat.zero_le _, rfl⟩
  rintro k hI0
  replace hI0 : k ≤ l.length ∧ badC l = badC (List.drop k l) := hI0
  show TK _ _ _ _ _ _ ⟨[(0, vL eC l), (12, vL eC l), (13, vI l.length), (14, vI k)], []⟩
  refine na ⟨[(0, vL eC l), (12, vL eC l), (13, vI l.length), (14, vI k)], []⟩ rfl rfl rfl rfl rfl ?_
  refine RO (B.lss rfl rfl) ?_
  refine tz ⟨[(0, vL eC l), (12, vL eC l), (13, vI l.length), (14, vI k), (15, vB (decide ((k : Int) < (l.length : Int))))], []⟩ rfl rfl rfl rfl ?_
  refine TK.condP rfl (fun h2 => ?_) (fun h2 => ?_)
  ·
   refine na ⟨[(0, vL eC l), (12, vL eC l), (13, vI l.length), (14, vI k)], []⟩ rfl rfl rfl rfl rfl ?_
   refine RO (B.idx (z := z3) (i := k) rfl rfl un82 sz116 (fun _ => rfl) rfl (by omega)) ?_
   refine RO (B.loadA (ds := [pS (bsO (List.getD l k z3).1), pS (bsO (List.getD l k z3).2.1), pI (List.getD l k z3).2.2]) rfl ag116 sz116 (nB rfl) rfl) ?_
   refine rn rfl ?_
   refine rn rfl ?_
   refine zn ⟨[(0, vL eC l), (4, .bref 5 0), (12, vL eC l), (13, vI l.length), (14, vI k)], [(5, bC 116 (List.getD l k z3))]⟩ rfl rfl rfl rfl rfl ?_
   refine RO (B.loadBA rfl rfl rfl ag116 sz116 rfl rfl) ?_
   refine RO (B.call (w136 (List.getD l k z3)) rfl rfl rfl) ?_
   refine ag rfl ?_
   refine zn ⟨[(0, vL eC l), (5, vI (chkC (List.getD l k z3))), (12, vL eC l), (13, vI l.length), (14, vI k)], []⟩ rfl rfl rfl rfl rfl ?_
   refine mv rfl ?_
   refine RO (B.neq rfl rfl) ?_
   refine tz ⟨[(0, vL eC l), (5, vI (chkC (List.getD l k z3))), (12, vL eC l), (13, vI l.length), (14, vI k), (21, vB (decide ((chkC (List.getD l k z3)) ≠ 0)))], []⟩ rfl rfl rfl rfl ?_
   refine TK.condP rfl (fun h3 => ?_) (fun h3 => ?_)
   ·
    refine na ⟨[(5, vI (chkC (List.getD l k z3)))], []⟩ rfl rfl rfl rfl rfl ?_
    refine mv rfl ?_
    refine ag rfl ?_
    refine ra rfl ?_
    refine lf ?_
    refine leaf (val0 := vI (chkC (List.getD l k z3))) (by kernel_rfl) ?_
    exact li (by (exact (chkS_bad h1 (hI0.2.trans (badC_no (by omega) h3)) h3).symm))
   ·
    refine na ⟨[(0, vL eC l), (12, vL eC l), (13, vI l.length), (14, vI k)], []⟩ rfl rfl rfl rfl rfl ?_
    refine RO (B.add rfl rfl (by unfold R64; omega)) ?_
    refine mv rfl ?_
    refine RN ?_
    refine Aq rfl ?_
    refine PK.lp ?_
    refine LP.mk (k + 1) ?_ ?_ (sb rfl rfl rfl)
    · show (k + 1) ≤ l.length ∧ badC l = badC (List.drop (k + 1) l)
      exact ⟨by omega, hI0.2.trans (badC_ok (by omega) (Decidable.not_not.1 h3))⟩
    · show l.length - (k + 1) < l.length - k
      omega
  ·
   refine At rfl ?_
   refine TK.exit ?_
   refine PK.exit rfl ?_
   refine Ap rfl ?_
   refine tn ⟨[(0, vL eC l)], []⟩ rfl rfl rfl ?_
   have hb0 : badC l = 0 := hI0.2.trans (bad_end (by omega))
   have hc := badC_all hb0
   refine TK.rg (Y := tab) mixed rfl ?_
   refine ag rfl ?_
   refine zn ⟨[(0, vL eC l), (6, vI 0)], []⟩ rfl rfl rfl rfl rfl ?_
   refine mv rfl ?_
   refine RO (B.lenL rfl un82) ?_
   refine mv rfl ?_
   refine ra rfl ?_
   refine TK.loop (α := Nat × Nat) (fun x => ⟨[(0, vL eC l), (6, vI ((x.2 : Nat) : Int)), (24, vL eC l), (25, vI l.length), (26, vI ((x.1 : Nat) : Int))], []⟩) (fun x => x.1 ≤ l.length ∧ x.2 ≤ 4 ∧ depC 0 l = depC x.2 (List.drop x.1 l)) (fun x => l.length - x.1) (0, 0) ?_ (sb rfl rfl rfl) ?_
   · show 0 ≤ l.length ∧ 0 ≤ 4 ∧ depC 0 l = depC 0 (List.drop 0 l)
     exact ⟨Nat.zero_le _, by omega, rfl⟩
   rintro ⟨k, d⟩ hI1
   replace hI1 : k ≤ l.length ∧ d ≤ 4 ∧ depC 0 l = depC d (List.drop k l) := hI1
   show TK _ _ _ _ _ _ ⟨[(0, vL eC l), (6, vI d), (24, vL eC l), (25, vI l.length), (26, vI k)], []⟩
   refine na ⟨[(0, vL eC l), (6, vI d), (24, vL eC l), (25, vI l.length), (26, vI k)], []⟩ rfl rfl rfl rfl rfl ?_
   refine RO (B.lss rfl rfl) ?_
   refine tz ⟨[(0, vL eC l), (6, vI d), (24, vL eC l), (25, vI l.length), (26, vI k), (27, vB (decide ((k : Int) < (l.length : Int))))], []⟩ rfl rfl rfl rfl ?_
   refine TK.condP rfl (fun h4 => ?_) (fun h4 => ?_)
   ·
    refine na ⟨[(0, vL eC l), (6, vI d), (24, vL eC l), (25, vI l.length), (26, vI k)], []⟩ rfl rfl rfl rfl rfl ?_
    refine RO (B.idx (z := z3) (i := k) rfl rfl un82 sz116 (fun _ => rfl) rfl (by omega)) ?_
    refine RO (B.loadA (ds := [pS (bsO (List.getD l k z3).1), pS (bsO (List.getD l k z3).2.1), pI (List.getD l k z3).2.2]) rfl ag116 sz116 (nB rfl) rfl) ?_
    refine rn rfl ?_
    refine rn rfl ?_
    refine zn ⟨[(0, vL eC l), (6, vI d), (8, .bref 9 0), (24, vL eC l), (25, vI l.length), (26, vI k)], [(9, bC 116 (List.getD l k z3))]⟩ rfl rfl rfl rfl rfl ?_
    refine RO (B.fadB rfl fa116_0 rfl) ?_
    refine RO (B.loadB rfl rfl rfl ag9 sz9 rfl) ?_
    refine zn ⟨[(0, vL eC l), (6, vI d), (24, vL eC l), (25, vI l.length), (26, vI k), (31, vS (bsO (List.getD l k z3).1))], []⟩ rfl rfl rfl rfl rfl ?_
    refine RO (B.seqB (a := (List.getD l k z3).1) (b := [114, 101, 112, 101, 97, 116]) rfl rfl) ?_
    refine ag rfl ?_
    refine tz ⟨[(0, vL eC l), (6, vI d), (24, vL eC l), (25, vI l.length), (26, vI k), (31, vS (bsO (List.getD l k z3).1)), (32, vB (decide ((List.getD l k z3).1 = [114, 101, 112, 101, 97, 116])))], []⟩ rfl rfl rfl rfl ?_
    refine TK.condP rfl (fun h5 => ?_) (fun h5 => ?_)
    ·
     refine na ⟨[(0, vL eC l), (6, vI d), (24, vL eC l), (25, vI l.length), (26, vI k)], []⟩ rfl rfl rfl rfl rfl ?_
     refine mv rfl ?_
     refine RO (B.eql rfl rfl) ?_
     refine tz ⟨[(0, vL eC l), (6, vI d), (24, vL eC l), (25, vI l.length), (26, vI k), (35, vB (decide ((d : Int) = 4)))], []⟩ rfl rfl rfl rfl ?_
     refine TK.condP rfl (fun h6 => ?_) (fun h6 => ?_)
     ·
      refine na ⟨[], []⟩ rfl rfl rfl rfl rfl ?_
      refine ag rfl ?_
      refine ra rfl ?_
      refine lf ?_
      refine leaf (val0 := vI 22) (by kernel_rfl) ?_
      exact li (by (exact (chkS_dep h1 hb0 (hI1.2.2.trans ((dep_rep (by omega) (by assumption)).trans (if_pos (by omega)))) (by decide)).symm))
     ·
      refine na ⟨[(0, vL eC l), (6, vI d), (24, vL eC l), (25, vI l.length), (26, vI k)], []⟩ rfl rfl rfl rfl rfl ?_
      refine mv rfl ?_
      refine RO (B.add rfl rfl (by unfold R64; omega)) ?_
      refine ag rfl ?_
      refine zn ⟨[(0, vL eC l), (6, vI ((d : Int) + 1)), (24, vL eC l), (25, vI l.length), (26, vI k)], []⟩ rfl rfl rfl rfl rfl ?_
      refine RO (B.add rfl rfl (by unfold R64; omega)) ?_
      refine mv rfl ?_
      refine RN ?_
      refine Aq rfl ?_
      refine PK.lp ?_
      refine LP.mk ((k + 1), (d + 1)) ?_ ?_ (sb rfl rfl rfl)
      · show (k + 1) ≤ l.length ∧ (d + 1) ≤ 4 ∧ depC 0 l = depC (d + 1) (List.drop (k + 1) l)
        exact ⟨by omega, by omega, hI1.2.2.trans ((dep_rep (by omega) (by assumption)).trans (if_neg (by omega)))⟩
      · show l.length - (k + 1) < l.length - k
        omega
    ·
     refine na ⟨[(0, vL eC l), (6, vI d), (24, vL eC l), (25, vI l.length), (26, vI k), (31, vS (bsO (List.getD l k z3).1))], []⟩ rfl rfl rfl rfl rfl ?_
     refine RO (B.seqB (a := (List.getD l k z3).1) (b := [101, 110, 100]) rfl rfl) ?_
     refine ag rfl ?_
     refine tz ⟨[(0, vL eC l), (6, vI d), (24, vL eC l), (25, vI l.length), (26, vI k), (38, vB (decide ((List.getD l k z3).1 = [101, 110, 100])))], []⟩ rfl rfl rfl rfl ?_
     refine TK.condP rfl (fun h7 => ?_) (fun h7 => ?_)
     ·
      refine na ⟨[(0, vL eC l), (6, vI d), (24, vL eC l), (25, vI l.length), (26, vI k)], []⟩ rfl rfl rfl rfl rfl ?_
      refine mv rfl ?_
      refine RO (B.eql rfl rfl) ?_
      refine tz ⟨[(0, vL eC l), (6, vI d), (24, vL eC l), (25, vI l.length), (26, vI k), (41, vB (decide ((d : Int) = 0)))], []⟩ rfl rfl rfl rfl ?_
      refine TK.condP rfl (fun h8 => ?_) (fun h8 => ?_)
      ·
       refine na ⟨[], []⟩ rfl rfl rfl rfl rfl ?_
       refine ag rfl ?_
       refine ra rfl ?_
       refine lf ?_
       refine leaf (val0 := vI 2) (by kernel_rfl) ?_
       exact li (by (exact (chkS_dep h1 hb0 (hI1.2.2.trans ((dep_end (by omega) (by assumption)).trans (if_pos (by omega)))) (by decide)).symm))
      ·
       refine na ⟨[(0, vL eC l), (6, vI d), (24, vL eC l), (25, vI l.length), (26, vI k)], []⟩ rfl rfl rfl rfl rfl ?_
       refine mv rfl ?_
       refine RO (B.sub rfl rfl (by unfold R64; omega)) ?_
       refine ag rfl ?_
       refine tz ⟨[(0, vL eC l), (6, vI ((d : Int) - 1)), (24, vL eC l), (25, vI l.length), (26, vI k)], []⟩ rfl rfl rfl rfl ?_
       rw [show (d : Int) - 1 = (((d - 1) : Nat) : Int) by omega]
       refine TK.rg (Y := tab) mixed rfl ?_
       refine RO (B.add rfl rfl (by unfold R64; omega)) ?_
       refine mv rfl ?_
       refine RN ?_
       refine Aq rfl ?_
       refine PK.lp ?_
       refine LP.mk ((k + 1), (d - 1)) ?_ ?_ (sb rfl rfl rfl)
       · show (k + 1) ≤ l.length ∧ (d - 1) ≤ 4 ∧ depC 0 l = depC (d - 1) (List.drop (k + 1) l)
         exact ⟨by omega, by omega, hI1.2.2.trans ((dep_end (by omega) (by assumption)).trans (if_neg (by omega)))⟩
       · show l.length - (k + 1) < l.length - k
         omega
     ·
      refine na ⟨[(0, vL eC l), (6, vI d), (24, vL eC l), (25, vI l.length), (26, vI k)], []⟩ rfl rfl rfl rfl rfl ?_
      refine RO (B.add rfl rfl (by unfold R64; omega)) ?_
      refine mv rfl ?_
      refine RN ?_
      refine Aq rfl ?_
      refine PK.lp ?_
      refine LP.mk ((k + 1), d) ?_ ?_ (sb rfl rfl rfl)
      · show (k + 1) ≤ l.length ∧ d ≤ 4 ∧ depC 0 l = depC d (List.drop (k + 1) l)
        exact ⟨by omega, by omega, hI1.2.2.trans (dep_one (by omega) (by assumption) (by assumption))⟩
      · show l.length - (k + 1) < l.length - k
        omega
   ·
    refine At rfl ?_
    refine TK.exit ?_
    refine PK.exit rfl ?_
    refine Ap rfl ?_
    refine tn ⟨[(0, vL eC l), (6, vI d)], []⟩ rfl rfl rfl ?_
    have hd0 : depC 0 l = if 0 < d then 2 else 0 := hI1.2.2.trans (dep_nil (by omega))
    refine TK.rg (Y := tab) mixed rfl ?_
    refine mv rfl ?_
    refine RO (B.gtr rfl rfl) ?_
    refine tz ⟨[(0, vL eC l), (46, vB (decide (0 < (d : Int))))], []⟩ rfl rfl rfl rfl ?_
    refine TK.condP rfl (fun h9 => ?_) (fun h9 => ?_)
    ·
     refine na ⟨[], []⟩ rfl rfl rfl rfl rfl ?_
     refine ag rfl ?_
     refine ra rfl ?_
     refine lf ?_
     refine leaf (val0 := vI 2) (by kernel_rfl) ?_
     exact li (by (exact (chkS_dep h1 hb0 (hd0.trans (if_pos (by omega))) (by decide)).symm))
    ·
     refine ta ⟨[(0, vL eC l)], []⟩ rfl rfl rfl rfl ?_
     have hd : depC 0 l = 0 := hd0.trans (if_neg (by omega))
     refine TK.rg (Y := tab) mixed rfl ?_
     refine mv rfl ?_
     refine RO (B.call (w137 l hc (by omega) hd) rfl rfl rfl) ?_
     refine RO (B.gtr rfl rfl) ?_
     refine RO (B.call (w101 (decide (10000 < (lenP l))) 22) rfl rfl rfl) ?_
     refine ag rfl ?_
     refine ra rfl ?_
     refine lf ?_
     refine leaf (val0 := vI (whenF (decide (10000 < (lenP l))) 22)) (by kernel_rfl) ?_
     exact li (by (exact (chkS_len h1 hb0 hd).symm))
theorem w56 (l : List Cmd) (hl : l.length ≤ 1000000000000000) : CallOk Tryz.prog 56 [vL eC l] (lookM []) (vI (chkS l)) [] := by
 refine cO qf56 rfl (nB rfl) rfl ?_
 refine na ⟨[(0, vL eC l)], []⟩ rfl rfl rfl rfl rfl ?_
 refine ag rfl ?_
 refine zn ⟨[(0, vL eC l)], []⟩ rfl rfl rfl rfl rfl ?_
 refine mv rfl ?_
 refine RO (B.lenL rfl un83) ?_
 refine RO (B.gtr rfl rfl) ?_
 refine tz ⟨[(0, vL eC l), (9, vB (decide (64 < (l.length : Int))))], []⟩ rfl rfl rfl rfl ?_
 refine TK.condP rfl (fun h1 => ?_) (fun h1 => ?_)
 ·
  refine na ⟨[], []⟩ rfl rfl rfl rfl rfl ?_
  refine ag rfl ?_
  refine ra rfl ?_
  refine lf ?_
  refine leaf (val0 := vI 5) (by kernel_rfl) ?_
  exact li (by (exact (chkS_many h1).symm))
 ·
  refine na ⟨[(0, vL eC l)], []⟩ rfl rfl rfl rfl rfl ?_
  refine ag rfl ?_
  refine ra rfl ?_
  refine TK.loop (α := Nat) (fun x => ⟨[(0, vL eC l), (3, vI x)], []⟩) (fun x => x ≤ l.length ∧ badC l = badC (List.drop x l)) (fun x => l.length - x) 0 ?_ (sb rfl rfl rfl) ?_
  · show 0 ≤ l.length ∧ badC l = badC (List.drop 0 l)
    exact ⟨Nat.zero_le _, rfl⟩
  rintro k hI0
  replace hI0 : k ≤ l.length ∧ badC l = badC (List.drop k l) := hI0
  show TK _ _ _ _ _ _ ⟨[(0, vL eC l), (3, vI k)], []⟩
  refine na ⟨[(0, vL eC l), (3, vI k)], []⟩ rfl rfl rfl rfl rfl ?_
  refine mv rfl ?_
  refine mv rfl ?_
  refine RO (B.lenL rfl un83) ?_
  refine RO (B.lss rfl rfl) ?_
  refine tz ⟨[(0, vL eC l), (3, vI k), (13, vB (decide ((k : Int) < (l.length : Int))))], []⟩ rfl rfl rfl rfl ?_
  refine TK.condP rfl (fun h2 => ?_) (fun h2 => ?_)
  ·
   refine na ⟨[(0, vL eC l), (3, vI k)], []⟩ rfl rfl rfl rfl rfl ?_
   refine mv rfl ?_
   refine mv rfl ?_
   refine RO (B.idx (z := z3) (i := k) rfl rfl un83 sz115 (fun _ => rfl) rfl (by omega)) ?_
   refine RO (B.loadA (ds := [pS (bsO (List.getD l k z3).1), pS (bsO (List.getD l k z3).2.1), pI (List.getD l k z3).2.2]) rfl ag115 sz115 (nB rfl) rfl) ?_
   refine RO (B.call (w130 (List.getD l k z3)) rfl rfl rfl) ?_
   refine ag rfl ?_
   refine zn ⟨[(0, vL eC l), (3, vI k), (4, vI (chkC (List.getD l k z3)))], []⟩ rfl rfl rfl rfl rfl ?_
   refine mv rfl ?_
   refine RO (B.neq rfl rfl) ?_
   refine tz ⟨[(0, vL eC l), (3, vI k), (4, vI (chkC (List.getD l k z3))), (22, vB (decide ((chkC (List.getD l k z3)) ≠ 0)))], []⟩ rfl rfl rfl rfl ?_
   refine TK.condP rfl (fun h3 => ?_) (fun h3 => ?_)
   ·
    refine na ⟨[(4, vI (chkC (List.getD l k z3)))], []⟩ rfl rfl rfl rfl rfl ?_
    refine mv rfl ?_
    refine ag rfl ?_
    refine ra rfl ?_
    refine lf ?_
    refine leaf (val0 := vI (chkC (List.getD l k z3))) (by kernel_rfl) ?_
    exact li (by (exact (chkS_bad h1 (hI0.2.trans (badC_no (by omega) h3)) h3).symm))
   ·
    refine na ⟨[(0, vL eC l), (3, vI k)], []⟩ rfl rfl rfl rfl rfl ?_
    refine mv rfl ?_
    refine RO (B.add rfl rfl (by unfold R64; omega)) ?_
    refine ag rfl ?_
    refine RN ?_
    refine Aq rfl ?_
    refine PK.lp ?_
    refine LP.mk (k + 1) ?_ ?_ (sb rfl rfl rfl)
    · show (k + 1) ≤ l.length ∧ badC l = badC (List.drop (k + 1) l)
      exact ⟨by omega, hI0.2.trans (badC_ok (by omega) (Decidable.not_not.1 h3))⟩
    · show l.length - (k + 1) < l.length - k
      omega
  ·
   refine At rfl ?_
   refine TK.exit ?_
   refine PK.exit rfl ?_
   refine Ap rfl ?_
   refine tn ⟨[(0, vL eC l)], []⟩ rfl rfl rfl ?_
   have hb0 : badC l = 0 := hI0.2.trans (bad_end (by omega))
   have hc := badC_all hb0
   refine TK.rg (Y := tab) mixed rfl ?_
   refine ag rfl ?_
   refine zn ⟨[(0, vL eC l), (5, vI 0)], []⟩ rfl rfl rfl rfl rfl ?_
   refine ag rfl ?_
   refine ra rfl ?_
   refine TK.loop (α := Nat × Nat) (fun x => ⟨[(0, vL eC l), (5, vI ((x.2 : Nat) : Int)), (6, vI ((x.1 : Nat) : Int))], []⟩) (fun x => x.1 ≤ l.length ∧ x.2 ≤ 4 ∧ depC 0 l = depC x.2 (List.drop x.1 l)) (fun x => l.length - x.1) (0, 0) ?_ (sb rfl rfl rfl) ?_
   · show 0 ≤ l.length ∧ 0 ≤ 4 ∧ depC 0 l = depC 0 (List.drop 0 l)
     exact ⟨Nat.zero_le _, by omega, rfl⟩
   rintro ⟨k, d⟩ hI1
   replace hI1 : k ≤ l.length ∧ d ≤ 4 ∧ depC 0 l = depC d (List.drop k l) := hI1
   show TK _ _ _ _ _ _ ⟨[(0, vL eC l), (5, vI d), (6, vI k)], []⟩
   refine na ⟨[(0, vL eC l), (5, vI d), (6, vI k)], []⟩ rfl rfl rfl rfl rfl ?_
   refine mv rfl ?_
   refine mv rfl ?_
   refine RO (B.lenL rfl un83) ?_
   refine RO (B.lss rfl rfl) ?_
   refine tz ⟨[(0, vL eC l), (5, vI d), (6, vI k), (27, vB (decide ((k : Int) < (l.length : Int))))], []⟩ rfl rfl rfl rfl ?_
   refine TK.condP rfl (fun h4 => ?_) (fun h4 => ?_)
   ·
    refine na ⟨[(0, vL eC l), (5, vI d), (6, vI k)], []⟩ rfl rfl rfl rfl rfl ?_
    refine mv rfl ?_
    refine mv rfl ?_
    refine RO (B.idx (z := z3) (i := k) rfl rfl un83 sz115 (fun _ => rfl) rfl (by omega)) ?_
    refine RO (B.fadP rfl fa115_0 rfl) ?_
    refine RO (B.loadP rfl ag9 sz9) ?_
    refine RO (B.seqB (a := (List.getD l k z3).1) (b := [101, 110, 100]) rfl rfl) ?_
    refine tz ⟨[(0, vL eC l), (5, vI d), (6, vI k), (35, vB (decide ((List.getD l k z3).1 = [101, 110, 100])))], []⟩ rfl rfl rfl rfl ?_
    refine TK.condP rfl (fun h5 => ?_) (fun h5 => ?_)
    ·
     refine na ⟨[(0, vL eC l), (5, vI d), (6, vI k)], []⟩ rfl rfl rfl rfl rfl ?_
     refine mv rfl ?_
     refine RO (B.eql rfl rfl) ?_
     refine tz ⟨[(0, vL eC l), (5, vI d), (6, vI k), (37, vB (decide ((d : Int) = 0)))], []⟩ rfl rfl rfl rfl ?_
     refine TK.condP rfl (fun h6 => ?_) (fun h6 => ?_)
     ·
      refine na ⟨[], []⟩ rfl rfl rfl rfl rfl ?_
      refine ag rfl ?_
      refine ra rfl ?_
      refine lf ?_
      refine leaf (val0 := vI 2) (by kernel_rfl) ?_
      exact li (by (exact (chkS_dep h1 hb0 (hI1.2.2.trans ((dep_end (by omega) (by assumption)).trans (if_pos (by omega)))) (by decide)).symm))
     ·
      refine na ⟨[(0, vL eC l), (5, vI d), (6, vI k)], []⟩ rfl rfl rfl rfl rfl ?_
      refine mv rfl ?_
      refine RO (B.sub rfl rfl (by unfold R64; omega)) ?_
      refine ag rfl ?_
      refine tz ⟨[(0, vL eC l), (5, vI ((d : Int) - 1)), (6, vI k)], []⟩ rfl rfl rfl rfl ?_
      rw [show (d : Int) - 1 = (((d - 1) : Nat) : Int) by omega]
      refine TK.rg (Y := tab) mixed rfl ?_
      refine mv rfl ?_
      refine mv rfl ?_
      refine RO (B.idx (z := z3) (i := k) rfl rfl un83 sz115 (fun _ => rfl) rfl (by omega)) ?_
      refine RO (B.fadP rfl fa115_0 rfl) ?_
      refine RO (B.loadP rfl ag9 sz9) ?_
      refine RO (B.seqB (a := (List.getD l k z3).1) (b := [114, 101, 112, 101, 97, 116]) rfl rfl) ?_
      refine tz ⟨[(0, vL eC l), (5, vI (((d - 1) : Nat) : Int)), (6, vI k), (45, vB (decide ((List.getD l k z3).1 = [114, 101, 112, 101, 97, 116])))], []⟩ rfl rfl rfl rfl ?_
      refine TK.condP rfl (fun h7 => ?_) (fun h7 => ?_)
      ·
       refine na ⟨[(0, vL eC l), (5, vI (((d - 1) : Nat) : Int)), (6, vI k)], []⟩ rfl rfl rfl rfl rfl ?_
       refine mv rfl ?_
       refine RO (B.eql rfl rfl) ?_
       refine tz ⟨[(0, vL eC l), (5, vI (((d - 1) : Nat) : Int)), (6, vI k), (47, vB (decide ((((d - 1) : Nat) : Int) = 4)))], []⟩ rfl rfl rfl rfl ?_
       refine TK.condP rfl (fun h8 => ?_) (fun h8 => ?_)
       ·
        refine na ⟨[], []⟩ rfl rfl rfl rfl rfl ?_
        refine ag rfl ?_
        refine ra rfl ?_
        refine lf ?_
        refine leaf (val0 := vI 22) (by kernel_rfl) ?_
        exact li (by (exact (chkS_dep h1 hb0 (hI1.2.2.trans ((dep_rep (by omega) (by assumption)).trans (if_pos (by omega)))) (by decide)).symm))
       ·
        refine na ⟨[(0, vL eC l), (5, vI (((d - 1) : Nat) : Int)), (6, vI k)], []⟩ rfl rfl rfl rfl rfl ?_
        refine mv rfl ?_
        refine RO (B.add rfl rfl (by unfold R64; omega)) ?_
        refine ag rfl ?_
        refine zn ⟨[(0, vL eC l), (5, vI ((((d - 1) : Nat) : Int) + 1)), (6, vI k)], []⟩ rfl rfl rfl rfl rfl ?_
        refine mv rfl ?_
        refine RO (B.add rfl rfl (by unfold R64; omega)) ?_
        refine ag rfl ?_
        refine RN ?_
        refine Aq rfl ?_
        refine PK.lp ?_
        refine LP.mk ((k + 1), ((d - 1) + 1)) ?_ ?_ (sb rfl rfl rfl)
        · show (k + 1) ≤ l.length ∧ ((d - 1) + 1) ≤ 4 ∧ depC 0 l = depC ((d - 1) + 1) (List.drop (k + 1) l)
          exact absurd (Eq.trans (Eq.symm (by assumption)) (by assumption)) rep_end
        · show l.length - (k + 1) < l.length - k
          omega
      ·
       refine na ⟨[(0, vL eC l), (5, vI (((d - 1) : Nat) : Int)), (6, vI k)], []⟩ rfl rfl rfl rfl rfl ?_
       refine mv rfl ?_
       refine RO (B.add rfl rfl (by unfold R64; omega)) ?_
       refine ag rfl ?_
       refine RN ?_
       refine Aq rfl ?_
       refine PK.lp ?_
       refine LP.mk ((k + 1), (d - 1)) ?_ ?_ (sb rfl rfl rfl)
       · show (k + 1) ≤ l.length ∧ (d - 1) ≤ 4 ∧ depC 0 l = depC (d - 1) (List.drop (k + 1) l)
         exact ⟨by omega, by omega, hI1.2.2.trans ((dep_end (by omega) (by assumption)).trans (if_neg (by omega)))⟩
       · show l.length - (k + 1) < l.length - k
         omega
    ·
     refine na ⟨[(0, vL eC l), (5, vI d), (6, vI k)], []⟩ rfl rfl rfl rfl rfl ?_
     refine mv rfl ?_
     refine mv rfl ?_
     refine RO (B.idx (z := z3) (i := k) rfl rfl un83 sz115 (fun _ => rfl) rfl (by omega)) ?_
     refine RO (B.fadP rfl fa115_0 rfl) ?_
     refine RO (B.loadP rfl ag9 sz9) ?_
     refine RO (B.seqB (a := (List.getD l k z3).1) (b := [114, 101, 112, 101, 97, 116]) rfl rfl) ?_
     refine tz ⟨[(0, vL eC l), (5, vI d), (6, vI k), (45, vB (decide ((List.getD l k z3).1 = [114, 101, 112, 101, 97, 116])))], []⟩ rfl rfl rfl rfl ?_
     refine TK.condP rfl (fun h9 => ?_) (fun h9 => ?_)
     ·
      refine na ⟨[(0, vL eC l), (5, vI d), (6, vI k)], []⟩ rfl rfl rfl rfl rfl ?_
      refine mv rfl ?_
      refine RO (B.eql rfl rfl) ?_
      refine tz ⟨[(0, vL eC l), (5, vI d), (6, vI k), (47, vB (decide ((d : Int) = 4)))], []⟩ rfl rfl rfl rfl ?_
      refine TK.condP rfl (fun h10 => ?_) (fun h10 => ?_)
      ·
       refine na ⟨[], []⟩ rfl rfl rfl rfl rfl ?_
       refine ag rfl ?_
       refine ra rfl ?_
       refine lf ?_
       refine leaf (val0 := vI 22) (by kernel_rfl) ?_
       exact li (by (exact (chkS_dep h1 hb0 (hI1.2.2.trans ((dep_rep (by omega) (by assumption)).trans (if_pos (by omega)))) (by decide)).symm))
      ·
       refine na ⟨[(0, vL eC l), (5, vI d), (6, vI k)], []⟩ rfl rfl rfl rfl rfl ?_
       refine mv rfl ?_
       refine RO (B.add rfl rfl (by unfold R64; omega)) ?_
       refine ag rfl ?_
       refine zn ⟨[(0, vL eC l), (5, vI ((d : Int) + 1)), (6, vI k)], []⟩ rfl rfl rfl rfl rfl ?_
       refine mv rfl ?_
       refine RO (B.add rfl rfl (by unfold R64; omega)) ?_
       refine ag rfl ?_
       refine RN ?_
       refine Aq rfl ?_
       refine PK.lp ?_
       refine LP.mk ((k + 1), (d + 1)) ?_ ?_ (sb rfl rfl rfl)
       · show (k + 1) ≤ l.length ∧ (d + 1) ≤ 4 ∧ depC 0 l = depC (d + 1) (List.drop (k + 1) l)
         exact ⟨by omega, by omega, hI1.2.2.trans ((dep_rep (by omega) (by assumption)).trans (if_neg (by omega)))⟩
       · show l.length - (k + 1) < l.length - k
         omega
     ·
      refine na ⟨[(0, vL eC l), (5, vI d), (6, vI k)], []⟩ rfl rfl rfl rfl rfl ?_
      refine mv rfl ?_
      refine RO (B.add rfl rfl (by unfold R64; omega)) ?_
      refine ag rfl ?_
      refine RN ?_
      refine Aq rfl ?_
      refine PK.lp ?_
      refine LP.mk ((k + 1), d) ?_ ?_ (sb rfl rfl rfl)
      · show (k + 1) ≤ l.length ∧ d ≤ 4 ∧ depC 0 l = depC d (List.drop (k + 1) l)
        exact ⟨by omega, by omega, hI1.2.2.trans (dep_one (by omega) (by assumption) (by assumption))⟩
      · show l.length - (k + 1) < l.length - k
        omega
   ·
    refine At rfl ?_
    refine TK.exit ?_
    refine PK.exit rfl ?_
    refine Ap rfl ?_
    refine tn ⟨[(0, vL eC l), (5, vI d)], []⟩ rfl rfl rfl ?_
    have hd0 : depC 0 l = if 0 < d then 2 else 0 := hI1.2.2.trans (dep_nil (by omega))
    refine TK.rg (Y := tab) mixed rfl ?_
    refine mv rfl ?_
    refine RO (B.gtr rfl rfl) ?_
    refine tz ⟨[(0, vL eC l), (51, vB (decide (0 < (d : Int))))], []⟩ rfl rfl rfl rfl ?_
    refine TK.condP rfl (fun h11 => ?_) (fun h11 => ?_)
    ·
     refine na ⟨[], []⟩ rfl rfl rfl rfl rfl ?_
     refine ag rfl ?_
     refine ra rfl ?_
     refine lf ?_
     refine leaf (val0 := vI 2) (by kernel_rfl) ?_
     exact li (by (exact (chkS_dep h1 hb0 (hd0.trans (if_pos (by omega))) (by decide)).symm))
    ·
     refine ta ⟨[(0, vL eC l)], []⟩ rfl rfl rfl rfl ?_
     have hd : depC 0 l = 0 := hd0.trans (if_neg (by omega))
     refine TK.rg (Y := tab) mixed rfl ?_
     refine mv rfl ?_
     refine RO (B.call (w61s (by omega) hc hd) rfl rfl rfl) ?_
     refine RO (B.gtr rfl rfl) ?_
     refine tz ⟨[(54, vB (decide (10000 < (lenP l))))], []⟩ rfl rfl rfl rfl ?_
     refine TK.condP rfl (fun h12 => ?_) (fun h12 => ?_)
     ·
      refine na ⟨[], []⟩ rfl rfl rfl rfl rfl ?_
      refine ag rfl ?_
      refine ra rfl ?_
      refine lf ?_
      refine leaf (val0 := vI 22) (by kernel_rfl) ?_
      exact li (by (rw [chkS_len h1 hb0 hd, whenF, decide_eq_true (by assumption)]; rfl))
     ·
      refine na ⟨[], []⟩ rfl rfl rfl rfl rfl ?_
      refine ag rfl ?_
      refine ra rfl ?_
      refine lf ?_
      refine leaf (val0 := vI 0) (by kernel_rfl) ?_
      exact li (by (rw [chkS_len h1 hb0 hd, whenF, decide_eq_false (by assumption)]; rfl))
theorem w47 (l : List Cmd) (n : Int) (hl : l.length ≤ 1000000000000000) : CallOk Tryz.prog 47 [vL eC l, vI n] (lookM []) (vB (shortS l n)) [] := by
 refine cO qf47 rfl (nB rfl) rfl ?_
 refine na ⟨[(0, vL eC l), (1, vI n)], []⟩ rfl rfl rfl rfl rfl ?_
 refine ag rfl ?_
 refine zn ⟨[(0, vL eC l), (1, vI n)], []⟩ rfl rfl rfl rfl rfl ?_
 refine mv rfl ?_
 refine RO (B.lenL rfl un83) ?_
 refine mv rfl ?_
 refine RO (B.gtr rfl rfl) ?_
 refine mv rfl ?_
 refine RS rfl (fun hc => B.move rfl) rfl ?_
 refine RS rfl (fun hc => B.lenL (ev1_gd rfl hc) un83) rfl ?_
 refine RS rfl (fun hc => B.leq (ev1_gd rfl hc) rfl) rfl ?_
 refine RO (B.pick rfl rfl rfl (gdB rfl) rfl (pick_and _)) ?_
 refine mv rfl ?_
 refine RS rfl (fun hc => B.move rfl) rfl ?_
 refine RS rfl (fun hc => B.lenL (ev1_gd rfl hc) un83) rfl ?_
 refine RS rfl (fun hc => B.gtr (ev1_gd rfl hc) rfl) rfl ?_
 refine RO (B.pick rfl rfl rfl rfl (gdB rfl) (pick_or _)) ?_
 refine tz ⟨[(0, vL eC l), (19, vB (bif (bif (decide (n < (l.length : Int))) then (decide ((l.length : Int) ≤ 64)) else false) then true else (decide (66 < (l.length : Int)))))], []⟩ rfl rfl rfl rfl ?_
 refine TK.cond rfl (fun h1 => ?_) (fun h1 => ?_)
 ·
  refine na ⟨[], []⟩ rfl rfl rfl rfl rfl ?_
  refine ag rfl ?_
  refine ra rfl ?_
  refine lf ?_
  refine leaf (val0 := vB false) (by kernel_rfl) ?_
  exact lb (by exact (ss_many h1).symm)
 ·
  refine na ⟨[(0, vL eC l)], []⟩ rfl rfl rfl rfl rfl ?_
  refine ag rfl ?_
  refine ra rfl ?_
  refine TK.loop (α := Nat) (fun x => ⟨[(0, vL eC l), (5, vI x)], []⟩) (fun x => x ≤ l.length ∧ ∀ j, j < x → (decide (List.length (List.getD l j z3).1 ≤ 40) && decide (List.length (List.getD l j z3).2.1 ≤ 40)) = true) (fun x => l.length - x) 0 ?_ (sb rfl rfl rfl) ?_
  · show 0 ≤ l.length ∧ ∀ j, j < 0 → (decide (List.length (List.getD l j z3).1 ≤ 40) && decide (List.length (List.getD l j z3).2.1 ≤ 40)) = true
    exact ⟨Nat.zero_le _, fun j hj => by omega⟩
  rintro k hI0
  replace hI0 : k ≤ l.length ∧ ∀ j, j < k → (decide (List.length (List.getD l j z3).1 ≤ 40) && decide (List.length (List.getD l j z3).2.1 ≤ 40)) = true := hI0
  show TK _ _ _ _ _ _ ⟨[(0, vL eC l), (5, vI k)], []⟩
  refine na ⟨[(0, vL eC l), (5, vI k)], []⟩ rfl rfl rfl rfl rfl ?_
  refine mv rfl ?_
  refine mv rfl ?_
  refine RO (B.lenL rfl un83) ?_
  refine RO (B.lss rfl rfl) ?_
  refine tz ⟨[(0, vL eC l), (5, vI k), (23, vB (decide ((k : Int) < (l.length : Int))))], []⟩ rfl rfl rfl rfl ?_
  refine TK.condP rfl (fun h2 => ?_) (fun h2 => ?_)
  ·
   refine na ⟨[(0, vL eC l), (5, vI k)], []⟩ rfl rfl rfl rfl rfl ?_
   refine mv rfl ?_
   refine mv rfl ?_
   refine RO (B.idx (z := z3) (i := k) rfl rfl un83 sz115 (fun _ => rfl) rfl (by omega)) ?_
   refine RO (B.fadP rfl fa115_0 rfl) ?_
   refine RO (B.loadP rfl ag9 sz9) ?_
   refine RO (B.lenB (a := (List.getD l k z3).1) rfl un9) ?_
   refine RO (B.gtr rfl rfl) ?_
   refine mv rfl ?_
   refine RS rfl (fun hc => B.move rfl) rfl ?_
   refine RS rfl (fun hc => B.move rfl) rfl ?_
   refine RS rfl (fun hc => B.idx (z := z3) (i := k) (ev1_gd rfl hc) (ev1_gd rfl hc) un83 sz115 (fun _ => rfl) rfl (by omega)) rfl ?_
   refine RS rfl (fun hc => B.fadP (ev1_gd rfl hc) fa115_1 rfl) rfl ?_
   refine RS rfl (fun hc => B.loadP (ev1_gd rfl hc) ag9 sz9) rfl ?_
   refine RS rfl (fun hc => B.lenB (a := (List.getD l k z3).2.1) (ev1_gd rfl hc) un9) rfl ?_
   refine RS rfl (fun hc => B.gtr (ev1_gd rfl hc) rfl) rfl ?_
   refine RO (B.pick rfl rfl rfl rfl (gdB rfl) (pick_or _)) ?_
   refine tz ⟨[(0, vL eC l), (5, vI k), (41, vB (bif (decide (40 < ((List.length (List.getD l k z3).1 : Nat) : Int))) then true else (decide (40 < ((List.length (List.getD l k z3).2.1 : Nat) : Int)))))], []⟩ rfl rfl rfl rfl ?_
   refine TK.cond rfl (fun h3 => ?_) (fun h3 => ?_)
   ·
    refine na ⟨[], []⟩ rfl rfl rfl rfl rfl ?_
    refine ag rfl ?_
    refine ra rfl ?_
    refine lf ?_
    refine leaf (val0 := vB false) (by kernel_rfl) ?_
    exact lb (by exact (ss_no h1 (by omega) h3).symm)
   ·
    refine na ⟨[(0, vL eC l), (5, vI k)], []⟩ rfl rfl rfl rfl rfl ?_
    refine mv rfl ?_
    refine RO (B.add rfl rfl (by unfold R64; omega)) ?_
    refine ag rfl ?_
    refine RN ?_
    refine Aq rfl ?_
    refine PK.lp ?_
    refine LP.mk (k + 1) ?_ ?_ (sb rfl rfl rfl)
    · show (k + 1) ≤ l.length ∧ ∀ j, j < (k + 1) → (decide (List.length (List.getD l j z3).1 ≤ 40) && decide (List.length (List.getD l j z3).2.1 ≤ 40)) = true
      refine ⟨by omega, fun j hj => ?_⟩; rcases Nat.lt_succ_iff_lt_or_eq.1 hj with h | h; exact hI0.2 j h; subst h; exact ss_q h3
    · show l.length - (k + 1) < l.length - k
      omega
  ·
   refine At rfl ?_
   refine TK.exit ?_
   refine PK.exit rfl ?_
   refine Ap rfl ?_
   refine nr ⟨[(0, vL eC l)], []⟩ rfl rfl rfl rfl ?_
   refine mv rfl ?_
   refine RO (B.call (w56 l (by omega)) rfl rfl rfl) ?_
   refine RO (B.neq rfl rfl) ?_
   refine mv rfl ?_
   refine RS rfl (fun hc => B.move rfl) rfl ?_
   refine RS rfl (fun hc => B.call (w61k (eqf hc)) rfl (ds1 (ev1_gd rfl hc)) rfl) rfl ?_
   refine RS rfl (fun hc => B.leq (ev1_gd rfl hc) rfl) rfl ?_
   refine RO (B.pick rfl rfl rfl rfl (gdB rfl) (pick_or _)) ?_
   refine ag rfl ?_
   refine ra rfl ?_
   refine lf ?_
   refine leaf (val0 := vB (bif (decide ((chkS l) ≠ 0)) then true else (decide ((lenP l) ≤ 400)))) (by kernel_rfl) ?_
   exact lb (by exact (ss_yes h1 fun j hj => hI0.2 j (by omega)).symm)
theorem w46 (l : List Cmd) (hl : l.length * 40 ≤ 140737488355328) : CallOk Tryz.prog 46 [vL eC l] (lookM []) (vL eC l) [] := by
 refine cO qf46 rfl (nB rfl) rfl ?_
 refine na ⟨[(0, vL eC l)], []⟩ rfl rfl rfl rfl rfl ?_
 refine RO (B.nilS (enc := eC) rfl) ?_
 refine zn ⟨[(0, vL eC l)], []⟩ rfl rfl rfl rfl rfl ?_
 refine RO (B.adopt 4 3 115 rfl rfl) ?_
 refine zn ⟨[(0, vL eC l), (3, .aref 4 0)], [(4, .arr 0 3 115 (List.map eC []))]⟩ rfl rfl rfl rfl rfl ?_
 refine mv rfl ?_
 refine RO (B.lenL rfl un82) ?_
 refine mv rfl ?_
 refine ra rfl ?_
 refine TK.loop (α := Nat × Nat × List Cmd) (fun x => ⟨[(3, .aref 4 x.2.1), (6, vL eC l), (7, vI l.length), (8, vI ((x.1 : Nat) : Int))], [(4, .arr x.2.1 3 115 (List.map eC x.2.2))]⟩) (fun x => x.1 ≤ l.length ∧ x.2.2 = List.take x.1 l) (fun x => l.length - x.1) (0, 0, []) ?_ (sb rfl rfl rfl) ?_
 · show 0 ≤ l.length ∧ [] = List.take 0 l
   exact ⟨Nat.zero_le _, rfl⟩
 rintro ⟨k, v, out⟩ hI0
 replace hI0 : k ≤ l.length ∧ out = List.take k l := hI0
 have hol : out.length ≤ k := by rw [hI0.2, List.length_take]; omega
 show TK _ _ _ _ _ _ ⟨[(3, .aref 4 v), (6, vL eC l), (7, vI l.length), (8, vI k)], [(4, .arr v 3 115 (List.map eC out))]⟩
 refine na ⟨[(3, .aref 4 v), (6, vL eC l), (7, vI l.length), (8, vI k)], [(4, .arr v 3 115 (List.map eC out))]⟩ rfl rfl rfl rfl rfl ?_
 refine RO (B.lss rfl rfl) ?_
 refine tz ⟨[(3, .aref 4 v), (6, vL eC l), (7, vI l.length), (8, vI k), (9, vB (decide ((k : Int) < (l.length : Int))))], [(4, .arr v 3 115 (List.map eC out))]⟩ rfl rfl rfl rfl ?_
 refine TK.condP rfl (fun h1 => ?_) (fun h1 => ?_)
 ·
  refine na ⟨[(3, .aref 4 v), (6, vL eC l), (7, vI l.length), (8, vI k)], [(4, .arr v 3 115 (List.map eC out))]⟩ rfl rfl rfl rfl rfl ?_
  refine RO (B.idx (z := z3) (i := k) rfl rfl un82 sz116 (fun _ => rfl) rfl (by omega)) ?_
  refine RO (B.loadA (ds := [pS (bsO (List.getD l k z3).1), pS (bsO (List.getD l k z3).2.1), pI (List.getD l k z3).2.2]) rfl ag116 sz116 (nB rfl) rfl) ?_
  refine rn rfl ?_
  refine rn rfl ?_
  refine zn ⟨[(3, .aref 4 v), (5, .bref 6 0), (6, vL eC l), (7, vI l.length), (8, vI k)], [(4, .arr v 3 115 (List.map eC out)), (6, bC 116 (List.getD l k z3))]⟩ rfl rfl rfl rfl rfl ?_
  refine rn rfl ?_
  refine RO (B.loadBA rfl rfl rfl ag116 sz116 rfl rfl) ?_
  refine RO (B.runZ (val := .pv (.slice (List.map eC [(List.getD l k z3)]))) rfl (fun l => Frz.arr l _ _ _ _ _) rfl) ?_
  refine RO (B.append rfl rfl rfl un83 in115 rfl (fun _ => rfl) by115 (by (simp only [List.length_append, List.length_cons, List.length_nil, List.length_take]; omega))) ?_
  refine rn rfl ?_
  refine zn ⟨[(3, .aref 4 (v + 1)), (6, vL eC l), (7, vI l.length), (8, vI k)], [(4, .arr (v + 1) 3 115 (List.map eC (out ++ [(List.getD l k z3)])))]⟩ rfl rfl rfl rfl rfl ?_
  refine RO (B.add rfl rfl (by unfold R64; omega)) ?_
  refine mv rfl ?_
  refine RN ?_
  refine Aq rfl ?_
  refine PK.lp ?_
  refine LP.mk ((k + 1), (v + 1), (out ++ [(List.getD l k z3)])) ?_ ?_ (sb rfl rfl rfl)
  · show (k + 1) ≤ l.length ∧ (out ++ [(List.getD l k z3)]) = List.take (k + 1) l
    refine ⟨by omega, ?_⟩; rw [hI0.2]; exact (take_cmd l k (by omega)).symm
  · show l.length - (k + 1) < l.length - k
    omega
 ·
  refine At rfl ?_
  refine TK.exit ?_
  refine PK.exit rfl ?_
  refine Ap rfl ?_
  refine tn ⟨[(3, .aref 4 v)], [(4, .arr v 3 115 (List.map eC out))]⟩ rfl rfl rfl ?_
  refine TK.frz (t := 3) rfl rfl ?_
  refine nr ⟨[(3, vL eC out)], []⟩ rfl rfl rfl rfl ?_
  refine mv rfl ?_
  refine ag rfl ?_
  refine ra rfl ?_
  refine lf ?_
  refine leaf (val0 := vL eC out) (by kernel_rfl) ?_
  exact lsl (by rw [hI0.2, List.take_of_length_le (by omega)])
end Go.Lens.Tm
end
section
namespace Go.Lens.Tm
open Go.Lens.Tb Go.Proofs
set_option linter.unusedSectionVars false
theorem wrong_b (s : LSt) : (bif (bif (bif (decide (0 < (Prod.fst (Prod.snd s)))) then (decide ((Prod.fst s) ≠ [99, 108, 111, 115, 101, 100])) else false) then true else (bif (Prod.fst (Prod.snd (Prod.snd s))) then (decide ((Prod.fst s) = [99, 108, 111, 115, 101, 100])) else false)) then true else (bif (Prod.snd (Prod.snd (Prod.snd s))) then (bif (decide ((Prod.fst s) = [111, 112, 101, 110])) then true else (decide ((Prod.fst s) = [99, 108, 111, 115, 101, 100]))) else false)) = wrongB s := by
 simp only [bif_or, bif_and, wrongB]
theorem st_one (s : LSt) : firstF [(whenF (!(List.any [[105, 100, 108, 101], [111, 112, 101, 110], [99, 108, 111, 115, 101, 100], [115, 97, 102, 101]] (fun y => decide ((Prod.fst s) = y)))) 13), (withinF (Prod.fst (Prod.snd s)) 0 2), (whenF (bif (bif (bif (decide (0 < (Prod.fst (Prod.snd s)))) then (decide ((Prod.fst s) ≠ [99, 108, 111, 115, 101, 100])) else false) then true else (bif (Prod.fst (Prod.snd (Prod.snd s))) then (decide ((Prod.fst s) = [99, 108, 111, 115, 101, 100])) else false)) then true else (bif (Prod.snd (Prod.snd (Prod.snd s))) then (bif (decide ((Prod.fst s) = [111, 112, 101, 110])) then true else (decide ((Prod.fst s) = [99, 108, 111, 115, 101, 100]))) else false)) 18)] = chkSt s := by
 rw [wrong_b]
 simp only [List.any_cons, List.any_nil, Bool.or_false]
 rfl
section
variable {s : LSt}
end
theorem take_stp (l : List Stp) (k : Nat) (h : k < l.length) : l.take (k + 1) = l.take k ++ [l.getD k (0, [])] := by
 rw [List.take_add_one, List.getElem?_eq_getElem h, List.getD_eq_getElem?_getD, List.getElem?_eq_getElem h]; rfl
theorem stp_eq {x y : Stp} (h : (!((decide ((Prod.fst x) = (Prod.fst y))) && (decide ((Prod.snd x) = (Prod.snd y))))) = false) : x = y := by
 simp only [Bool.not_eq_false', Bool.and_eq_true, decide_eq_true_eq] at h
 exact Prod.ext h.1 h.2
theorem stp_ne {x y : Stp} (h : (!((decide ((Prod.fst x) = (Prod.fst y))) && (decide ((Prod.snd x) = (Prod.snd y))))) = true) : ¬ x = y := by
 rintro rfl
 simp at h
end Go.Lens.Tm
end
section
namespace Go.Lens.Tm
open Go.Lens.Tb Go.Proofs
variable [Lz]
set_option linter.unusedSectionVars false
set_option maxHeartbeats 4000000
set_option maxRecDepth 100000
attribute [local irreducible] TK PK T RG EfR Body
theorem ag164 : aggT tab 164 = some true := by kernel_rfl
theorem ag176 : aggT tab 176 = some true := by kernel_rfl
theorem by176 : ty176.info.bytes = 24 := by kernel_rfl
theorem fa81_0 : fadQ tab 81 0 = some 0 := by kernel_rfl
theorem fa81_1 : fadQ tab 81 1 = some 1 := by kernel_rfl
theorem fa81_2 : fadQ tab 81 2 = some 2 := by kernel_rfl
theorem fa81_3 : fadQ tab 81 3 = some 3 := by kernel_rfl
theorem in176 : tab.info? 176 = some ty176.info := by kernel_rfl
theorem sz164 : szT tab 164 = some 2 := by kernel_rfl
theorem sz176 : szT tab 176 = some 2 := by kernel_rfl
theorem un86 : tab.underlying 86 = some (.slice 164) := by kernel_rfl
theorem un90 : tab.underlying 90 = some (.slice 176) := by kernel_rfl
theorem fq176 : flatEq tab 176 = some [.int (.i64), .string] := by kernel_rfl
theorem w181 (b : Bool) (e : Int) : CallOk Tryz.prog 181 [vB b, vI e] (lookM []) (vI (whenF b e)) [] := by
 refine cO qf181 rfl (nB rfl) rfl ?_
 refine na ⟨[(0, vB b), (1, vI e)], []⟩ rfl rfl rfl rfl rfl ?_
 refine ag rfl ?_
 refine zn ⟨[(0, vB b), (1, vI e)], []⟩ rfl rfl rfl rfl rfl ?_
 refine mv rfl ?_
 refine tz ⟨[(1, vI e), (5, vB b)], []⟩ rfl rfl rfl rfl ?_
 refine TK.cond rfl (fun h1 => ?_) (fun h1 => ?_)
 ·
  refine na ⟨[(1, vI e)], []⟩ rfl rfl rfl rfl rfl ?_
  refine mv rfl ?_
  refine ag rfl ?_
  refine ra rfl ?_
  refine lf ?_
  refine leaf (val0 := vI e) (by kernel_rfl) ?_
  exact li (by subst h1; rfl)
 ·
  refine na ⟨[], []⟩ rfl rfl rfl rfl rfl ?_
  refine ag rfl ?_
  refine ra rfl ?_
  refine lf ?_
  refine leaf (val0 := vI 0) (by kernel_rfl) ?_
  exact li (by subst h1; rfl)
theorem w182 (n low high : Int) : CallOk Tryz.prog 182 [vI n, vI low, vI high] (lookM []) (vI (withinF n low high)) [] := by
 refine cO qf182 rfl (nB rfl) rfl ?_
 refine na ⟨[(0, vI n), (1, vI low), (2, vI high)], []⟩ rfl rfl rfl rfl rfl ?_
 refine ag rfl ?_
 refine zn ⟨[(0, vI n), (1, vI low), (2, vI high)], []⟩ rfl rfl rfl rfl rfl ?_
 refine mv rfl ?_
 refine mv rfl ?_
 refine RO (B.lss rfl rfl) ?_
 refine mv rfl ?_
 refine RS rfl (fun hc => B.move rfl) rfl ?_
 refine RS rfl (fun hc => B.move rfl) rfl ?_
 refine RS rfl (fun hc => B.gtr (ev1_gd rfl hc) (ev1_gd rfl hc)) rfl ?_
 refine RO (B.pick rfl rfl rfl rfl (gdB rfl) (pick_or _)) ?_
 refine RO (B.call (w181 (bif (decide (n < low)) then true else (decide (high < n))) 3) rfl rfl rfl) ?_
 refine ag rfl ?_
 refine ra rfl ?_
 refine lf ?_
 refine leaf (val0 := vI (whenF (bif (decide (n < low)) then true else (decide (high < n))) 3)) (by kernel_rfl) ?_
 exact li (by simp only [withinF, outF, bif_or])
theorem w180 (l : List Int) (hl : l.length ≤ 1000000000000000) : CallOk Tryz.prog 180 [vL eI l] (lookM []) (vI (firstF l)) [] := by
 refine cO qf180 rfl (nB rfl) rfl ?_
 refine na ⟨[(0, vL eI l)], []⟩ rfl rfl rfl rfl rfl ?_
 refine ag rfl ?_
 refine zn ⟨[(0, vL eI l)], []⟩ rfl rfl rfl rfl rfl ?_
 refine mv rfl ?_
 refine RO (B.lenL rfl un289) ?_
 refine mv rfl ?_
 refine ra rfl ?_
 refine TK.loop (α := Nat) (fun x => ⟨[(5, vL eI l), (6, vI l.length), (7, vI x)], []⟩) (fun x => x ≤ l.length ∧ firstF l = firstF (List.drop x l)) (fun x => l.length - x) 0 ?_ (sb rfl rfl rfl) ?_
 · show 0 ≤ l.length ∧ firstF l = firstF (List.drop 0 l)
   exact ⟨Nat.zero_le _, rfl⟩
 rintro k hI0
 replace hI0 : k ≤ l.length ∧ firstF l = firstF (List.drop k l) := hI0
 show TK _ _ _ _ _ _ ⟨[(5, vL eI l), (6, vI l.length), (7, vI k)], []⟩
 refine na ⟨[(5, vL eI l), (6, vI l.length), (7, vI k)], []⟩ rfl rfl rfl rfl rfl ?_
 refine RO (B.lss rfl rfl) ?_
 refine tz ⟨[(5, vL eI l), (6, vI l.length), (7, vI k), (8, vB (decide ((k : Int) < (l.length : Int))))], []⟩ rfl rfl rfl rfl ?_
 refine TK.condP rfl (fun h1 => ?_) (fun h1 => ?_)
 ·
  refine na ⟨[(5, vL eI l), (6, vI l.length), (7, vI k)], []⟩ rfl rfl rfl rfl rfl ?_
  refine RO (B.idx (z := 0) (i := k) rfl rfl un289 sz34 (fun _ => rfl) rfl (by omega)) ?_
  refine RO (B.loadP rfl ag34 sz34) ?_
  refine ag rfl ?_
  refine zn ⟨[(4, vI (List.getD l k 0)), (5, vL eI l), (6, vI l.length), (7, vI k)], []⟩ rfl rfl rfl rfl rfl ?_
  refine mv rfl ?_
  refine RO (B.neq rfl rfl) ?_
  refine tz ⟨[(4, vI (List.getD l k 0)), (5, vL eI l), (6, vI l.length), (7, vI k), (12, vB (decide ((List.getD l k 0) ≠ 0)))], []⟩ rfl rfl rfl rfl ?_
  refine TK.condP rfl (fun h2 => ?_) (fun h2 => ?_)
  ·
   refine na ⟨[(4, vI (List.getD l k 0))], []⟩ rfl rfl rfl rfl rfl ?_
   refine mv rfl ?_
   refine ag rfl ?_
   refine ra rfl ?_
   refine lf ?_
   refine leaf (val0 := vI (List.getD l k 0)) (by kernel_rfl) ?_
   exact li (by (rw [hI0.2, drop_at l k 0 (by omega), firstF, if_neg (by omega)]))
  ·
   refine na ⟨[(5, vL eI l), (6, vI l.length), (7, vI k)], []⟩ rfl rfl rfl rfl rfl ?_
   refine RO (B.add rfl rfl (by unfold R64; omega)) ?_
   refine mv rfl ?_
   refine RN ?_
   refine Aq rfl ?_
   refine PK.lp ?_
   refine LP.mk (k + 1) ?_ ?_ (sb rfl rfl rfl)
   · show (k + 1) ≤ l.length ∧ firstF l = firstF (List.drop (k + 1) l)
     refine ⟨by omega, ?_⟩; rw [hI0.2, drop_at l k 0 (by omega), firstF, if_pos (by omega)]
   · show l.length - (k + 1) < l.length - k
     omega
 ·
  refine At rfl ?_
  refine TK.exit ?_
  refine PK.exit rfl ?_
  refine Ap rfl ?_
  refine nr ⟨[], []⟩ rfl rfl rfl rfl ?_
  refine ag rfl ?_
  refine ra rfl ?_
  refine lf ?_
  refine leaf (val0 := vI 0) (by kernel_rfl) ?_
  exact li (by (rw [hI0.2, List.drop_eq_nil_of_le (by omega)]; rfl))
theorem w251 (l : List (List UInt8)) (n : List UInt8) (hl : l.length ≤ 1000000000000000) : CallOk Tryz.prog 251 [vL eN l, vS (bsO n)] (lookM []) (vI (findI (fun y => decide (n = y)) l)) [] := by
 refine cO qf251 rfl (nB rfl) rfl ?_
 refine na ⟨[(0, vL eN l), (1, vS (bsO n))], []⟩ rfl rfl rfl rfl rfl ?_
 refine ag rfl ?_
 refine zn ⟨[(0, vL eN l), (1, vS (bsO n))], []⟩ rfl rfl rfl rfl rfl ?_
 refine mv rfl ?_
 refine RO (B.lenL rfl un73) ?_
 refine mv rfl ?_
 refine ra rfl ?_
 refine TK.loop (α := Nat) (fun x => ⟨[(0, vL eN l), (1, vS (bsO n)), (7, vI l.length), (8, vI x)], []⟩) (fun x => x ≤ l.length ∧ ∀ j, j < x → decide (n = List.getD l j []) = false) (fun x => l.length - x) 0 ?_ (sb rfl rfl rfl) ?_
 · show 0 ≤ l.length ∧ ∀ j, j < 0 → decide (n = List.getD l j []) = false
   exact ⟨Nat.zero_le _, fun j hj => by omega⟩
 rintro k hI0
 replace hI0 : k ≤ l.length ∧ ∀ j, j < k → decide (n = List.getD l j []) = false := hI0
 show TK _ _ _ _ _ _ ⟨[(0, vL eN l), (1, vS (bsO n)), (7, vI l.length), (8, vI k)], []⟩
 refine na ⟨[(0, vL eN l), (1, vS (bsO n)), (7, vI l.length), (8, vI k)], []⟩ rfl rfl rfl rfl rfl ?_
 refine RO (B.lss rfl rfl) ?_
 refine tz ⟨[(0, vL eN l), (1, vS (bsO n)), (7, vI l.length), (8, vI k), (9, vB (decide ((k : Int) < (l.length : Int))))], []⟩ rfl rfl rfl rfl ?_
 refine TK.condP rfl (fun h1 => ?_) (fun h1 => ?_)
 ·
  refine na ⟨[(0, vL eN l), (1, vS (bsO n)), (7, vI l.length), (8, vI k)], []⟩ rfl rfl rfl rfl rfl ?_
  refine mv rfl ?_
  refine ag rfl ?_
  refine zn ⟨[(0, vL eN l), (1, vS (bsO n)), (5, vI k), (7, vI l.length), (8, vI k)], []⟩ rfl rfl rfl rfl rfl ?_
  refine mv rfl ?_
  refine mv rfl ?_
  refine mv rfl ?_
  refine RO (B.idx (z := []) (i := k) rfl rfl un73 sz9 (fun _ => rfl) rfl (by omega)) ?_
  refine RO (B.loadP rfl ag9 sz9) ?_
  refine RO (B.seqB (a := n) (b := (List.getD l k [])) rfl rfl) ?_
  refine tz ⟨[(0, vL eN l), (1, vS (bsO n)), (5, vI k), (7, vI l.length), (8, vI k), (16, vB (decide (n = (List.getD l k []))))], []⟩ rfl rfl rfl rfl ?_
  refine TK.condP rfl (fun h2 => ?_) (fun h2 => ?_)
  ·
   refine na ⟨[(5, vI k)], []⟩ rfl rfl rfl rfl rfl ?_
   refine mv rfl ?_
   refine ag rfl ?_
   refine ra rfl ?_
   refine lf ?_
   refine leaf (val0 := vI k) (by kernel_rfl) ?_
   exact li (by exact (findI_some (p := (fun y => decide (n = y))) (l := l) (z := []) k (by omega) hI0.2 (decide_eq_true h2)).symm)
  ·
   refine na ⟨[(0, vL eN l), (1, vS (bsO n)), (7, vI l.length), (8, vI k)], []⟩ rfl rfl rfl rfl rfl ?_
   refine RO (B.add rfl rfl (by unfold R64; omega)) ?_
   refine mv rfl ?_
   refine RN ?_
   refine Aq rfl ?_
   refine PK.lp ?_
   refine LP.mk (k + 1) ?_ ?_ (sb rfl rfl rfl)
   · show (k + 1) ≤ l.length ∧ ∀ j, j < (k + 1) → decide (n = List.getD l j []) = false
     refine ⟨by omega, fun j hj => ?_⟩; rcases Nat.lt_succ_iff_lt_or_eq.1 hj with h | h; exact hI0.2 j h; subst h; exact decide_eq_false h2
   · show l.length - (k + 1) < l.length - k
     omega
 ·
  refine At rfl ?_
  refine TK.exit ?_
  refine PK.exit rfl ?_
  refine Ap rfl ?_
  refine nr ⟨[], []⟩ rfl rfl rfl rfl ?_
  refine ag rfl ?_
  refine ra rfl ?_
  refine lf ?_
  refine leaf (val0 := vI (-1)) (by kernel_rfl) ?_
  exact li (by exact (findI_none (p := (fun y => decide (n = y))) (l := l) (z := []) fun j hj => hI0.2 j (by omega)).symm)
theorem w179 (l : List (List UInt8)) (n : List UInt8) (hl : l.length ≤ 1000000000000000) : CallOk Tryz.prog 179 [vL eN l, vS (bsO n)] (lookM []) (vB (List.any l (fun y => decide (n = y)))) [] := by
 refine cO qf179 rfl (nB rfl) rfl ?_
 refine na ⟨[(0, vL eN l), (1, vS (bsO n))], []⟩ rfl rfl rfl rfl rfl ?_
 refine ag rfl ?_
 refine zn ⟨[(0, vL eN l), (1, vS (bsO n))], []⟩ rfl rfl rfl rfl rfl ?_
 refine mv rfl ?_
 refine mv rfl ?_
 refine RO (B.call (w251 l n (by omega)) rfl rfl rfl) ?_
 refine RO (B.geq rfl rfl) ?_
 refine ag rfl ?_
 refine ra rfl ?_
 refine lf ?_
 refine leaf (val0 := vB (decide (0 ≤ (findI (fun y => decide (n = y)) l)))) (by kernel_rfl) ?_
 exact lb (by exact findI_nonneg l)
theorem w123 (s : LSt) : CallOk Tryz.prog 123 [.pv (gS s)] (lookM []) (vI (chkSt s)) [] := by
 refine cO qf123 rfl (nB rfl) rfl ?_
 refine na ⟨[(0, .pv (gS s))], []⟩ rfl rfl rfl rfl rfl ?_
 refine rn rfl ?_
 refine ag rfl ?_
 refine zn ⟨[(1, .bref 2 0)], [(2, bS s)]⟩ rfl rfl rfl rfl rfl ?_
 refine RO (B.runZ (val := .pv (.slice (List.map eN [[105, 100, 108, 101], [111, 112, 101, 110], [99, 108, 111, 115, 101, 100], [115, 97, 102, 101]]))) rfl (fun l => Frz.arr l _ _ _ _ _) rfl) ?_
 refine RO (B.fadB rfl fa81_0 rfl) ?_
 refine RO (B.loadB rfl rfl rfl ag9 sz9 rfl) ?_
 refine RO (B.call (w179 [[105, 100, 108, 101], [111, 112, 101, 110], [99, 108, 111, 115, 101, 100], [115, 97, 102, 101]] s.1 (nB rfl)) rfl rfl rfl) ?_
 refine ag rfl ?_
 refine zn ⟨[(1, .bref 2 0), (3, vB (List.any [[105, 100, 108, 101], [111, 112, 101, 110], [99, 108, 111, 115, 101, 100], [115, 97, 102, 101]] (fun y => decide (s.1 = y))))], [(2, bS s)]⟩ rfl rfl rfl rfl rfl ?_
 refine RO (B.fadB rfl fa81_1 rfl) ?_
 refine RO (B.loadB rfl rfl rfl ag3 sz3 rfl) ?_
 refine RO (B.gtr rfl rfl) ?_
 refine mv rfl ?_
 refine RS rfl (fun hc => B.fadB rfl fa81_0 rfl) rfl ?_
 refine RS rfl (fun hc => B.loadB (ev1_gd rfl hc) rfl rfl ag9 sz9 rfl) rfl ?_
 refine RS rfl (fun hc => B.sneB (a := s.1) (b := [99, 108, 111, 115, 101, 100]) (ev1_gd rfl hc) rfl) rfl ?_
 refine RO (B.pick rfl rfl rfl (gdB rfl) rfl (pick_and _)) ?_
 refine mv rfl ?_
 refine RS rfl (fun hc => B.fadB rfl fa81_2 rfl) rfl ?_
 refine RS rfl (fun hc => B.loadB (ev1_gd rfl hc) rfl rfl ag4 sz4 rfl) rfl ?_
 refine RS rfl (fun hc => B.move (ev1_gd rfl hc)) rfl ?_
 refine RS rfl (fun hc => B.fadB rfl fa81_0 rfl) rfl ?_
 refine RS rfl (fun hc => B.loadB (ev1_gd rfl hc) rfl rfl ag9 sz9 rfl) rfl ?_
 refine RS rfl (fun hc => B.seqB (a := s.1) (b := [99, 108, 111, 115, 101, 100]) (ev1_gd rfl hc) rfl) rfl ?_
 refine RS rfl (fun hc => B.pick (ev1_gd rfl hc) rfl rfl (gdB rfl) rfl (pick_and2 hc)) rfl ?_
 refine RO (B.pick rfl rfl rfl rfl (gdB rfl) (pick_or _)) ?_
 refine mv rfl ?_
 refine RS rfl (fun hc => B.fadB rfl fa81_3 rfl) rfl ?_
 refine RS rfl (fun hc => B.loadB (ev1_gd rfl hc) rfl rfl ag4 sz4 rfl) rfl ?_
 refine RS rfl (fun hc => B.move (ev1_gd rfl hc)) rfl ?_
 refine RS rfl (fun hc => B.fadB rfl fa81_0 rfl) rfl ?_
 refine RS rfl (fun hc => B.loadB (ev1_gd rfl hc) rfl rfl ag9 sz9 rfl) rfl ?_
 refine RS rfl (fun hc => B.seqB (a := s.1) (b := [111, 112, 101, 110]) (ev1_gd rfl hc) rfl) rfl ?_
 refine RS rfl (fun hc => B.move (ev1_gd rfl hc)) rfl ?_
 refine RS rfl (fun hc => B.fadB rfl fa81_0 rfl) rfl ?_
 refine RS rfl (fun hc => B.loadB (ev1_gd rfl hc) rfl rfl ag9 sz9 rfl) rfl ?_
 refine RS rfl (fun hc => B.seqB (a := s.1) (b := [99, 108, 111, 115, 101, 100]) (ev1_gd rfl hc) rfl) rfl ?_
 refine RS rfl (fun hc => B.pick (ev1_gd rfl hc) rfl rfl rfl (gdB rfl) (pick_or2 hc)) rfl ?_
 refine RS rfl (fun hc => B.pick (ev1_gd rfl hc) rfl rfl (gdB rfl) rfl (pick_and2 hc)) rfl ?_
 refine RO (B.pick rfl rfl rfl rfl (gdB rfl) (pick_or _)) ?_
 refine ag rfl ?_
 refine zn ⟨[(1, .bref 2 0), (3, vB (List.any [[105, 100, 108, 101], [111, 112, 101, 110], [99, 108, 111, 115, 101, 100], [115, 97, 102, 101]] (fun y => decide (s.1 = y)))), (4, vB (bif (bif (bif (decide (0 < s.2.1)) then (decide (s.1 ≠ [99, 108, 111, 115, 101, 100])) else false) then true else (bif s.2.2.1 then (decide (s.1 = [99, 108, 111, 115, 101, 100])) else false)) then true else (bif s.2.2.2 then (bif (decide (s.1 = [111, 112, 101, 110])) then true else (decide (s.1 = [99, 108, 111, 115, 101, 100]))) else false)))], [(2, bS s)]⟩ rfl rfl rfl rfl rfl ?_
 refine mv rfl ?_
 refine RO (B.not rfl) ?_
 refine RO (B.call (w181 (!(List.any [[105, 100, 108, 101], [111, 112, 101, 110], [99, 108, 111, 115, 101, 100], [115, 97, 102, 101]] (fun y => decide (s.1 = y)))) 13) rfl rfl rfl) ?_
 refine RO (B.fadB rfl fa81_1 rfl) ?_
 refine RO (B.loadB rfl rfl rfl ag3 sz3 rfl) ?_
 refine RO (B.call (w182 s.2.1 0 2) rfl rfl rfl) ?_
 refine mv rfl ?_
 refine RO (B.call (w181 (bif (bif (bif (decide (0 < s.2.1)) then (decide (s.1 ≠ [99, 108, 111, 115, 101, 100])) else false) then true else (bif s.2.2.1 then (decide (s.1 = [99, 108, 111, 115, 101, 100])) else false)) then true else (bif s.2.2.2 then (bif (decide (s.1 = [111, 112, 101, 110])) then true else (decide (s.1 = [99, 108, 111, 115, 101, 100]))) else false)) 18) rfl rfl rfl) ?_
 refine RO (B.runZ (val := .pv (.slice (List.map eI [(whenF (!(List.any [[105, 100, 108, 101], [111, 112, 101, 110], [99, 108, 111, 115, 101, 100], [115, 97, 102, 101]] (fun y => decide (s.1 = y)))) 13), (withinF s.2.1 0 2), (whenF (bif (bif (bif (decide (0 < s.2.1)) then (decide (s.1 ≠ [99, 108, 111, 115, 101, 100])) else false) then true else (bif s.2.2.1 then (decide (s.1 = [99, 108, 111, 115, 101, 100])) else false)) then true else (bif s.2.2.2 then (bif (decide (s.1 = [111, 112, 101, 110])) then true else (decide (s.1 = [99, 108, 111, 115, 101, 100]))) else false)) 18)]))) rfl (fun l => Frz.arr l _ _ _ _ _) rfl) ?_
 refine RO (B.call (w180 [(whenF (!(List.any [[105, 100, 108, 101], [111, 112, 101, 110], [99, 108, 111, 115, 101, 100], [115, 97, 102, 101]] (fun y => decide (s.1 = y)))) 13), (withinF s.2.1 0 2), (whenF (bif (bif (bif (decide (0 < s.2.1)) then (decide (s.1 ≠ [99, 108, 111, 115, 101, 100])) else false) then true else (bif s.2.2.1 then (decide (s.1 = [99, 108, 111, 115, 101, 100])) else false)) then true else (bif s.2.2.2 then (bif (decide (s.1 = [111, 112, 101, 110])) then true else (decide (s.1 = [99, 108, 111, 115, 101, 100]))) else false)) 18)] (nB rfl)) rfl rfl rfl) ?_
 refine ag rfl ?_
 refine RG.nil (fun _ => by kernel_rfl) ?_
 refine Ap rfl ?_
 refine lf ?_
 refine leaf (val0 := vI (firstF [(whenF (!(List.any [[105, 100, 108, 101], [111, 112, 101, 110], [99, 108, 111, 115, 101, 100], [115, 97, 102, 101]] (fun y => decide (s.1 = y)))) 13), (withinF s.2.1 0 2), (whenF (bif (bif (bif (decide (0 < s.2.1)) then (decide (s.1 ≠ [99, 108, 111, 115, 101, 100])) else false) then true else (bif s.2.2.1 then (decide (s.1 = [99, 108, 111, 115, 101, 100])) else false)) then true else (bif s.2.2.2 then (bif (decide (s.1 = [111, 112, 101, 110])) then true else (decide (s.1 = [99, 108, 111, 115, 101, 100]))) else false)) 18)])) (by kernel_rfl) ?_
 exact li (by exact st_one s)
theorem w51 (l : List Stp) (hl : l.length * 24 ≤ 140737488355328) : CallOk Tryz.prog 51 [vL eP l] (lookM []) (vL eP l) [] := by
 refine cO qf51 rfl (nB rfl) rfl ?_
 refine na ⟨[(0, vL eP l)], []⟩ rfl rfl rfl rfl rfl ?_
 refine RO (B.nilS (enc := eP) rfl) ?_
 refine zn ⟨[(0, vL eP l)], []⟩ rfl rfl rfl rfl rfl ?_
 refine RO (B.adopt 4 2 176 rfl rfl) ?_
 refine zn ⟨[(0, vL eP l), (3, .aref 4 0)], [(4, .arr 0 2 176 (List.map eP []))]⟩ rfl rfl rfl rfl rfl ?_
 refine mv rfl ?_
 refine RO (B.lenL rfl un86) ?_
 refine mv rfl ?_
 refine ra rfl ?_
 refine TK.loop (α := Nat × Nat × List Stp) (fun x => ⟨[(3, .aref 4 x.2.1), (6, vL eP l), (7, vI l.length), (8, vI ((x.1 : Nat) : Int))], [(4, .arr x.2.1 2 176 (List.map eP x.2.2))]⟩) (fun x => x.1 ≤ l.length ∧ x.2.2 = List.take x.1 l) (fun x => l.length - x.1) (0, 0, []) ?_ (sb rfl rfl rfl) ?_
 · show 0 ≤ l.length ∧ [] = List.take 0 l
   exact ⟨Nat.zero_le _, rfl⟩
 rintro ⟨k, v, out⟩ hI0
 replace hI0 : k ≤ l.length ∧ out = List.take k l := hI0
 have hol : out.length ≤ k := by rw [hI0.2, List.length_take]; omega
 show TK _ _ _ _ _ _ ⟨[(3, .aref 4 v), (6, vL eP l), (7, vI l.length), (8, vI k)], [(4, .arr v 2 176 (List.map eP out))]⟩
 refine na ⟨[(3, .aref 4 v), (6, vL eP l), (7, vI l.length), (8, vI k)], [(4, .arr v 2 176 (List.map eP out))]⟩ rfl rfl rfl rfl rfl ?_
 refine RO (B.lss rfl rfl) ?_
 refine tz ⟨[(3, .aref 4 v), (6, vL eP l), (7, vI l.length), (8, vI k), (9, vB (decide ((k : Int) < (l.length : Int))))], [(4, .arr v 2 176 (List.map eP out))]⟩ rfl rfl rfl rfl ?_
 refine TK.condP rfl (fun h1 => ?_) (fun h1 => ?_)
 ·
  refine na ⟨[(3, .aref 4 v), (6, vL eP l), (7, vI l.length), (8, vI k)], [(4, .arr v 2 176 (List.map eP out))]⟩ rfl rfl rfl rfl rfl ?_
  refine RO (B.idx (z := (0, [])) (i := k) rfl rfl un86 sz164 (fun _ => rfl) rfl (by omega)) ?_
  refine RO (B.loadA (ds := [pI (List.getD l k (0, [])).1, pS (bsO (List.getD l k (0, [])).2)]) rfl ag164 sz164 (nB rfl) rfl) ?_
  refine rn rfl ?_
  refine rn rfl ?_
  refine zn ⟨[(3, .aref 4 v), (5, .bref 6 0), (6, vL eP l), (7, vI l.length), (8, vI k)], [(4, .arr v 2 176 (List.map eP out)), (6, .box 164 [vI (List.getD l k (0, [])).1, vS (bsO (List.getD l k (0, [])).2)])]⟩ rfl rfl rfl rfl rfl ?_
  refine rn rfl ?_
  refine RO (B.loadBA rfl rfl rfl ag164 sz164 rfl rfl) ?_
  refine RO (B.runZ (val := .pv (.slice (List.map eP [(List.getD l k (0, []))]))) rfl (fun l => Frz.arr l _ _ _ _ _) rfl) ?_
  refine RO (B.append rfl rfl rfl un90 in176 rfl (fun _ => rfl) by176 (by (simp only [List.length_append, List.length_cons, List.length_nil, List.length_take]; omega))) ?_
  refine rn rfl ?_
  refine zn ⟨[(3, .aref 4 (v + 1)), (6, vL eP l), (7, vI l.length), (8, vI k)], [(4, .arr (v + 1) 2 176 (List.map eP (out ++ [(List.getD l k (0, []))])))]⟩ rfl rfl rfl rfl rfl ?_
  refine RO (B.add rfl rfl (by unfold R64; omega)) ?_
  refine mv rfl ?_
  refine RN ?_
  refine Aq rfl ?_
  refine PK.lp ?_
  refine LP.mk ((k + 1), (v + 1), (out ++ [(List.getD l k (0, []))])) ?_ ?_ (sb rfl rfl rfl)
  · show (k + 1) ≤ l.length ∧ (out ++ [(List.getD l k (0, []))]) = List.take (k + 1) l
    refine ⟨by omega, ?_⟩; rw [hI0.2]; exact (take_stp l k (by omega)).symm
  · show l.length - (k + 1) < l.length - k
    omega
 ·
  refine At rfl ?_
  refine TK.exit ?_
  refine PK.exit rfl ?_
  refine Ap rfl ?_
  refine tn ⟨[(3, .aref 4 v)], [(4, .arr v 2 176 (List.map eP out))]⟩ rfl rfl rfl ?_
  refine TK.frz (t := 3) rfl rfl ?_
  refine nr ⟨[(3, vL eP out)], []⟩ rfl rfl rfl rfl ?_
  refine mv rfl ?_
  refine ag rfl ?_
  refine ra rfl ?_
  refine lf ?_
  refine leaf (val0 := vL eP out) (by kernel_rfl) ?_
  exact lsl (by rw [hI0.2, List.take_of_length_le (by omega)])
theorem w50 (a b : List Stp) (hl : a.length ≤ 1000000000000000) : CallOk Tryz.prog 50 [vL eP a, vL eP b] (lookM []) (vB (decide (a = b))) [] := by
 refine cO qf50 rfl (nB rfl) rfl ?_
 refine na ⟨[(0, vL eP a), (1, vL eP b)], []⟩ rfl rfl rfl rfl rfl ?_
 refine ag rfl ?_
 refine zn ⟨[(0, vL eP a), (1, vL eP b)], []⟩ rfl rfl rfl rfl rfl ?_
 refine mv rfl ?_
 refine RO (B.lenL rfl un90) ?_
 refine mv rfl ?_
 refine RO (B.lenL rfl un90) ?_
 refine RO (B.neq rfl rfl) ?_
 refine tz ⟨[(0, vL eP a), (1, vL eP b), (10, vB (decide ((a.length : Int) ≠ (b.length : Int))))], []⟩ rfl rfl rfl rfl ?_
 refine TK.condP rfl (fun h1 => ?_) (fun h1 => ?_)
 ·
  refine na ⟨[], []⟩ rfl rfl rfl rfl rfl ?_
  refine ag rfl ?_
  refine ra rfl ?_
  refine lf ?_
  refine leaf (val0 := vB false) (by kernel_rfl) ?_
  exact lb (by exact (decide_eq_false fun e => by subst e; omega).symm)
 ·
  refine na ⟨[(0, vL eP a), (1, vL eP b)], []⟩ rfl rfl rfl rfl rfl ?_
  refine ag rfl ?_
  refine ra rfl ?_
  refine TK.loop (α := Nat) (fun x => ⟨[(0, vL eP a), (1, vL eP b), (5, vI x)], []⟩) (fun x => x ≤ a.length ∧ a.length = b.length ∧ ∀ j, j < x → List.getD a j (0, []) = List.getD b j (0, [])) (fun x => a.length - x) 0 ?_ (sb rfl rfl rfl) ?_
  · show 0 ≤ a.length ∧ a.length = b.length ∧ ∀ j, j < 0 → List.getD a j (0, []) = List.getD b j (0, [])
    exact ⟨Nat.zero_le _, by omega, fun j hj => by omega⟩
  rintro k hI0
  replace hI0 : k ≤ a.length ∧ a.length = b.length ∧ ∀ j, j < k → List.getD a j (0, []) = List.getD b j (0, []) := hI0
  show TK _ _ _ _ _ _ ⟨[(0, vL eP a), (1, vL eP b), (5, vI k)], []⟩
  refine na ⟨[(0, vL eP a), (1, vL eP b), (5, vI k)], []⟩ rfl rfl rfl rfl rfl ?_
  refine mv rfl ?_
  refine mv rfl ?_
  refine RO (B.lenL rfl un90) ?_
  refine RO (B.lss rfl rfl) ?_
  refine tz ⟨[(0, vL eP a), (1, vL eP b), (5, vI k), (14, vB (decide ((k : Int) < (a.length : Int))))], []⟩ rfl rfl rfl rfl ?_
  refine TK.condP rfl (fun h2 => ?_) (fun h2 => ?_)
  ·
   refine na ⟨[(0, vL eP a), (1, vL eP b), (5, vI k)], []⟩ rfl rfl rfl rfl rfl ?_
   refine mv rfl ?_
   refine mv rfl ?_
   refine RO (B.idx (z := (0, [])) (i := k) rfl rfl un90 sz176 (fun _ => rfl) rfl (by omega)) ?_
   refine RO (B.loadA (ds := [pI (List.getD a k (0, [])).1, pS (bsO (List.getD a k (0, [])).2)]) rfl ag176 sz176 (nB rfl) rfl) ?_
   refine mv rfl ?_
   refine mv rfl ?_
   refine RO (B.idx (z := (0, [])) (i := k) rfl rfl un90 sz176 (fun _ => rfl) rfl (by omega)) ?_
   refine RO (B.loadA (ds := [pI (List.getD b k (0, [])).1, pS (bsO (List.getD b k (0, [])).2)]) rfl ag176 sz176 (nB rfl) rfl) ?_
   refine RO (B.stqN rfl rfl fq176 (eqv_cons eqv_i (eqv_last eqv_s))) ?_
   refine RG.nil (fun _ => by kernel_rfl) ?_
   refine Ap rfl ?_
   refine tn ⟨[(0, vL eP a), (1, vL eP b), (5, vI k), (25, vB (!((decide ((List.getD a k (0, [])).1 = (List.getD b k (0, [])).1)) && (decide ((List.getD a k (0, [])).2 = (List.getD b k (0, [])).2)))))], []⟩ rfl rfl rfl ?_
   refine TK.cond rfl (fun h3 => ?_) (fun h3 => ?_)
   ·
    refine na ⟨[], []⟩ rfl rfl rfl rfl rfl ?_
    refine ag rfl ?_
    refine ra rfl ?_
    refine lf ?_
    refine leaf (val0 := vB false) (by kernel_rfl) ?_
    exact lb (by exact (decide_eq_false fun e => by subst e; exact stp_ne h3 rfl).symm)
   ·
    refine na ⟨[(0, vL eP a), (1, vL eP b), (5, vI k)], []⟩ rfl rfl rfl rfl rfl ?_
    refine mv rfl ?_
    refine RO (B.add rfl rfl (by unfold R64; omega)) ?_
    refine ag rfl ?_
    refine RN ?_
    refine Aq rfl ?_
    refine PK.lp ?_
    refine LP.mk (k + 1) ?_ ?_ (sb rfl rfl rfl)
    · show (k + 1) ≤ a.length ∧ a.length = b.length ∧ ∀ j, j < (k + 1) → List.getD a j (0, []) = List.getD b j (0, [])
      refine ⟨by omega, hI0.2.1, fun j hj => ?_⟩; rcases Nat.lt_succ_iff_lt_or_eq.1 hj with h | h; exact hI0.2.2 j h; subst h; exact stp_eq h3
    · show a.length - (k + 1) < a.length - k
      omega
  ·
   refine At rfl ?_
   refine TK.exit ?_
   refine PK.exit rfl ?_
   refine Ap rfl ?_
   refine nr ⟨[], []⟩ rfl rfl rfl rfl ?_
   refine ag rfl ?_
   refine ra rfl ?_
   refine lf ?_
   refine leaf (val0 := vB true) (by kernel_rfl) ?_
   exact lb (by exact (decide_eq_true (eq_getD (0, []) hI0.2.1 fun j hj => hI0.2.2 j (by omega))).symm)
end Go.Lens.Tm
end
section
namespace Go.Lens.Tm
open Go.Lens.Tb Go.Proofs
set_option linter.unusedSectionVars false
set_option maxRecDepth 100000
variable [Lz]
def stD (s : LSt) : DV := .pv (.agg (stPV s))
def nmD (a : List UInt8) : DV := .pv (.lit (.string (bsO a)))
def rsD (r : LSt × Int) : DV := .tup [.pv (.agg (stPV r.1)), .pv (.lit (.int .i64 r.2))]
abbrev rowOk (f : FuncId) (s : LSt) : Prop := (actNs.map fun a => orc 60 f 0 [stD s, nmD a] []) = actNs.map fun a => some (rsD (actP s a), [])
theorem ar139_0 : rowOk 139 (mIdle, 0, false, false) := by unfold rowOk; kernel_rfl
theorem ar139_1 : rowOk 139 (mIdle, 0, false, true) := by unfold rowOk; kernel_rfl
theorem ar139_2 : rowOk 139 (mIdle, 0, true, false) := by unfold rowOk; kernel_rfl
theorem ar139_3 : rowOk 139 (mIdle, 0, true, true) := by unfold rowOk; kernel_rfl
theorem ar139_4 : rowOk 139 (mOpen, 0, false, false) := by unfold rowOk; kernel_rfl
theorem ar139_5 : rowOk 139 (mOpen, 0, true, false) := by unfold rowOk; kernel_rfl
theorem ar139_6 : rowOk 139 (mClosed, 0, false, false) := by unfold rowOk; kernel_rfl
theorem ar139_7 : rowOk 139 (mClosed, 1, false, false) := by unfold rowOk; kernel_rfl
theorem ar139_8 : rowOk 139 (mClosed, 2, false, false) := by unfold rowOk; kernel_rfl
theorem ar139_9 : rowOk 139 (mSafe, 0, false, false) := by unfold rowOk; kernel_rfl
theorem ar139_10 : rowOk 139 (mSafe, 0, false, true) := by unfold rowOk; kernel_rfl
theorem ar139_11 : rowOk 139 (mSafe, 0, true, false) := by unfold rowOk; kernel_rfl
theorem ar139_12 : rowOk 139 (mSafe, 0, true, true) := by unfold rowOk; kernel_rfl
theorem ar139 : ∀ s ∈ sts, rowOk 139 s := (List.forall_mem_cons.2 ⟨ar139_0, (List.forall_mem_cons.2 ⟨ar139_1, (List.forall_mem_cons.2 ⟨ar139_2, (List.forall_mem_cons.2 ⟨ar139_3, (List.forall_mem_cons.2 ⟨ar139_4, (List.forall_mem_cons.2 ⟨ar139_5, (List.forall_mem_cons.2 ⟨ar139_6, (List.forall_mem_cons.2 ⟨ar139_7, (List.forall_mem_cons.2 ⟨ar139_8, (List.forall_mem_cons.2 ⟨ar139_9, (List.forall_mem_cons.2 ⟨ar139_10, (List.forall_mem_cons.2 ⟨ar139_11, (List.forall_mem_cons.2 ⟨ar139_12, (fun _ h => nomatch h)⟩)⟩)⟩)⟩)⟩)⟩)⟩)⟩)⟩)⟩)⟩)⟩)⟩)
theorem act_known (hp : PowLaid) (hm : OrcOk Tryz.prog (mergeO 121)) {s : LSt} {a : List UInt8} (hs : s ∈ sts) (ha : a ∈ actNs) : CallOk Tryz.prog 139 [stD s, nmD a] (lookM []) (rsD (actP s a)) [] :=
 orc_ok hp hm 60 139 0 _ _ _ _ (List.map_inj_left.1 (ar139 s hs) a ha)
abbrev ActE := List UInt8 × PV × PV
def eA (e : ActE) : List PV := [.lit (.string (bsO (Prod.fst e))), Prod.fst (Prod.snd e), Prod.snd (Prod.snd e)]
def zA : ActE := ([], .lit .nilFunc, .lit .nilFunc)
def fnA (f : FuncId) : PV := .fn (.func f) [] []
def toA (m : List UInt8) : PV := .fn (.func 282) [] [.box [.lit (.string (bsO m))]]
def actsL : List ActE := [(aStart, fnA 222, toA mOpen), (aClose, fnA 224, toA mClosed), (aOpen, fnA 225, toA mOpen), (aStop, fnA 226, toA mIdle), (aSat, fnA 227, fnA 228), (aClear, fnA 229, fnA 230), (aLose, fnA 231, fnA 232), (aFind, fnA 234, fnA 235), (aGust, fnA 236, fnA 237), (aCalm, fnA 238, fnA 239), (aReset, fnA 240, toA mIdle)]
theorem acts_run : orc 60 161 2000 [] [] = some (.aref 2018 0, [(2018, .arr 0 3 287 (List.map eA actsL))]) := by kernel_rfl
theorem w161 (hp : PowLaid) (hm : OrcOk Tryz.prog (mergeO 121)) : CallOk Tryz.prog 161 [] (lookM []) (.aref 2018 0) [(2018, .arr 0 3 287 (List.map eA actsL))] := orc_ok hp hm 60 161 2000 _ _ _ _ acts_run
theorem acts_names : actsL.map (fun e => e.1) = actNs := rfl
theorem act_none {a : List UInt8} (ha : a ∉ actNs) : findI (fun e => decide (e.1 = a)) actsL = -1 :=
 findI_none (z := zA) fun j hj => decide_eq_false fun e => ha (by rw [← acts_names, ← e]; exact List.mem_map.2 ⟨_, getD_mem hj, rfl⟩)
end Go.Lens.Tm
end
section
namespace Go.Lens.Tm
open Go.Lens.Tb Go.Proofs
set_option linter.unusedSectionVars false
theorem act_no {s : LSt} {a : List UInt8} (ha : a ∉ actNs) : actP s a = (zSt, 13) := by rw [actP, if_neg ha]
abbrev xS (m : Mc) : List (Nat × MO) := [(11, .box 217 [.pv (.lit (.string (bsO (Prod.fst (Prod.fst m))))), .pv (.lit (.int .i64 (Prod.fst (Prod.snd (Prod.fst m))))), .pv (.lit (.bool (Prod.fst (Prod.snd (Prod.snd (Prod.fst m)))))), .pv (.lit (.bool (Prod.snd (Prod.snd (Prod.snd (Prod.fst m)))))), .pv (.lit (.int .i64 (Prod.fst (Prod.snd m)))), .pv (.lit (.int .i64 0)), .aref 900 (List.length (Prod.snd (Prod.snd m)))]), (900, .arr (List.length (Prod.snd (Prod.snd m))) 2 164 (List.map eP (Prod.snd (Prod.snd m))))]
abbrev xO (m : Mc) : List (Nat × MO) := [(900, .arr (List.length (Prod.snd (Prod.snd m))) 2 164 (List.map eP (Prod.snd (Prod.snd m)))), (11, .box 217 [.pv (.lit (.string (bsO (Prod.fst (Prod.fst m))))), .pv (.lit (.int .i64 (Prod.fst (Prod.snd (Prod.fst m))))), .pv (.lit (.bool (Prod.fst (Prod.snd (Prod.snd (Prod.fst m)))))), .pv (.lit (.bool (Prod.snd (Prod.snd (Prod.snd (Prod.fst m)))))), .pv (.lit (.int .i64 (Prod.fst (Prod.snd m)))), .pv (.lit (.int .i64 0)), .aref 900 (List.length (Prod.snd (Prod.snd m)))])]
theorem xO_snoc (s : LSt) (t : Int) (p : List Stp) (x : Stp) : ([(900, .arr (List.length p + 1) 2 164 (List.map eP (p ++ [x]))), (11, .box 217 [.pv (.lit (.string (bsO (Prod.fst s)))), .pv (.lit (.int .i64 (Prod.fst (Prod.snd s)))), .pv (.lit (.bool (Prod.fst (Prod.snd (Prod.snd s))))), .pv (.lit (.bool (Prod.snd (Prod.snd (Prod.snd s))))), .pv (.lit (.int .i64 t)), .pv (.lit (.int .i64 0)), .aref 900 (List.length p + 1)])] : List (Nat × MO)) = xO (s, t, p ++ [x]) := by
 have : List.length p + 1 = List.length (p ++ [x]) := by rw [List.length_append]; rfl
 rw [this]
section
variable {m : Mc} {c : Cmd}
theorem t_w3 (h1 : c.1 = kWait) (h2 : 999999999 - m.2.1 < c.2.2) : take1 m c = (m, 3) := by rw [take1, if_pos h1, if_pos (by omega)]
theorem t_w0 (h1 : c.1 = kWait) (h2 : ¬ 999999999 - m.2.1 < c.2.2) : take1 m c = ((m.1, m.2.1 + c.2.2, m.2.2), 0) := by rw [take1, if_pos h1, if_neg (by omega)]
theorem t_5 (h1 : ¬ c.1 = kWait) (h3 : 1000 ≤ 0 + ((List.length m.2.2 : Nat) : Int)) : take1 m c = (m, 5) := by rw [take1, if_neg h1, if_pos (by omega)]
theorem t_e (h1 : ¬ c.1 = kWait) (h3 : ¬ 1000 ≤ 0 + ((List.length m.2.2 : Nat) : Int)) (h4 : (actP m.1 c.2.1).2 ≠ 0) : take1 m c = (m, (actP m.1 c.2.1).2) := by rw [take1, if_neg h1, if_neg (by omega), if_pos h4]
theorem t_0 (h1 : ¬ c.1 = kWait) (h3 : ¬ 1000 ≤ 0 + ((List.length m.2.2 : Nat) : Int)) (h4 : ¬ (actP m.1 c.2.1).2 ≠ 0) : take1 m c = (((actP m.1 c.2.1).1, m.2.1, m.2.2 ++ [(m.2.1, c.2.1)]), 0) := by rw [take1, if_neg h1, if_neg (by omega), if_neg h4]
end
def MtI (l : List Cmd) (i k : Nat) (q : Int) : Prop := i + k ≤ l.length ∧ matGo 0 i (l.drop i) = matGo q (i + k) (l.drop (i + k)) ∧ ((k = 0 ∧ q = 0) ∨ (1 ≤ k ∧ 1 ≤ q)) ∧ q ≤ k
section
variable {l : List Cmd} {i k : Nat} {q : Int}
theorem mt_start (hi : i < l.length) : MtI l i 0 0 := ⟨by omega, rfl, .inl ⟨rfl, rfl⟩, Int.le_refl _⟩
theorem mt_drop (h : MtI l i k q) : i + k ≤ l.length ∧ 0 ≤ q ∧ q ≤ k ∧ List.length (List.drop i l) = List.length l - i := by
 obtain ⟨h1, _, h3, h4⟩ := h
 exact ⟨h1, by omega, h4, List.length_drop⟩
theorem getD_dropC (l : List Cmd) (i k : Nat) : (l.drop i).getD k z3 = l.getD (i + k) z3 := by
 rw [List.getD_eq_getElem?_getD, List.getElem?_drop, ← List.getD_eq_getElem?_getD]
theorem mt_rep (h : MtI l i k q) (hk : i + k < l.length) (h0 : ((l.drop i).getD k z3).1 = kRep) : MtI l i (k + 1) (q + 1) := by
 rw [getD_dropC] at h0
 obtain ⟨h1, h2, h3, h4⟩ := h
 exact ⟨by omega, h2.trans (mat_rep hk h0), .inr ⟨by omega, by omega⟩, by omega⟩
theorem mt_end (h : MtI l i k q) (hk : i + k < l.length) (h0 : ((l.drop i).getD k z3).1 = kEnd) (hr : (l.getD i z3).1 = kRep) (hq : ¬ q - 1 = 0) : MtI l i (k + 1) (q - 1) := by
 rw [getD_dropC] at h0
 obtain ⟨h1, h2, h3, h4⟩ := h
 have hk0 : k ≠ 0 := by
  rintro rfl
  exact absurd (hr.symm.trans h0) rep_end
 refine ⟨by omega, h2.trans ((mat_end hk h0).trans (if_neg hq)), .inr ⟨by omega, by omega⟩, by omega⟩
theorem mt_one (h : MtI l i k q) (hk : i + k < l.length) (h0 : ((l.drop i).getD k z3).1 ≠ kRep) (h5 : ((l.drop i).getD k z3).1 ≠ kEnd) (hr : (l.getD i z3).1 = kRep) : MtI l i (k + 1) q := by
 rw [getD_dropC] at h0 h5
 obtain ⟨h1, h2, h3, h4⟩ := h
 have hk0 : k ≠ 0 := by
  rintro rfl
  exact h0 hr
 exact ⟨by omega, h2.trans (mat_one hk h0 h5), by omega, by omega⟩
theorem mt_found (h : MtI l i k q) (hk : i + k < l.length) (h0 : ((l.drop i).getD k z3).1 = kEnd) (hq : q - 1 = 0) : matGo 0 i (l.drop i) = i + k := by
 rw [getD_dropC] at h0
 obtain ⟨h1, h2, h3, h4⟩ := h
 exact h2.trans ((mat_end hk h0).trans (if_pos hq))
theorem mt_no (h : MtI l i k q) (hq : q = 0) (h0 : ¬ ((l.drop i).getD k z3).1 = kRep) (hr : (l.getD i z3).1 = kRep) : False := by
 obtain ⟨_, _, h3, _⟩ := h
 have hk : k = 0 := by omega
 subst hk
 rw [getD_dropC] at h0
 exact h0 hr
theorem mt_stop {d : Nat} (hw : Wf d (l.drop i)) (hi : i < l.length) (hr : (l.getD i z3).1 = kRep) (h : MtI l i k q) : ((k : Nat) : Int) < ((List.length (l.drop i) : Nat) : Int) := by
 obtain ⟨d1, e, _, he, he1, he2, _⟩ := wf_at hw hi hr
 obtain ⟨h1, h2, h3, h4⟩ := h
 by_cases hk : i + k < l.length
 ·rw [List.length_drop]; omega
 ·have h5 := h2.trans (mat_nil (by omega))
  omega
end
theorem tms_next {a b : Mc} {u : List Cmd} {j : Nat} (h : takes a (tms j u) = (b, 0)) (h0 : (takes b u).2 = 0) : takes a (tms (j + 1) u) = ((takes b u).1, 0) := by
 rw [tms_succ, takes_app, h, if_neg (by simp)]
 show takes b u = _
 rw [← h0]
theorem tms_split {n j : Nat} (u : List Cmd) (h : j ≤ n) : tms n u = tms j u ++ tms (n - j) u := by
 obtain ⟨k, rfl⟩ : ∃ k, n = j + k := ⟨n - j, by omega⟩
 rw [show j + k - j = k by omega]
 clear h
 induction k with
 | zero => rw [Nat.add_zero, tms_zero, List.append_nil]
 | succ k ih => rw [← Nat.add_assoc, tms_succ, tms_succ, ih, List.append_assoc]
theorem r_rep {a b m : Mc} {u v w x : List Cmd} {n j : Nat} (h1 : takes m x = takes a w) (h2 : w = tms n u ++ v) (h3 : takes a (tms j u) = (b, 0)) (hj : j = n) : takes m x = takes b v := by
 subst hj
 rw [h1, h2, takes_app, h3, if_neg (by simp)]
theorem r_bad2 {a b m : Mc} {u v w x : List Cmd} {n j : Nat} (h1 : takes m x = takes a w) (h2 : w = tms n u ++ v) (h3 : takes a (tms j u) = (b, 0)) (hj : j < n) (h4 : (takes b u).2 ≠ 0) : takes m x = takes b u := by
 have e : tms n u ++ v = tms j u ++ (u ++ (tms (n - j - 1) u ++ v)) := by
  rw [tms_split u (show j ≤ n by omega), show n - j = (n - j - 1) + 1 by omega]
  rw [show tms (n - j - 1 + 1) u = u ++ tms (n - j - 1) u by unfold tms; rw [List.replicate_succ, List.flatten_cons]]
  simp only [List.append_assoc, Nat.add_sub_cancel]
 rw [h1, h2, e, takes_app, h3, if_neg (by simp)]
 show takes b (u ++ _) = _
 rw [takes_app, if_pos h4]
section
variable {l x : List Cmd} {i d : Nat} {a m : Mc}
theorem r_bad (h : Wf d (l.drop i) ∧ OkM a ∧ takes m x = takes a (unrP (l.drop i))) (hi : i < l.length) (h0 : (l.getD i z3).1 ≠ kRep) (h1 : (take1 a (l.getD i z3)).2 ≠ 0) : takes m x = take1 a (l.getD i z3) := by
 rw [h.2.2, wf_next_unr h.1 hi h0, takes_bad h1]
theorem r_next (h : Wf d (l.drop i) ∧ OkM a ∧ takes m x = takes a (unrP (l.drop i))) (hc : ∀ c ∈ l, chkC c = 0) (hi : i < l.length) (h0 : (l.getD i z3).1 ≠ kRep) (h1 : (take1 a (l.getD i z3)).2 = 0) :
  i + 1 ≤ l.length ∧ Wf d (l.drop (i + 1)) ∧ OkM (take1 a (l.getD i z3)).1 ∧ takes m x = takes (take1 a (l.getD i z3)).1 (unrP (l.drop (i + 1))) := by
 refine ⟨by omega, (wf_next h.1 hi h0).2.1, take1_ok h.2.1 (hc _ (getD_mem hi)), ?_⟩
 rw [h.2.2, wf_next_unr h.1 hi h0, takes_ok h1]
theorem r_end (h : takes m x = takes a (unrP (l.drop i))) (hi : ¬ i < l.length) : takes m x = (a, 0) := by
 rw [h, List.drop_of_length_le (by omega), unrP_nil, takes_nil]
end
theorem unr_chk {d : Nat} {b : List Cmd} (hw : Wf d b) (hc : ∀ c ∈ b, chkC c = 0) : ∀ c ∈ unrP b, chkC c = 0 := fun c h => hc c ((wf_unr_len hw hc).2 c h).1
end Go.Lens.Tm
end
section
namespace Go.Lens.Tm
open Go.Lens.Tb Go.Proofs
variable [Lz]
set_option linter.unusedSectionVars false
set_option maxHeartbeats 4000000
set_option maxRecDepth 100000
attribute [local irreducible] TK PK T RG EfR Body
theorem ag287 : aggT tab 287 = some true := by kernel_rfl
theorem ag81 : aggT tab 81 = some true := by kernel_rfl
theorem fa287_0 : fadQ tab 287 0 = some 0 := by kernel_rfl
theorem sz287 : szT tab 287 = some 3 := by kernel_rfl
theorem sz81 : szT tab 81 = some 4 := by kernel_rfl
theorem un282 : tab.underlying 282 = some (.slice 287) := by kernel_rfl
theorem w189 (e : ActE) (a : List UInt8) : CallOk Tryz.prog 189 [.pv (.agg [pS (bsO e.1), e.2.1, e.2.2]), .pv (.box [pS (bsO a)])] (lookM []) (vB (decide (e.1 = a))) [] := by
 refine cO qf189 rfl (nB rfl) rfl ?_
 refine na ⟨[(0, .pv (.agg [pS (bsO e.1), e.2.1, e.2.2])), (1, .pv (.box [pS (bsO a)]))], []⟩ rfl rfl rfl rfl rfl ?_
 refine rn rfl ?_
 refine ag rfl ?_
 refine zn ⟨[(1, .pv (.box [pS (bsO a)])), (2, .bref 3 0)], [(3, .box 287 [vS (bsO e.1), .pv (e.2.1), .pv (e.2.2)])]⟩ rfl rfl rfl rfl rfl ?_
 refine RO (B.fadB rfl fa287_0 rfl) ?_
 refine RO (B.loadB rfl rfl rfl ag9 sz9 rfl) ?_
 refine RO (B.loadP rfl ag9 sz9) ?_
 refine RO (B.seqB (a := e.1) (b := a) rfl rfl) ?_
 refine ag rfl ?_
 refine ra rfl ?_
 refine lf ?_
 refine leaf (val0 := vB (decide (e.1 = a))) (by kernel_rfl) ?_
 exact rfl
theorem w188 (l : List ActE) (a : List UInt8) (hl : l.length ≤ 1000000000000000) : CallOk Tryz.prog 188 [vL eA l, .pv (.fn (.func 189) [] [.box [pS (bsO a)]])] (lookM []) (vI (findI (fun e => decide (e.1 = a)) l)) [] := by
 refine cO qf188 rfl (nB rfl) rfl ?_
 refine na ⟨[(0, vL eA l), (1, .pv (.fn (.func 189) [] [.box [pS (bsO a)]]))], []⟩ rfl rfl rfl rfl rfl ?_
 refine ag rfl ?_
 refine zn ⟨[(0, vL eA l), (1, .pv (.fn (.func 189) [] [.box [pS (bsO a)]]))], []⟩ rfl rfl rfl rfl rfl ?_
 refine mv rfl ?_
 refine RO (B.lenL rfl un282) ?_
 refine mv rfl ?_
 refine ra rfl ?_
 refine TK.loop (α := Nat) (fun x => ⟨[(0, vL eA l), (1, .pv (.fn (.func 189) [] [.box [pS (bsO a)]])), (7, vI l.length), (8, vI x)], []⟩) (fun x => x ≤ l.length ∧ ∀ j, j < x → decide ((List.getD l j zA).1 = a) = false) (fun x => l.length - x) 0 ?_ (sb rfl rfl rfl) ?_
 · show 0 ≤ l.length ∧ ∀ j, j < 0 → decide ((List.getD l j zA).1 = a) = false
   exact ⟨Nat.zero_le _, fun j hj => by omega⟩
 rintro k hI0
 replace hI0 : k ≤ l.length ∧ ∀ j, j < k → decide ((List.getD l j zA).1 = a) = false := hI0
 show TK _ _ _ _ _ _ ⟨[(0, vL eA l), (1, .pv (.fn (.func 189) [] [.box [pS (bsO a)]])), (7, vI l.length), (8, vI k)], []⟩
 refine na ⟨[(0, vL eA l), (1, .pv (.fn (.func 189) [] [.box [pS (bsO a)]])), (7, vI l.length), (8, vI k)], []⟩ rfl rfl rfl rfl rfl ?_
 refine RO (B.lss rfl rfl) ?_
 refine tz ⟨[(0, vL eA l), (1, .pv (.fn (.func 189) [] [.box [pS (bsO a)]])), (7, vI l.length), (8, vI k), (9, vB (decide ((k : Int) < (l.length : Int))))], []⟩ rfl rfl rfl rfl ?_
 refine TK.condP rfl (fun h1 => ?_) (fun h1 => ?_)
 ·
  refine na ⟨[(0, vL eA l), (1, .pv (.fn (.func 189) [] [.box [pS (bsO a)]])), (7, vI l.length), (8, vI k)], []⟩ rfl rfl rfl rfl rfl ?_
  refine mv rfl ?_
  refine ag rfl ?_
  refine zn ⟨[(0, vL eA l), (1, .pv (.fn (.func 189) [] [.box [pS (bsO a)]])), (5, vI k), (7, vI l.length), (8, vI k)], []⟩ rfl rfl rfl rfl rfl ?_
  refine mv rfl ?_
  refine mv rfl ?_
  refine mv rfl ?_
  refine RO (B.idx (z := zA) (i := k) rfl rfl un282 sz287 (fun _ => rfl) rfl (by omega)) ?_
  refine RO (B.loadA (ds := [pS (bsO (List.getD l k zA).1), (List.getD l k zA).2.1, (List.getD l k zA).2.2]) rfl ag287 sz287 (nB rfl) rfl) ?_
  refine RO (B.call (w189 (List.getD l k zA) a) rfl rfl rfl) ?_
  refine tz ⟨[(0, vL eA l), (1, .pv (.fn (.func 189) [] [.box [pS (bsO a)]])), (5, vI k), (7, vI l.length), (8, vI k), (16, vB (decide ((List.getD l k zA).1 = a)))], []⟩ rfl rfl rfl rfl ?_
  refine TK.condP rfl (fun h2 => ?_) (fun h2 => ?_)
  ·
   refine na ⟨[(5, vI k)], []⟩ rfl rfl rfl rfl rfl ?_
   refine mv rfl ?_
   refine ag rfl ?_
   refine ra rfl ?_
   refine lf ?_
   refine leaf (val0 := vI k) (by kernel_rfl) ?_
   exact li (by exact (findI_some (p := (fun e => decide (e.1 = a))) (l := l) (z := zA) k (by omega) hI0.2 (decide_eq_true h2)).symm)
  ·
   refine na ⟨[(0, vL eA l), (1, .pv (.fn (.func 189) [] [.box [pS (bsO a)]])), (7, vI l.length), (8, vI k)], []⟩ rfl rfl rfl rfl rfl ?_
   refine RO (B.add rfl rfl (by unfold R64; omega)) ?_
   refine mv rfl ?_
   refine RN ?_
   refine Aq rfl ?_
   refine PK.lp ?_
   refine LP.mk (k + 1) ?_ ?_ (sb rfl rfl rfl)
   · show (k + 1) ≤ l.length ∧ ∀ j, j < (k + 1) → decide ((List.getD l j zA).1 = a) = false
     refine ⟨by omega, fun j hj => ?_⟩; rcases Nat.lt_succ_iff_lt_or_eq.1 hj with h | h; exact hI0.2 j h; subst h; exact decide_eq_false h2
   · show l.length - (k + 1) < l.length - k
     omega
 ·
  refine At rfl ?_
  refine TK.exit ?_
  refine PK.exit rfl ?_
  refine Ap rfl ?_
  refine nr ⟨[], []⟩ rfl rfl rfl rfl ?_
  refine ag rfl ?_
  refine ra rfl ?_
  refine lf ?_
  refine leaf (val0 := vI (-1)) (by kernel_rfl) ?_
  exact li (by exact (findI_none (p := (fun e => decide (e.1 = a))) (l := l) (z := zA) fun j hj => hI0.2 j (by omega)).symm)
theorem w139n (hp : PowLaid) (hm : OrcOk Tryz.prog (mergeO 121)) (s : LSt) (a : List UInt8) (hs : s ∈ sts) (ha : a ∉ actNs) : CallOk Tryz.prog 139 [.pv (gS s), vS (bsO a)] (lookM []) (.tup [.pv (gS (actP s a).1), vI (actP s a).2]) [] := by
 refine cO qf139 rfl (nB rfl) rfl ?_
 refine na ⟨[(0, .pv (gS s)), (1, vS (bsO a))], []⟩ rfl rfl rfl rfl rfl ?_
 refine rn rfl ?_
 refine rn rfl ?_
 refine rn rfl ?_
 refine ag rfl ?_
 refine zn ⟨[(2, .bref 3 0), (3, .bref 4 0), (4, .bref 5 0)], [(3, bS s), (4, .box 9 [vS (bsO a)]), (5, .box 81 [vS ⟨#[]⟩, vI 0, vB false, vB false])]⟩ rfl rfl rfl rfl rfl ?_
 refine RO (B.loadBA rfl rfl rfl ag81 sz81 rfl rfl) ?_
 refine RO (B.call (w123 s) rfl rfl rfl) ?_
 refine ag rfl ?_
 refine zn ⟨[(2, .bref 3 0), (3, .bref 4 0), (4, .bref 5 0), (6, vI (chkSt s))], [(3, bS s), (4, .box 9 [vS (bsO a)]), (5, .box 81 [vS ⟨#[]⟩, vI 0, vB false, vB false])]⟩ rfl rfl rfl rfl rfl ?_
 refine mv rfl ?_
 refine RO (B.neq rfl rfl) ?_
 refine tz ⟨[(2, .bref 3 0), (3, .bref 4 0), (4, .bref 5 0), (6, vI (chkSt s)), (12, vB (decide ((chkSt s) ≠ 0)))], [(3, bS s), (4, .box 9 [vS (bsO a)]), (5, .box 81 [vS ⟨#[]⟩, vI 0, vB false, vB false])]⟩ rfl rfl rfl rfl ?_
 refine TK.condP rfl (fun h1 => ?_) (fun h1 => ?_)
 ·
  exact absurd (st_chk s hs) h1
 ·
  refine na ⟨[(2, .bref 3 0), (3, .bref 4 0), (4, .bref 5 0)], [(3, bS s), (4, .box 9 [vS (bsO a)]), (5, .box 81 [vS ⟨#[]⟩, vI 0, vB false, vB false])]⟩ rfl rfl rfl rfl rfl ?_
  refine RO (B.callS (l := []) (w161 hp hm) rfl rfl trivial rfl rfl) ?_
  refine rn rfl ?_
  refine tz ⟨[(2, .bref 3 0), (3, .bref 4 0), (4, .bref 5 0), (7, .aref 2018 0)], [(3, bS s), (4, .box 9 [vS (bsO a)]), (5, .box 81 [vS ⟨#[]⟩, vI 0, vB false, vB false]), (2018, .arr 0 3 287 (List.map eA actsL))]⟩ rfl rfl rfl rfl ?_
  refine TK.frzB (t := 3) rfl rfl rfl ?_
  refine tn ⟨[(2, .bref 3 0), (3, .pv (.box [pS (bsO a)])), (4, .bref 5 0), (7, .aref 2018 0)], [(3, bS s), (5, .box 81 [vS ⟨#[]⟩, vI 0, vB false, vB false]), (2018, .arr 0 3 287 (List.map eA actsL))]⟩ rfl rfl rfl ?_
  refine TK.frz (t := 7) rfl rfl ?_
  refine nr ⟨[(2, .bref 3 0), (3, .pv (.box [pS (bsO a)])), (4, .bref 5 0), (7, vL eA actsL)], [(3, bS s), (5, .box 81 [vS ⟨#[]⟩, vI 0, vB false, vB false])]⟩ rfl rfl rfl rfl ?_
  refine mv rfl ?_
  refine rn rfl ?_
  refine RO (B.call (w188 actsL a (nB rfl)) rfl rfl rfl) ?_
  refine ag rfl ?_
  refine zn ⟨[(2, .bref 3 0), (4, .bref 5 0), (7, vL eA actsL), (8, vI (findI (fun e => decide (e.1 = a)) actsL))], [(3, bS s), (5, .box 81 [vS ⟨#[]⟩, vI 0, vB false, vB false])]⟩ rfl rfl rfl rfl rfl ?_
  refine mv rfl ?_
  refine RO (B.lss rfl rfl) ?_
  refine tz ⟨[(2, .bref 3 0), (4, .bref 5 0), (7, vL eA actsL), (8, vI (findI (fun e => decide (e.1 = a)) actsL)), (20, vB (decide ((findI (fun e => decide (e.1 = a)) actsL) < 0)))], [(3, bS s), (5, .box 81 [vS ⟨#[]⟩, vI 0, vB false, vB false])]⟩ rfl rfl rfl rfl ?_
  refine TK.condP rfl (fun h2 => ?_) (fun h2 => ?_)
  ·
   refine na ⟨[(4, .bref 5 0)], [(5, .box 81 [vS ⟨#[]⟩, vI 0, vB false, vB false])]⟩ rfl rfl rfl rfl rfl ?_
   refine rn rfl ?_
   refine rn rfl ?_
   refine ag rfl ?_
   refine ra rfl ?_
   refine lf ?_
   refine leaf (val0 := .tup [.pv (.agg [pS ⟨#[]⟩, pI 0, pB false, pB false]), vI 13]) (by kernel_rfl) ?_
   exact tup2 (lag (lcons (pls (by (rw [act_no ha]; rfl))) (lcons (pli (by (rw [act_no ha]; rfl))) (lcons (plb (by (rw [act_no ha]; rfl))) (lcons (plb (by (rw [act_no ha]; rfl))) rfl))))) (li (by (rw [act_no ha])))
  ·
   exact absurd (act_none ha) (by omega)
theorem w139 (hp : PowLaid) (hm : OrcOk Tryz.prog (mergeO 121)) {s : LSt} (hs : s ∈ sts) (a : List UInt8) : CallOk Tryz.prog 139 [.pv (gS s), vS (bsO a)] (lookM []) (.tup [.pv (gS (actP s a).1), vI (actP s a).2]) [] := by
 by_cases h : a ∈ actNs
 ·exact act_known hp hm hs h
 ·exact w139n hp hm s a hs h
end Go.Lens.Tm
end
section
namespace Go.Lens
set_option linter.unusedSectionVars false
variable [Lz]
section
variable {P : Program} {Y : Tab} [TabOk P Y] {nb : Nat} {s : St} {dst : Option Tmp} {ty u : TypeId} {pos : String} {af : Array Edge} {gd : Option (Nat × Bool)} {t : TypeId} {x y : Operand}
theorem B.storeR {h c v sz hh : Nat} {T T2 : TypeId} {ds ds2 : List DV} {es : List (List PV)} (hx : ev1 s x = .bref h c) (hm : lookM s.ms h = some (.box T ds)) (hy : ev1 s y = .aref hh v) (hm2 : lookM s.ms hh = some (.arr v sz T2 es))
  (hs : szT Y t = some 1) (hle : Nat.ble (c + 1) ds.length = true) (hd : ds.take c ++ [.aref hh v] ++ ds.drop (c + 1) = ds2) : Body P Y nb s ⟨dst, .store t x y, ty, pos, af, gd⟩ .dead [(h, .box T ds2)] [h, hh] := by
 subst hd
 refine .inr (SBody.of fun σ G a w hv hl I => ?_)
 have hX := hv x (by simp [Op.operands])
 have hY := hv y (by simp [Op.operands])
 rw [hx] at hX; rw [hy] at hY
 have hlk : lookM σ.ms h = some (.box T ds) := by rw [hl h (.inl (by simp))]; exact hm
 have hlk2 : lookM σ.ms hh = some (.arr v sz T2 es) := by rw [hl hh (.inl (by simp))]; exact hm2
 have C : Ctx G w (fun z => match z with | .tmp 0 => a.eval x | .tmp 1 => a.eval y | _ => undef) (fun z => match z with | .tmp 0 => .bref h c | .tmp 1 => .aref hh v | _ => .dead) (lookM σ.ms) (lookM σ.ms) := by
  refine I.mem.ctx2 (fun z => ?_) (fun z k hk => ?_)
  ·split
   ·exact hX
   ·exact hY
   ·simp only [RelDV]
  ·split at hk
   ·simp only [DV.refs, List.mem_singleton] at hk; subst hk; exact ⟨_, hlk⟩
   ·simp only [DV.refs, List.mem_singleton] at hk; subst hk; exact ⟨_, hlk2⟩
   ·simp [DV.refs] at hk
 have hcv : storeV Y t (.bref h c) (.aref hh v) (lookM σ.ms) = some ⟨true, .dead, [(h, .box T (ds.take c ++ [.aref hh v] ++ ds.drop (c + 1)))]⟩ := by
  unfold storeV
  have hok : okCells (lookM σ.ms) (.aref hh v) = true := by simp [okCells, hlk2]
  have hcl : cellsDV (.aref hh v) = [.aref hh v] := rfl
  have hdec : decide (c + 1 ≤ ds.length) = true := decide_eq_true (Nat.le_of_ble_eq_true hle)
  simp only [hs, hlk, hok, hcl, List.length_cons, List.length_nil, Nat.zero_add, beq_self_eq_true, Bool.and_self, if_true, hdec]
 obtain ⟨w', G', h1, h2⟩ := storeV_sound (P := P) C (t := t) (a := .tmp 0) (x := .tmp 1) hcv rfl
 refine ⟨undef, w', G', .inr ⟨?_, rfl⟩, h2⟩
 have lift : ∀ {q : Sem Unit} {w' : World}, q.run P w = .ok () w' → (do q; Pure.pure Next.skip : Sem Next).run P w = .ok .skip w' := by
  intro q w' h
  simp only [Sem.run_bind, h, Result.andThen_ok, Sem.run_pure]
 exact lift (q := Instr.storeAt _ _ _) h1
end
end Go.Lens
end
section
namespace Go.Lens.Tm
open Go.Lens.Tb Go.Proofs
variable [Lz]
set_option linter.unusedSectionVars false
set_option maxHeartbeats 4000000
set_option maxRecDepth 100000
attribute [local irreducible] TK PK T RG EfR Body
theorem by164 : ty164.info.bytes = 24 := by kernel_rfl
theorem fa217_0 : fadQ tab 217 0 = some 0 := by kernel_rfl
theorem fa217_1 : fadQ tab 217 1 = some 4 := by kernel_rfl
theorem fa217_2 : fadQ tab 217 2 = some 5 := by kernel_rfl
theorem fa217_3 : fadQ tab 217 3 = some 6 := by kernel_rfl
theorem in164 : tab.info? 164 = some ty164.info := by kernel_rfl
theorem sz86 : szT tab 86 = some 1 := by kernel_rfl
theorem w183 (hp : PowLaid) (hm : OrcOk Tryz.prog (mergeO 121)) (m : Mc) (c : Cmd) (hok : OkM m) (hcc : chkC c = 0) : CallOk Tryz.prog 183 [.bref 11 0, .pv (gC c)] (lookM (xS m)) (vI (take1 m c).2) (xO (take1 m c).1) := by
 refine cL 1001 (xS m) qf183 rfl (nB rfl) rfl rfl ?_
 refine na ⟨[(0, .bref 11 0), (1, .pv (gC c))], [(11, bM m), (900, aM m)]⟩ rfl rfl rfl rfl rfl ?_
 refine rn rfl ?_
 refine ag rfl ?_
 refine zn ⟨[(0, .bref 11 0), (3, .bref 1004 0)], [(11, bM m), (900, aM m), (1004, bC 116 c)]⟩ rfl rfl rfl rfl rfl ?_
 refine RO (B.fadB rfl fa116_0 rfl) ?_
 refine RO (B.loadB rfl rfl rfl ag9 sz9 rfl) ?_
 refine RO (B.seqB (a := c.1) (b := [119, 97, 105, 116]) rfl rfl) ?_
 refine tz ⟨[(0, .bref 11 0), (3, .bref 1004 0), (9, vB (decide (c.1 = [119, 97, 105, 116])))], [(11, bM m), (900, aM m), (1004, bC 116 c)]⟩ rfl rfl rfl rfl ?_
 refine TK.condP rfl (fun h1 => ?_) (fun h1 => ?_)
 ·
  refine na ⟨[(0, .bref 11 0), (3, .bref 1004 0)], [(11, bM m), (900, aM m), (1004, bC 116 c)]⟩ rfl rfl rfl rfl rfl ?_
  refine RO (B.fadB rfl fa116_2 rfl) ?_
  refine RO (B.loadB rfl rfl rfl ag3 sz3 rfl) ?_
  refine rn rfl ?_
  refine rn rfl ?_
  refine RO (B.fadB rfl fa217_1 rfl) ?_
  refine rn rfl ?_
  refine RO (B.sub rfl rfl (by have h1 := hok.2.1; have h2 := hok.2.2.1; have h3 := hok.2.2.2; unfold R64; omega)) ?_
  refine RO (B.gtr rfl rfl) ?_
  refine RG.nil (fun _ => by kernel_rfl) ?_
  refine Ap rfl ?_
  refine tn ⟨[(0, .bref 11 0), (3, .bref 1004 0), (17, vB (decide ((999999999 - m.2.1) < c.2.2)))], [(11, bM m), (900, aM m), (1004, bC 116 c)]⟩ rfl rfl rfl ?_
  refine TK.condP rfl (fun h2 => ?_) (fun h2 => ?_)
  ·
   refine na ⟨[(0, .bref 11 0)], [(11, bM m), (900, aM m)]⟩ rfl rfl rfl rfl rfl ?_
   refine ag rfl ?_
   refine ra rfl ?_
   refine lf ?_
   exact leafL (val0 := vI 3) (out0 := [(900, aM m), (11, bM m)]) (.inr rfl) (by kernel_rfl) (by rw [t_w3 h1 h2]) (by rw [t_w3 h1 h2] <;> rfl)
  ·
   refine ta ⟨[(0, .bref 11 0), (3, .bref 1004 0)], [(11, bM m), (900, aM m), (1004, bC 116 c)]⟩ rfl rfl rfl rfl ?_
   have hcw := cnt_wait hcc h1
   refine TK.rg (Y := tab) mixed rfl ?_
   refine rn rfl ?_
   refine rn rfl ?_
   refine RO (B.fadB rfl fa217_1 rfl) ?_
   refine rn rfl ?_
   refine RO (B.fadB rfl fa116_2 rfl) ?_
   refine RO (B.loadB rfl rfl rfl ag3 sz3 rfl) ?_
   refine RO (B.add rfl rfl (by have h1 := hok.2.1; have h2 := hok.2.2.1; have h3 := hok.2.2.2; unfold R64; omega)) ?_
   refine rn rfl ?_
   refine RO (B.fadB rfl fa217_1 rfl) ?_
   refine rn rfl ?_
   refine RG.nil (fun _ => by kernel_rfl) ?_
   refine Ap rfl ?_
   refine nr ⟨[(0, .bref 11 0)], [(11, .box 217 [vS (bsO m.1.1), vI m.1.2.1, vB m.1.2.2.1, vB m.1.2.2.2, vI (m.2.1 + c.2.2), vI 0, .aref 900 (m.2.2.length)]), (900, aM m)]⟩ rfl rfl rfl rfl ?_
   refine ag rfl ?_
   refine ra rfl ?_
   refine lf ?_
   exact leafL (val0 := vI 0) (out0 := [(900, aM m), (11, .box 217 [vS (bsO m.1.1), vI m.1.2.1, vB m.1.2.2.1, vB m.1.2.2.2, vI (m.2.1 + c.2.2), vI 0, .aref 900 (m.2.2.length)])]) (.inr rfl) (by kernel_rfl) (by rw [t_w0 h1 h2]) (by rw [t_w0 h1 h2] <;> rfl)
 ·
  refine na ⟨[(0, .bref 11 0), (3, .bref 1004 0)], [(11, bM m), (900, aM m), (1004, bC 116 c)]⟩ rfl rfl rfl rfl rfl ?_
  refine rn rfl ?_
  refine rn rfl ?_
  refine RO (B.fadB rfl fa217_2 rfl) ?_
  refine rn rfl ?_
  refine rn rfl ?_
  refine rn rfl ?_
  refine RO (B.fadB rfl fa217_3 rfl) ?_
  refine rn rfl ?_
  refine RO (B.lenA rfl rfl un86) ?_
  refine RO (B.add rfl rfl (by have h1 := hok.2.1; have h2 := hok.2.2.1; have h3 := hok.2.2.2; unfold R64; omega)) ?_
  refine RO (B.geq rfl rfl) ?_
  refine RG.nil (fun _ => by kernel_rfl) ?_
  refine Ap rfl ?_
  refine tn ⟨[(0, .bref 11 0), (3, .bref 1004 0), (37, vB (decide (1000 ≤ (0 + (m.2.2.length : Int)))))], [(11, bM m), (900, aM m), (1004, bC 116 c)]⟩ rfl rfl rfl ?_
  refine TK.condP rfl (fun h3 => ?_) (fun h3 => ?_)
  ·
   refine na ⟨[(0, .bref 11 0)], [(11, bM m), (900, aM m)]⟩ rfl rfl rfl rfl rfl ?_
   refine ag rfl ?_
   refine ra rfl ?_
   refine lf ?_
   exact leafL (val0 := vI 5) (out0 := [(900, aM m), (11, bM m)]) (.inr rfl) (by kernel_rfl) (by rw [t_5 h1 h3]) (by rw [t_5 h1 h3] <;> rfl)
  ·
   refine na ⟨[(0, .bref 11 0), (3, .bref 1004 0)], [(11, bM m), (900, aM m), (1004, bC 116 c)]⟩ rfl rfl rfl rfl rfl ?_
   refine rn rfl ?_
   refine rn rfl ?_
   refine RO (B.fadB rfl fa217_0 rfl) ?_
   refine rn rfl ?_
   refine RO (B.fadB rfl fa116_1 rfl) ?_
   refine RO (B.loadB rfl rfl rfl ag9 sz9 rfl) ?_
   refine RO (B.call (w139 hp hm hok.1 c.2.1) rfl rfl rfl) ?_
   refine rn rfl ?_
   refine rn rfl ?_
   refine rn rfl ?_
   refine rn rfl ?_
   refine rn rfl ?_
   refine ag rfl ?_
   refine RG.nil (fun _ => by kernel_rfl) ?_
   refine Ap rfl ?_
   refine nr ⟨[(0, .bref 11 0), (3, .bref 1004 0), (5, .bref 1006 0), (6, vI (actP m.1 c.2.1).2)], [(11, bM m), (900, aM m), (1004, bC 116 c), (1006, bS (actP m.1 c.2.1).1)]⟩ rfl rfl rfl rfl ?_
   refine mv rfl ?_
   refine RO (B.neq rfl rfl) ?_
   refine tz ⟨[(0, .bref 11 0), (3, .bref 1004 0), (5, .bref 1006 0), (6, vI (actP m.1 c.2.1).2), (49, vB (decide ((actP m.1 c.2.1).2 ≠ 0)))], [(11, bM m), (900, aM m), (1004, bC 116 c), (1006, bS (actP m.1 c.2.1).1)]⟩ rfl rfl rfl rfl ?_
   refine TK.condP rfl (fun h4 => ?_) (fun h4 => ?_)
   ·
    refine na ⟨[(0, .bref 11 0), (6, vI (actP m.1 c.2.1).2)], [(11, bM m), (900, aM m)]⟩ rfl rfl rfl rfl rfl ?_
    refine mv rfl ?_
    refine ag rfl ?_
    refine ra rfl ?_
    refine lf ?_
    exact leafL (val0 := vI (actP m.1 c.2.1).2) (out0 := [(900, aM m), (11, bM m)]) (.inr rfl) (by kernel_rfl) (by rw [t_e h1 h3 h4]) (by rw [t_e h1 h3 h4] <;> rfl)
   ·
    refine na ⟨[(0, .bref 11 0), (3, .bref 1004 0), (5, .bref 1006 0)], [(11, bM m), (900, aM m), (1004, bC 116 c), (1006, bS (actP m.1 c.2.1).1)]⟩ rfl rfl rfl rfl rfl ?_
    refine rn rfl ?_
    refine rn rfl ?_
    refine RO (B.loadBA rfl rfl rfl ag81 sz81 rfl rfl) ?_
    refine rn rfl ?_
    refine rn rfl ?_
    refine RO (B.fadB rfl fa217_3 rfl) ?_
    refine rn rfl ?_
    refine rn rfl ?_
    refine rn rfl ?_
    refine RO (B.fadB rfl fa217_1 rfl) ?_
    refine rn rfl ?_
    refine RO (B.fadB rfl fa116_1 rfl) ?_
    refine RO (B.loadB rfl rfl rfl ag9 sz9 rfl) ?_
    refine rn rfl ?_
    refine RO (B.runZ (val := .pv (.slice (List.map eP [(m.2.1, c.2.1)]))) (val0 := .aref 1066 0) (m0 := [(1066, .arr 0 2 164 [[pI (m.2.1, c.2.1).1, pS (bsO (m.2.1, c.2.1).2)]])]) (rd := []) (by kernel_rfl) (fun l => Frz.arr l _ _ _ _ _) rfl) ?_
    refine RO (B.append rfl rfl rfl un86 in164 rfl (fun _ => rfl) by164 (by have h1 := hok.2.1; have h2 := hok.2.2.1; have h3 := hok.2.2.2; (simp only [List.length_append, List.length_cons, List.length_nil]; omega))) ?_
    refine rn rfl ?_
    refine RO (B.fadB rfl fa217_0 rfl) ?_
    refine rn rfl ?_
    refine rn rfl ?_
    refine RO (B.fadB rfl fa217_3 rfl) ?_
    refine RO (B.storeR rfl rfl rfl rfl sz86 rfl rfl) ?_
    refine RG.nil (fun _ => by kernel_rfl) ?_
    refine Ap rfl ?_
    refine nr ⟨[(0, .bref 11 0)], [(11, .box 217 [vS (bsO (actP m.1 c.2.1).1.1), vI (actP m.1 c.2.1).1.2.1, vB (actP m.1 c.2.1).1.2.2.1, vB (actP m.1 c.2.1).1.2.2.2, vI m.2.1, vI 0, .aref 900 ((m.2.2.length) + 1)]), (900, .arr ((m.2.2.length) + 1) 2 164 (List.map eP (m.2.2 ++ [(m.2.1, c.2.1)])))]⟩ rfl rfl rfl rfl ?_
    refine ag rfl ?_
    refine ra rfl ?_
    refine lf ?_
    exact leafL (val0 := vI 0) (out0 := [(900, .arr ((m.2.2.length) + 1) 2 164 (List.map eP (m.2.2 ++ [(m.2.1, c.2.1)]))), (11, .box 217 [vS (bsO (actP m.1 c.2.1).1.1), vI (actP m.1 c.2.1).1.2.1, vB (actP m.1 c.2.1).1.2.2.1, vB (actP m.1 c.2.1).1.2.2.2, vI m.2.1, vI 0, .aref 900 ((m.2.2.length) + 1)])]) (.inr rfl) (by kernel_rfl) (by rw [t_0 h1 h3 h4]) (by rw [t_0 h1 h3 h4] <;> exact xO_snoc _ _ _ _)
theorem w124 (hp : PowLaid) (hm : OrcOk Tryz.prog (mergeO 121)) (m : Mc) (l : List Cmd) (d : Nat) (hok : OkM m) (hw : Wf d l) (hc : ∀ c ∈ l, chkC c = 0) (hl : l.length ≤ 64) (hd : d ≤ 4)
 (hrec : ∀ (b : List Cmd) (d1 : Nat) (m : Mc), b.length < l.length → Wf d1 b → (∀ c ∈ b, chkC c = 0) → d1 ≤ 4 → OkM m → CallOk Tryz.prog 124 [.bref 11 0, vL eC b] (lookM (xS m)) (vI (takes m (unrP b)).2) (xO (takes m (unrP b)).1)) : CallOk Tryz.prog 124 [.bref 11 0, vL eC l] (lookM (xS m)) (vI (takes m (unrP l)).2) (xO (takes m (unrP l)).1) := by
 refine cL 1001 (xS m) qf124 rfl (nB rfl) rfl rfl ?_
 refine na ⟨[(0, .bref 11 0), (1, vL eC l)], [(11, bM m), (900, aM m)]⟩ rfl rfl rfl rfl rfl ?_
 refine ag rfl ?_
 refine zn ⟨[(0, .bref 11 0), (1, vL eC l)], [(11, bM m), (900, aM m)]⟩ rfl rfl rfl rfl rfl ?_
 refine ag rfl ?_
 refine ra rfl ?_
 refine TK.loop (α := Nat × Mc) (fun x => ⟨[(0, .bref 11 0), (1, vL eC l), (5, vI ((x.1 : Nat) : Int))], [(11, bM x.2), (900, aM x.2)]⟩) (fun x => x.1 ≤ l.length ∧ Wf d (List.drop x.1 l) ∧ OkM x.2 ∧ takes m (unrP l) = takes x.2 (unrP (List.drop x.1 l))) (fun x => l.length - x.1) (0, m) ?_ (sb rfl rfl rfl) ?_
 · show 0 ≤ l.length ∧ Wf d (List.drop 0 l) ∧ OkM m ∧ takes m (unrP l) = takes m (unrP (List.drop 0 l))
   exact ⟨Nat.zero_le _, hw, hok, rfl⟩
 rintro ⟨i, a⟩ hI0
 replace hI0 : i ≤ l.length ∧ Wf d (List.drop i l) ∧ OkM a ∧ takes m (unrP l) = takes a (unrP (List.drop i l)) := hI0
 show TK _ _ _ _ _ _ ⟨[(0, .bref 11 0), (1, vL eC l), (5, vI i)], [(11, bM a), (900, aM a)]⟩
 refine na ⟨[(0, .bref 11 0), (1, vL eC l), (5, vI i)], [(11, bM a), (900, aM a)]⟩ rfl rfl rfl rfl rfl ?_
 refine mv rfl ?_
 refine mv rfl ?_
 refine RO (B.lenL rfl un82) ?_
 refine RO (B.lss rfl rfl) ?_
 refine tz ⟨[(0, .bref 11 0), (1, vL eC l), (5, vI i), (15, vB (decide ((i : Int) < (l.length : Int))))], [(11, bM a), (900, aM a)]⟩ rfl rfl rfl rfl ?_
 refine TK.condP rfl (fun h1 => ?_) (fun h1 => ?_)
 ·
  refine At rfl ?_
  refine TK.scope (fun _ _ h => by rcases h.1 with h | h <;> cases h) ?_
  refine na ⟨[(0, .bref 11 0), (1, vL eC l), (5, vI i)], [(11, bM a), (900, aM a)]⟩ rfl rfl rfl rfl rfl ?_
  refine mv rfl ?_
  refine mv rfl ?_
  refine RO (B.idx (z := z3) (i := i) rfl rfl un82 sz116 (fun _ => rfl) rfl (by omega)) ?_
  refine RO (B.fadP rfl fa116_0 rfl) ?_
  refine RO (B.loadP rfl ag9 sz9) ?_
  refine RO (B.sneB (a := (List.getD l i z3).1) (b := [114, 101, 112, 101, 97, 116]) rfl rfl) ?_
  refine tz ⟨[(0, .bref 11 0), (1, vL eC l), (5, vI i), (23, vB (decide ((List.getD l i z3).1 ≠ [114, 101, 112, 101, 97, 116])))], [(11, bM a), (900, aM a)]⟩ rfl rfl rfl rfl ?_
  refine TK.condP rfl (fun h2 => ?_) (fun h2 => ?_)
  ·
   refine ta ⟨[(0, .bref 11 0), (1, vL eC l), (5, vI i)], [(11, bM a), (900, aM a)]⟩ rfl rfl rfl rfl ?_
   have hci := hc _ (getD_mem (z := z3) (k := i) (by omega))
   refine TK.rg (Y := tab) mixed rfl ?_
   refine rn rfl ?_
   refine mv rfl ?_
   refine mv rfl ?_
   refine RO (B.idx (z := z3) (i := i) rfl rfl un82 sz116 (fun _ => rfl) rfl (by omega)) ?_
   refine RO (B.loadA (ds := [pS (bsO (List.getD l i z3).1), pS (bsO (List.getD l i z3).2.1), pI (List.getD l i z3).2.2]) rfl ag116 sz116 (nB rfl) rfl) ?_
   refine RO (B.callS (l := xS a) (w183 hp hm a (List.getD l i z3) hI0.2.2.1 hci) rfl rfl ⟨rfl, rfl, trivial⟩ rfl rfl) ?_
   refine ag rfl ?_
   refine zn ⟨[(0, .bref 11 0), (1, vL eC l), (5, vI i), (6, vI (take1 a (List.getD l i z3)).2)], [(11, bM (take1 a (List.getD l i z3)).1), (900, aM (take1 a (List.getD l i z3)).1)]⟩ rfl rfl rfl rfl rfl ?_
   refine mv rfl ?_
   refine RO (B.neq rfl rfl) ?_
   refine tz ⟨[(0, .bref 11 0), (1, vL eC l), (5, vI i), (6, vI (take1 a (List.getD l i z3)).2), (31, vB (decide ((take1 a (List.getD l i z3)).2 ≠ 0)))], [(11, bM (take1 a (List.getD l i z3)).1), (900, aM (take1 a (List.getD l i z3)).1)]⟩ rfl rfl rfl rfl ?_
   refine TK.condP rfl (fun h3 => ?_) (fun h3 => ?_)
   ·
    refine na ⟨[(0, .bref 11 0), (6, vI (take1 a (List.getD l i z3)).2)], [(11, bM (take1 a (List.getD l i z3)).1), (900, aM (take1 a (List.getD l i z3)).1)]⟩ rfl rfl rfl rfl rfl ?_
    refine mv rfl ?_
    refine ag rfl ?_
    refine ra rfl ?_
    refine lf ?_
    exact leafL (val0 := vI (take1 a (List.getD l i z3)).2) (out0 := [(900, aM (take1 a (List.getD l i z3)).1), (11, bM (take1 a (List.getD l i z3)).1)]) (.inr rfl) (by kernel_rfl) (by rw [r_bad hI0.2 (by omega) h2 h3]) (by rw [r_bad hI0.2 (by omega) h2 h3])
   ·
    refine At rfl ?_
    refine TK.exit ?_
    refine PK.exit rfl ?_
    refine Ap rfl ?_
    refine nr ⟨[(0, .bref 11 0), (1, vL eC l), (5, vI i)], [(11, bM (take1 a (List.getD l i z3)).1), (900, aM (take1 a (List.getD l i z3)).1)]⟩ rfl rfl rfl rfl ?_
    refine mv rfl ?_
    refine RO (B.add rfl rfl (by unfold R64; omega)) ?_
    refine ag rfl ?_
    refine RN ?_
    refine Aq rfl ?_
    refine PK.lp ?_
    refine LP.mk ((i + 1), (take1 a (List.getD l i z3)).1) ?_ ?_ (sb rfl rfl rfl)
    · show (i + 1) ≤ l.length ∧ Wf d (List.drop (i + 1) l) ∧ OkM (take1 a (List.getD l i z3)).1 ∧ takes m (unrP l) = takes (take1 a (List.getD l i z3)).1 (unrP (List.drop (i + 1) l))
      exact r_next hI0.2 hc (by omega) h2 (Decidable.not_not.1 h3)
    · show l.length - (i + 1) < l.length - i
      omega
  ·
   refine ta ⟨[(0, .bref 11 0), (1, vL eC l), (5, vI i)], [(11, bM a), (900, aM a)]⟩ rfl rfl rfl rfl ?_
   have hci := hc _ (getD_mem (z := z3) (k := i) (by omega))
   refine TK.rg (Y := tab) mixed rfl ?_
   refine mv rfl ?_
   refine ag rfl ?_
   refine ag rfl ?_
   refine ra rfl ?_
   refine TK.label ?_
   refine Ap rfl ?_
   refine nr ⟨[(0, .bref 11 0), (1, vL eC l), (5, vI i), (7, vI i), (8, vI 0)], [(11, bM a), (900, aM a)]⟩ rfl rfl rfl rfl ?_
   refine mv rfl ?_
   refine mv rfl ?_
   refine RO (B.slDL (i := i) rfl rfl un82 sz116 (fun _ => rfl) rfl (by omega)) ?_
   refine RO (B.lenL rfl un82) ?_
   refine mv rfl ?_
   refine ra rfl ?_
   refine TK.loop (α := Nat × Int) (fun x => ⟨[(0, .bref 11 0), (1, vL eC l), (5, vI i), (7, vI i), (8, vI x.2), (36, vL eC (List.drop i l)), (37, vI ((List.length (List.drop i l) : Nat) : Int)), (38, vI ((x.1 : Nat) : Int))], [(11, bM a), (900, aM a)]⟩) (fun x => MtI l i x.1 x.2) (fun x => l.length - x.1) (0, 0) ?_ (sb rfl rfl rfl) ?_
   · show MtI l i 0 0
     exact mt_start (by omega)
   rintro ⟨k, q⟩ hI1
   replace hI1 : MtI l i k q := hI1
   have hkl := mt_drop hI1
   show TK _ _ _ _ _ _ ⟨[(0, .bref 11 0), (1, vL eC l), (5, vI i), (7, vI i), (8, vI q), (36, vL eC (List.drop i l)), (37, vI ((List.length (List.drop i l) : Nat) : Int)), (38, vI k)], [(11, bM a), (900, aM a)]⟩
   refine na ⟨[(0, .bref 11 0), (1, vL eC l), (5, vI i), (7, vI i), (8, vI q), (36, vL eC (List.drop i l)), (37, vI ((List.length (List.drop i l) : Nat) : Int)), (38, vI k)], [(11, bM a), (900, aM a)]⟩ rfl rfl rfl rfl rfl ?_
   refine RO (B.lss rfl rfl) ?_
   refine tz ⟨[(0, .bref 11 0), (1, vL eC l), (5, vI i), (7, vI i), (8, vI q), (36, vL eC (List.drop i l)), (37, vI ((List.length (List.drop i l) : Nat) : Int)), (38, vI k), (39, vB (decide ((k : Int) < ((List.length (List.drop i l) : Nat) : Int))))], [(11, bM a), (900, aM a)]⟩ rfl rfl rfl rfl ?_
   refine TK.condP rfl (fun h4 => ?_) (fun h4 => ?_)
   ·
    refine na ⟨[(0, .bref 11 0), (1, vL eC l), (5, vI i), (7, vI i), (8, vI q), (36, vL eC (List.drop i l)), (37, vI ((List.length (List.drop i l) : Nat) : Int)), (38, vI k)], [(11, bM a), (900, aM a)]⟩ rfl rfl rfl rfl rfl ?_
    refine mv rfl ?_
    refine RO (B.idx (z := z3) (i := k) rfl rfl un82 sz116 (fun _ => rfl) rfl (by omega)) ?_
    refine RO (B.loadA (ds := [pS (bsO (List.getD (List.drop i l) k z3).1), pS (bsO (List.getD (List.drop i l) k z3).2.1), pI (List.getD (List.drop i l) k z3).2.2]) rfl ag116 sz116 (nB rfl) rfl) ?_
    refine rn rfl ?_
    refine ag rfl ?_
    refine rn rfl ?_
    refine zn ⟨[(0, .bref 11 0), (1, vL eC l), (5, vI i), (7, vI i), (8, vI q), (9, vI k), (10, .bref 1011 0), (36, vL eC (List.drop i l)), (37, vI ((List.length (List.drop i l) : Nat) : Int)), (38, vI k)], [(11, bM a), (900, aM a), (1011, bC 116 (List.getD (List.drop i l) k z3))]⟩ rfl rfl rfl rfl rfl ?_
    refine RO (B.fadB rfl fa116_0 rfl) ?_
    refine RO (B.loadB rfl rfl rfl ag9 sz9 rfl) ?_
    refine zn ⟨[(0, .bref 11 0), (1, vL eC l), (5, vI i), (7, vI i), (8, vI q), (9, vI k), (36, vL eC (List.drop i l)), (37, vI ((List.length (List.drop i l) : Nat) : Int)), (38, vI k), (44, vS (bsO (List.getD (List.drop i l) k z3).1))], [(11, bM a), (900, aM a)]⟩ rfl rfl rfl rfl rfl ?_
    refine RO (B.seqB (a := (List.getD (List.drop i l) k z3).1) (b := [114, 101, 112, 101, 97, 116]) rfl rfl) ?_
    refine ag rfl ?_
    refine tz ⟨[(0, .bref 11 0), (1, vL eC l), (5, vI i), (7, vI i), (8, vI q), (9, vI k), (36, vL eC (List.drop i l)), (37, vI ((List.length (List.drop i l) : Nat) : Int)), (38, vI k), (44, vS (bsO (List.getD (List.drop i l) k z3).1)), (45, vB (decide ((List.getD (List.drop i l) k z3).1 = [114, 101, 112, 101, 97, 116])))], [(11, bM a), (900, aM a)]⟩ rfl rfl rfl rfl ?_
    refine TK.condP rfl (fun h5 => ?_) (fun h5 => ?_)
    ·
     refine na ⟨[(0, .bref 11 0), (1, vL eC l), (5, vI i), (7, vI i), (8, vI q), (9, vI k), (36, vL eC (List.drop i l)), (37, vI ((List.length (List.drop i l) : Nat) : Int)), (38, vI k)], [(11, bM a), (900, aM a)]⟩ rfl rfl rfl rfl rfl ?_
     refine mv rfl ?_
     refine RO (B.add rfl rfl (by unfold R64; omega)) ?_
     refine ag rfl ?_
     refine zn ⟨[(0, .bref 11 0), (1, vL eC l), (5, vI i), (7, vI i), (8, vI (q + 1)), (9, vI k), (36, vL eC (List.drop i l)), (37, vI ((List.length (List.drop i l) : Nat) : Int)), (38, vI k)], [(11, bM a), (900, aM a)]⟩ rfl rfl rfl rfl rfl ?_
     refine mv rfl ?_
     refine RO (B.eql rfl rfl) ?_
     refine tz ⟨[(0, .bref 11 0), (1, vL eC l), (5, vI i), (7, vI i), (8, vI (q + 1)), (9, vI k), (36, vL eC (List.drop i l)), (37, vI ((List.length (List.drop i l) : Nat) : Int)), (38, vI k), (54, vB (decide ((q + 1) = 0)))], [(11, bM a), (900, aM a)]⟩ rfl rfl rfl rfl ?_
     refine TK.condP rfl (fun h6 => ?_) (fun h6 => ?_)
     ·
      refine na ⟨[(0, .bref 11 0), (1, vL eC l), (5, vI i), (9, vI k)], [(11, bM a), (900, aM a)]⟩ rfl rfl rfl rfl rfl ?_
      refine mv rfl ?_
      refine mv rfl ?_
      refine RO (B.add rfl rfl (by unfold R64; omega)) ?_
      refine ag rfl ?_
      refine ra rfl ?_
      refine TK.exit ?_
      refine PK.exit rfl ?_
      refine Ap rfl ?_
      refine tn ⟨[(0, .bref 11 0), (1, vL eC l), (5, vI i), (7, vI ((i : Int) + (k : Int)))], [(11, bM a), (900, aM a)]⟩ rfl rfl rfl ?_
      have hrp := Decidable.not_not.1 h2
      obtain ⟨d1, e, hde, he, he1, he2, hwb, hwr, hle⟩ := wf_at hI0.2.1 (by omega) hrp
      have hek : e = i + k := by omega
      rw [show ((i : Int) + (k : Int)) = (e : Int) by omega]
      have hue := wf_at_unr hI0.2.1 (by omega) hrp
      rw [← he] at hue
      have hcb : ∀ c ∈ List.drop (i + 1) (List.take e l), chkC c = 0 := fun c h => hc c (List.mem_of_mem_take (List.mem_of_mem_drop h))
      have hbl : (List.drop (i + 1) (List.take e l)).length < l.length := by rw [List.length_drop, List.length_take]; omega
      have hcn := cnt_rep hci hrp
      refine TK.rg (Y := tab) mixed rfl ?_
      refine mv rfl ?_
      refine mv rfl ?_
      refine RO (B.idx (z := z3) (i := i) rfl rfl un82 sz116 (fun _ => rfl) rfl (by omega)) ?_
      refine RO (B.fadP rfl fa116_2 rfl) ?_
      refine RO (B.loadP rfl ag3 sz3) ?_
      refine mv rfl ?_
      refine ra rfl ?_
      refine TK.loop (α := Nat × Mc) (fun x => ⟨[(0, .bref 11 0), (1, vL eC l), (5, vI i), (7, vI e), (63, vI (List.getD l i z3).2.2), (64, vI ((x.1 : Nat) : Int))], [(11, bM x.2), (900, aM x.2)]⟩) (fun x => x.1 ≤ (List.getD l i z3).2.2.toNat ∧ OkM x.2 ∧ takes a (tms x.1 (unrP (List.drop (i + 1) (List.take e l)))) = (x.2, 0)) (fun x => (List.getD l i z3).2.2.toNat - x.1) (0, a) ?_ (sb rfl rfl rfl) ?_
      · show 0 ≤ (List.getD l i z3).2.2.toNat ∧ OkM a ∧ takes a (tms 0 (unrP (List.drop (i + 1) (List.take e l)))) = (a, 0)
        exact ⟨Nat.zero_le _, hI0.2.2.1, rfl⟩
      rintro ⟨j, b⟩ hI2
      replace hI2 : j ≤ (List.getD l i z3).2.2.toNat ∧ OkM b ∧ takes a (tms j (unrP (List.drop (i + 1) (List.take e l)))) = (b, 0) := hI2
      show TK _ _ _ _ _ _ ⟨[(0, .bref 11 0), (1, vL eC l), (5, vI i), (7, vI e), (63, vI (List.getD l i z3).2.2), (64, vI j)], [(11, bM b), (900, aM b)]⟩
      refine na ⟨[(0, .bref 11 0), (1, vL eC l), (5, vI i), (7, vI e), (63, vI (List.getD l i z3).2.2), (64, vI j)], [(11, bM b), (900, aM b)]⟩ rfl rfl rfl rfl rfl ?_
      refine RO (B.lss rfl rfl) ?_
      refine tz ⟨[(0, .bref 11 0), (1, vL eC l), (5, vI i), (7, vI e), (63, vI (List.getD l i z3).2.2), (64, vI j), (65, vB (decide ((j : Int) < (List.getD l i z3).2.2)))], [(11, bM b), (900, aM b)]⟩ rfl rfl rfl rfl ?_
      refine TK.condP rfl (fun h7 => ?_) (fun h7 => ?_)
      ·
       refine na ⟨[(0, .bref 11 0), (1, vL eC l), (5, vI i), (7, vI e), (63, vI (List.getD l i z3).2.2), (64, vI j)], [(11, bM b), (900, aM b)]⟩ rfl rfl rfl rfl rfl ?_
       refine rn rfl ?_
       refine mv rfl ?_
       refine mv rfl ?_
       refine RO (B.add rfl rfl (by unfold R64; omega)) ?_
       refine mv rfl ?_
       refine RO (B.slTD (i := (i + 1)) (j := e) rfl rfl rfl un82 sz116 (fun _ => rfl) (by omega) rfl (by omega) (by omega)) ?_
       refine RO (B.callS (l := xS b) (hrec (List.drop (i + 1) (List.take e l)) d1 b hbl hwb hcb (by omega) hI2.2.1) rfl rfl ⟨rfl, rfl, trivial⟩ rfl rfl) ?_
       refine ag rfl ?_
       refine zn ⟨[(0, .bref 11 0), (1, vL eC l), (5, vI i), (7, vI e), (11, vI (takes b (unrP (List.drop (i + 1) (List.take e l)))).2), (63, vI (List.getD l i z3).2.2), (64, vI j)], [(11, bM (takes b (unrP (List.drop (i + 1) (List.take e l)))).1), (900, aM (takes b (unrP (List.drop (i + 1) (List.take e l)))).1)]⟩ rfl rfl rfl rfl rfl ?_
       refine mv rfl ?_
       refine RO (B.neq rfl rfl) ?_
       refine tz ⟨[(0, .bref 11 0), (1, vL eC l), (5, vI i), (7, vI e), (11, vI (takes b (unrP (List.drop (i + 1) (List.take e l)))).2), (63, vI (List.getD l i z3).2.2), (64, vI j), (74, vB (decide ((takes b (unrP (List.drop (i + 1) (List.take e l)))).2 ≠ 0)))], [(11, bM (takes b (unrP (List.drop (i + 1) (List.take e l)))).1), (900, aM (takes b (unrP (List.drop (i + 1) (List.take e l)))).1)]⟩ rfl rfl rfl rfl ?_
       refine TK.condP rfl (fun h8 => ?_) (fun h8 => ?_)
       ·
        refine na ⟨[(0, .bref 11 0), (11, vI (takes b (unrP (List.drop (i + 1) (List.take e l)))).2)], [(11, bM (takes b (unrP (List.drop (i + 1) (List.take e l)))).1), (900, aM (takes b (unrP (List.drop (i + 1) (List.take e l)))).1)]⟩ rfl rfl rfl rfl rfl ?_
        refine mv rfl ?_
        refine ag rfl ?_
        refine ra rfl ?_
        refine lf ?_
        exact leafL (val0 := vI (takes b (unrP (List.drop (i + 1) (List.take e l)))).2) (out0 := [(900, aM (takes b (unrP (List.drop (i + 1) (List.take e l)))).1), (11, bM (takes b (unrP (List.drop (i + 1) (List.take e l)))).1)]) (.inr rfl) (by kernel_rfl) (by rw [r_bad2 hI0.2.2.2 hue hI2.2.2 (by omega) (by assumption)]) (by rw [r_bad2 hI0.2.2.2 hue hI2.2.2 (by omega) (by assumption)])
       ·
        refine na ⟨[(0, .bref 11 0), (1, vL eC l), (5, vI i), (7, vI e), (63, vI (List.getD l i z3).2.2), (64, vI j)], [(11, bM (takes b (unrP (List.drop (i + 1) (List.take e l)))).1), (900, aM (takes b (unrP (List.drop (i + 1) (List.take e l)))).1)]⟩ rfl rfl rfl rfl rfl ?_
        refine RO (B.add rfl rfl (by unfold R64; omega)) ?_
        refine mv rfl ?_
        refine RN ?_
        refine Aq rfl ?_
        refine PK.lp ?_
        refine LP.mk ((j + 1), (takes b (unrP (List.drop (i + 1) (List.take e l)))).1) ?_ ?_ (sb rfl rfl rfl)
        · show (j + 1) ≤ (List.getD l i z3).2.2.toNat ∧ OkM (takes b (unrP (List.drop (i + 1) (List.take e l)))).1 ∧ takes a (tms (j + 1) (unrP (List.drop (i + 1) (List.take e l)))) = ((takes b (unrP (List.drop (i + 1) (List.take e l)))).1, 0)
          exact ⟨by omega, takes_okM hI2.2.1 (unr_chk hwb hcb), tms_next hI2.2.2 (Decidable.not_not.1 (by assumption))⟩
        · show (List.getD l i z3).2.2.toNat - (j + 1) < (List.getD l i z3).2.2.toNat - j
          omega
      ·
       refine At rfl ?_
       refine TK.exit ?_
       refine PK.exit rfl ?_
       refine Ap rfl ?_
       refine nr ⟨[(0, .bref 11 0), (1, vL eC l), (7, vI e)], [(11, bM b), (900, aM b)]⟩ rfl rfl rfl rfl ?_
       refine mv rfl ?_
       refine ag rfl ?_
       refine zn ⟨[(0, .bref 11 0), (1, vL eC l), (5, vI e)], [(11, bM b), (900, aM b)]⟩ rfl rfl rfl rfl rfl ?_
       refine mv rfl ?_
       refine RO (B.add rfl rfl (by unfold R64; omega)) ?_
       refine ag rfl ?_
       refine RN ?_
       refine Aq rfl ?_
       refine PK.lp ?_
       refine LP.mk ((e + 1), b) ?_ ?_ (sb rfl rfl rfl)
       · show (e + 1) ≤ l.length ∧ Wf d (List.drop (e + 1) l) ∧ OkM b ∧ takes m (unrP l) = takes b (unrP (List.drop (e + 1) l))
         exact ⟨by omega, hwr, hI2.2.1, r_rep hI0.2.2.2 hue hI2.2.2 (by omega)⟩
       · show l.length - (e + 1) < l.length - i
         omega
     ·
      refine na ⟨[(0, .bref 11 0), (1, vL eC l), (5, vI i), (7, vI i), (8, vI (q + 1)), (36, vL eC (List.drop i l)), (37, vI ((List.length (List.drop i l) : Nat) : Int)), (38, vI k)], [(11, bM a), (900, aM a)]⟩ rfl rfl rfl rfl rfl ?_
      refine RO (B.add rfl rfl (by unfold R64; omega)) ?_
      refine mv rfl ?_
      refine RN ?_
      refine Aq rfl ?_
      refine PK.lp ?_
      refine LP.mk ((k + 1), (q + 1)) ?_ ?_ (sb rfl rfl rfl)
      · show MtI l i (k + 1) (q + 1)
        exact mt_rep hI1 (by omega) (by assumption)
      · show l.length - (k + 1) < l.length - k
        omega
    ·
     refine na ⟨[(0, .bref 11 0), (1, vL eC l), (5, vI i), (7, vI i), (8, vI q), (9, vI k), (36, vL eC (List.drop i l)), (37, vI ((List.length (List.drop i l) : Nat) : Int)), (38, vI k), (44, vS (bsO (List.getD (List.drop i l) k z3).1))], [(11, bM a), (900, aM a)]⟩ rfl rfl rfl rfl rfl ?_
     refine RO (B.seqB (a := (List.getD (List.drop i l) k z3).1) (b := [101, 110, 100]) rfl rfl) ?_
     refine ag rfl ?_
     refine tz ⟨[(0, .bref 11 0), (1, vL eC l), (5, vI i), (7, vI i), (8, vI q), (9, vI k), (36, vL eC (List.drop i l)), (37, vI ((List.length (List.drop i l) : Nat) : Int)), (38, vI k), (49, vB (decide ((List.getD (List.drop i l) k z3).1 = [101, 110, 100])))], [(11, bM a), (900, aM a)]⟩ rfl rfl rfl rfl ?_
     refine TK.condP rfl (fun h9 => ?_) (fun h9 => ?_)
     ·
      refine na ⟨[(0, .bref 11 0), (1, vL eC l), (5, vI i), (7, vI i), (8, vI q), (9, vI k), (36, vL eC (List.drop i l)), (37, vI ((List.length (List.drop i l) : Nat) : Int)), (38, vI k)], [(11, bM a), (900, aM a)]⟩ rfl rfl rfl rfl rfl ?_
      refine mv rfl ?_
      refine RO (B.sub rfl rfl (by unfold R64; omega)) ?_
      refine ag rfl ?_
      refine zn ⟨[(0, .bref 11 0), (1, vL eC l), (5, vI i), (7, vI i), (8, vI (q - 1)), (9, vI k), (36, vL eC (List.drop i l)), (37, vI ((List.length (List.drop i l) : Nat) : Int)), (38, vI k)], [(11, bM a), (900, aM a)]⟩ rfl rfl rfl rfl rfl ?_
      refine mv rfl ?_
      refine RO (B.eql rfl rfl) ?_
      refine tz ⟨[(0, .bref 11 0), (1, vL eC l), (5, vI i), (7, vI i), (8, vI (q - 1)), (9, vI k), (36, vL eC (List.drop i l)), (37, vI ((List.length (List.drop i l) : Nat) : Int)), (38, vI k), (54, vB (decide ((q - 1) = 0)))], [(11, bM a), (900, aM a)]⟩ rfl rfl rfl rfl ?_
      refine TK.condP rfl (fun h10 => ?_) (fun h10 => ?_)
      ·
       refine na ⟨[(0, .bref 11 0), (1, vL eC l), (5, vI i), (9, vI k)], [(11, bM a), (900, aM a)]⟩ rfl rfl rfl rfl rfl ?_
       refine mv rfl ?_
       refine mv rfl ?_
       refine RO (B.add rfl rfl (by unfold R64; omega)) ?_
       refine ag rfl ?_
       refine ra rfl ?_
       refine TK.exit ?_
       refine PK.exit rfl ?_
       refine Ap rfl ?_
       refine tn ⟨[(0, .bref 11 0), (1, vL eC l), (5, vI i), (7, vI ((i : Int) + (k : Int)))], [(11, bM a), (900, aM a)]⟩ rfl rfl rfl ?_
       have hrp := Decidable.not_not.1 h2
       obtain ⟨d1, e, hde, he, he1, he2, hwb, hwr, hle⟩ := wf_at hI0.2.1 (by omega) hrp
       have hek : e = i + k := by exact he.trans (mt_found hI1 (by omega) (by assumption) (by omega))
       rw [show ((i : Int) + (k : Int)) = (e : Int) by omega]
       have hue := wf_at_unr hI0.2.1 (by omega) hrp
       rw [← he] at hue
       have hcb : ∀ c ∈ List.drop (i + 1) (List.take e l), chkC c = 0 := fun c h => hc c (List.mem_of_mem_take (List.mem_of_mem_drop h))
       have hbl : (List.drop (i + 1) (List.take e l)).length < l.length := by rw [List.length_drop, List.length_take]; omega
       have hcn := cnt_rep hci hrp
       refine TK.rg (Y := tab) mixed rfl ?_
       refine mv rfl ?_
       refine mv rfl ?_
       refine RO (B.idx (z := z3) (i := i) rfl rfl un82 sz116 (fun _ => rfl) rfl (by omega)) ?_
       refine RO (B.fadP rfl fa116_2 rfl) ?_
       refine RO (B.loadP rfl ag3 sz3) ?_
       refine mv rfl ?_
       refine ra rfl ?_
       refine TK.loop (α := Nat × Mc) (fun x => ⟨[(0, .bref 11 0), (1, vL eC l), (5, vI i), (7, vI e), (63, vI (List.getD l i z3).2.2), (64, vI ((x.1 : Nat) : Int))], [(11, bM x.2), (900, aM x.2)]⟩) (fun x => x.1 ≤ (List.getD l i z3).2.2.toNat ∧ OkM x.2 ∧ takes a (tms x.1 (unrP (List.drop (i + 1) (List.take e l)))) = (x.2, 0)) (fun x => (List.getD l i z3).2.2.toNat - x.1) (0, a) ?_ (sb rfl rfl rfl) ?_
       · show 0 ≤ (List.getD l i z3).2.2.toNat ∧ OkM a ∧ takes a (tms 0 (unrP (List.drop (i + 1) (List.take e l)))) = (a, 0)
         exact ⟨Nat.zero_le _, hI0.2.2.1, rfl⟩
       rintro ⟨j, b⟩ hI2
       replace hI2 : j ≤ (List.getD l i z3).2.2.toNat ∧ OkM b ∧ takes a (tms j (unrP (List.drop (i + 1) (List.take e l)))) = (b, 0) := hI2
       show TK _ _ _ _ _ _ ⟨[(0, .bref 11 0), (1, vL eC l), (5, vI i), (7, vI e), (63, vI (List.getD l i z3).2.2), (64, vI j)], [(11, bM b), (900, aM b)]⟩
       refine na ⟨[(0, .bref 11 0), (1, vL eC l), (5, vI i), (7, vI e), (63, vI (List.getD l i z3).2.2), (64, vI j)], [(11, bM b), (900, aM b)]⟩ rfl rfl rfl rfl rfl ?_
       refine RO (B.lss rfl rfl) ?_
       refine tz ⟨[(0, .bref 11 0), (1, vL eC l), (5, vI i), (7, vI e), (63, vI (List.getD l i z3).2.2), (64, vI j), (65, vB (decide ((j : Int) < (List.getD l i z3).2.2)))], [(11, bM b), (900, aM b)]⟩ rfl rfl rfl rfl ?_
       refine TK.condP rfl (fun h11 => ?_) (fun h11 => ?_)
       ·
        refine na ⟨[(0, .bref 11 0), (1, vL eC l), (5, vI i), (7, vI e), (63, vI (List.getD l i z3).2.2), (64, vI j)], [(11, bM b), (900, aM b)]⟩ rfl rfl rfl rfl rfl ?_
        refine rn rfl ?_
        refine mv rfl ?_
        refine mv rfl ?_
        refine RO (B.add rfl rfl (by unfold R64; omega)) ?_
        refine mv rfl ?_
        refine RO (B.slTD (i := (i + 1)) (j := e) rfl rfl rfl un82 sz116 (fun _ => rfl) (by omega) rfl (by omega) (by omega)) ?_
        refine RO (B.callS (l := xS b) (hrec (List.drop (i + 1) (List.take e l)) d1 b hbl hwb hcb (by omega) hI2.2.1) rfl rfl ⟨rfl, rfl, trivial⟩ rfl rfl) ?_
        refine ag rfl ?_
        refine zn ⟨[(0, .bref 11 0), (1, vL eC l), (5, vI i), (7, vI e), (11, vI (takes b (unrP (List.drop (i + 1) (List.take e l)))).2), (63, vI (List.getD l i z3).2.2), (64, vI j)], [(11, bM (takes b (unrP (List.drop (i + 1) (List.take e l)))).1), (900, aM (takes b (unrP (List.drop (i + 1) (List.take e l)))).1)]⟩ rfl rfl rfl rfl rfl ?_
        refine mv rfl ?_
        refine RO (B.neq rfl rfl) ?_
        refine tz ⟨[(0, .bref 11 0), (1, vL eC l), (5, vI i), (7, vI e), (11, vI (takes b (unrP (List.drop (i + 1) (List.take e l)))).2), (63, vI (List.getD l i z3).2.2), (64, vI j), (74, vB (decide ((takes b (unrP (List.drop (i + 1) (List.take e l)))).2 ≠ 0)))], [(11, bM (takes b (unrP (List.drop (i + 1) (List.take e l)))).1), (900, aM (takes b (unrP (List.drop (i + 1) (List.take e l)))).1)]⟩ rfl rfl rfl rfl ?_
        refine TK.condP rfl (fun h12 => ?_) (fun h12 => ?_)
        ·
         refine na ⟨[(0, .bref 11 0), (11, vI (takes b (unrP (List.drop (i + 1) (List.take e l)))).2)], [(11, bM (takes b (unrP (List.drop (i + 1) (List.take e l)))).1), (900, aM (takes b (unrP (List.drop (i + 1) (List.take e l)))).1)]⟩ rfl rfl rfl rfl rfl ?_
         refine mv rfl ?_
         refine ag rfl ?_
         refine ra rfl ?_
         refine lf ?_
         exact leafL (val0 := vI (takes b (unrP (List.drop (i + 1) (List.take e l)))).2) (out0 := [(900, aM (takes b (unrP (List.drop (i + 1) (List.take e l)))).1), (11, bM (takes b (unrP (List.drop (i + 1) (List.take e l)))).1)]) (.inr rfl) (by kernel_rfl) (by rw [r_bad2 hI0.2.2.2 hue hI2.2.2 (by omega) (by assumption)]) (by rw [r_bad2 hI0.2.2.2 hue hI2.2.2 (by omega) (by assumption)])
        ·
         refine na ⟨[(0, .bref 11 0), (1, vL eC l), (5, vI i), (7, vI e), (63, vI (List.getD l i z3).2.2), (64, vI j)], [(11, bM (takes b (unrP (List.drop (i + 1) (List.take e l)))).1), (900, aM (takes b (unrP (List.drop (i + 1) (List.take e l)))).1)]⟩ rfl rfl rfl rfl rfl ?_
         refine RO (B.add rfl rfl (by unfold R64; omega)) ?_
         refine mv rfl ?_
         refine RN ?_
         refine Aq rfl ?_
         refine PK.lp ?_
         refine LP.mk ((j + 1), (takes b (unrP (List.drop (i + 1) (List.take e l)))).1) ?_ ?_ (sb rfl rfl rfl)
         · show (j + 1) ≤ (List.getD l i z3).2.2.toNat ∧ OkM (takes b (unrP (List.drop (i + 1) (List.take e l)))).1 ∧ takes a (tms (j + 1) (unrP (List.drop (i + 1) (List.take e l)))) = ((takes b (unrP (List.drop (i + 1) (List.take e l)))).1, 0)
           exact ⟨by omega, takes_okM hI2.2.1 (unr_chk hwb hcb), tms_next hI2.2.2 (Decidable.not_not.1 (by assumption))⟩
         · show (List.getD l i z3).2.2.toNat - (j + 1) < (List.getD l i z3).2.2.toNat - j
           omega
       ·
        refine At rfl ?_
        refine TK.exit ?_
        refine PK.exit rfl ?_
        refine Ap rfl ?_
        refine nr ⟨[(0, .bref 11 0), (1, vL eC l), (7, vI e)], [(11, bM b), (900, aM b)]⟩ rfl rfl rfl rfl ?_
        refine mv rfl ?_
        refine ag rfl ?_
        refine zn ⟨[(0, .bref 11 0), (1, vL eC l), (5, vI e)], [(11, bM b), (900, aM b)]⟩ rfl rfl rfl rfl rfl ?_
        refine mv rfl ?_
        refine RO (B.add rfl rfl (by unfold R64; omega)) ?_
        refine ag rfl ?_
        refine RN ?_
        refine Aq rfl ?_
        refine PK.lp ?_
        refine LP.mk ((e + 1), b) ?_ ?_ (sb rfl rfl rfl)
        · show (e + 1) ≤ l.length ∧ Wf d (List.drop (e + 1) l) ∧ OkM b ∧ takes m (unrP l) = takes b (unrP (List.drop (e + 1) l))
          exact ⟨by omega, hwr, hI2.2.1, r_rep hI0.2.2.2 hue hI2.2.2 (by omega)⟩
        · show l.length - (e + 1) < l.length - i
          omega
      ·
       refine na ⟨[(0, .bref 11 0), (1, vL eC l), (5, vI i), (7, vI i), (8, vI (q - 1)), (36, vL eC (List.drop i l)), (37, vI ((List.length (List.drop i l) : Nat) : Int)), (38, vI k)], [(11, bM a), (900, aM a)]⟩ rfl rfl rfl rfl rfl ?_
       refine RO (B.add rfl rfl (by unfold R64; omega)) ?_
       refine mv rfl ?_
       refine RN ?_
       refine Aq rfl ?_
       refine PK.lp ?_
       refine LP.mk ((k + 1), (q - 1)) ?_ ?_ (sb rfl rfl rfl)
       · show MtI l i (k + 1) (q - 1)
         exact mt_end hI1 (by omega) (by assumption) (Decidable.not_not.1 h2) (by assumption)
       · show l.length - (k + 1) < l.length - k
         omega
     ·
      refine na ⟨[(0, .bref 11 0), (1, vL eC l), (5, vI i), (7, vI i), (8, vI q), (9, vI k), (36, vL eC (List.drop i l)), (37, vI ((List.length (List.drop i l) : Nat) : Int)), (38, vI k)], [(11, bM a), (900, aM a)]⟩ rfl rfl rfl rfl rfl ?_
      refine mv rfl ?_
      refine RO (B.eql rfl rfl) ?_
      refine tz ⟨[(0, .bref 11 0), (1, vL eC l), (5, vI i), (7, vI i), (8, vI q), (9, vI k), (36, vL eC (List.drop i l)), (37, vI ((List.length (List.drop i l) : Nat) : Int)), (38, vI k), (54, vB (decide (q = 0)))], [(11, bM a), (900, aM a)]⟩ rfl rfl rfl rfl ?_
      refine TK.condP rfl (fun h13 => ?_) (fun h13 => ?_)
      ·
       refine na ⟨[(0, .bref 11 0), (1, vL eC l), (5, vI i), (9, vI k)], [(11, bM a), (900, aM a)]⟩ rfl rfl rfl rfl rfl ?_
       refine mv rfl ?_
       refine mv rfl ?_
       refine RO (B.add rfl rfl (by unfold R64; omega)) ?_
       refine ag rfl ?_
       refine ra rfl ?_
       refine TK.exit ?_
       refine PK.exit rfl ?_
       refine Ap rfl ?_
       refine tn ⟨[(0, .bref 11 0), (1, vL eC l), (5, vI i), (7, vI ((i : Int) + (k : Int)))], [(11, bM a), (900, aM a)]⟩ rfl rfl rfl ?_
       have hrp := Decidable.not_not.1 h2
       obtain ⟨d1, e, hde, he, he1, he2, hwb, hwr, hle⟩ := wf_at hI0.2.1 (by omega) hrp
       have hek : e = i + k := by exact (mt_no hI1 (by assumption) (by assumption) hrp).elim
       rw [show ((i : Int) + (k : Int)) = (e : Int) by omega]
       have hue := wf_at_unr hI0.2.1 (by omega) hrp
       rw [← he] at hue
       have hcb : ∀ c ∈ List.drop (i + 1) (List.take e l), chkC c = 0 := fun c h => hc c (List.mem_of_mem_take (List.mem_of_mem_drop h))
       have hbl : (List.drop (i + 1) (List.take e l)).length < l.length := by rw [List.length_drop, List.length_take]; omega
       have hcn := cnt_rep hci hrp
       refine TK.rg (Y := tab) mixed rfl ?_
       refine mv rfl ?_
       refine mv rfl ?_
       refine RO (B.idx (z := z3) (i := i) rfl rfl un82 sz116 (fun _ => rfl) rfl (by omega)) ?_
       refine RO (B.fadP rfl fa116_2 rfl) ?_
       refine RO (B.loadP rfl ag3 sz3) ?_
       refine mv rfl ?_
       refine ra rfl ?_
       refine TK.loop (α := Nat × Mc) (fun x => ⟨[(0, .bref 11 0), (1, vL eC l), (5, vI i), (7, vI e), (63, vI (List.getD l i z3).2.2), (64, vI ((x.1 : Nat) : Int))], [(11, bM x.2), (900, aM x.2)]⟩) (fun x => x.1 ≤ (List.getD l i z3).2.2.toNat ∧ OkM x.2 ∧ takes a (tms x.1 (unrP (List.drop (i + 1) (List.take e l)))) = (x.2, 0)) (fun x => (List.getD l i z3).2.2.toNat - x.1) (0, a) ?_ (sb rfl rfl rfl) ?_
       · show 0 ≤ (List.getD l i z3).2.2.toNat ∧ OkM a ∧ takes a (tms 0 (unrP (List.drop (i + 1) (List.take e l)))) = (a, 0)
         exact ⟨Nat.zero_le _, hI0.2.2.1, rfl⟩
       rintro ⟨j, b⟩ hI2
       replace hI2 : j ≤ (List.getD l i z3).2.2.toNat ∧ OkM b ∧ takes a (tms j (unrP (List.drop (i + 1) (List.take e l)))) = (b, 0) := hI2
       show TK _ _ _ _ _ _ ⟨[(0, .bref 11 0), (1, vL eC l), (5, vI i), (7, vI e), (63, vI (List.getD l i z3).2.2), (64, vI j)], [(11, bM b), (900, aM b)]⟩
       refine na ⟨[(0, .bref 11 0), (1, vL eC l), (5, vI i), (7, vI e), (63, vI (List.getD l i z3).2.2), (64, vI j)], [(11, bM b), (900, aM b)]⟩ rfl rfl rfl rfl rfl ?_
       refine RO (B.lss rfl rfl) ?_
       refine tz ⟨[(0, .bref 11 0), (1, vL eC l), (5, vI i), (7, vI e), (63, vI (List.getD l i z3).2.2), (64, vI j), (65, vB (decide ((j : Int) < (List.getD l i z3).2.2)))], [(11, bM b), (900, aM b)]⟩ rfl rfl rfl rfl ?_
       refine TK.condP rfl (fun h14 => ?_) (fun h14 => ?_)
       ·
        refine na ⟨[(0, .bref 11 0), (1, vL eC l), (5, vI i), (7, vI e), (63, vI (List.getD l i z3).2.2), (64, vI j)], [(11, bM b), (900, aM b)]⟩ rfl rfl rfl rfl rfl ?_
        refine rn rfl ?_
        refine mv rfl ?_
        refine mv rfl ?_
        refine RO (B.add rfl rfl (by unfold R64; omega)) ?_
        refine mv rfl ?_
        refine RO (B.slTD (i := (i + 1)) (j := e) rfl rfl rfl un82 sz116 (fun _ => rfl) (by omega) rfl (by omega) (by omega)) ?_
        refine RO (B.callS (l := xS b) (hrec (List.drop (i + 1) (List.take e l)) d1 b hbl hwb hcb (by omega) hI2.2.1) rfl rfl ⟨rfl, rfl, trivial⟩ rfl rfl) ?_
        refine ag rfl ?_
        refine zn ⟨[(0, .bref 11 0), (1, vL eC l), (5, vI i), (7, vI e), (11, vI (takes b (unrP (List.drop (i + 1) (List.take e l)))).2), (63, vI (List.getD l i z3).2.2), (64, vI j)], [(11, bM (takes b (unrP (List.drop (i + 1) (List.take e l)))).1), (900, aM (takes b (unrP (List.drop (i + 1) (List.take e l)))).1)]⟩ rfl rfl rfl rfl rfl ?_
        refine mv rfl ?_
        refine RO (B.neq rfl rfl) ?_
        refine tz ⟨[(0, .bref 11 0), (1, vL eC l), (5, vI i), (7, vI e), (11, vI (takes b (unrP (List.drop (i + 1) (List.take e l)))).2), (63, vI (List.getD l i z3).2.2), (64, vI j), (74, vB (decide ((takes b (unrP (List.drop (i + 1) (List.take e l)))).2 ≠ 0)))], [(11, bM (takes b (unrP (List.drop (i + 1) (List.take e l)))).1), (900, aM (takes b (unrP (List.drop (i + 1) (List.take e l)))).1)]⟩ rfl rfl rfl rfl ?_
        refine TK.condP rfl (fun h15 => ?_) (fun h15 => ?_)
        ·
         refine na ⟨[(0, .bref 11 0), (11, vI (takes b (unrP (List.drop (i + 1) (List.take e l)))).2)], [(11, bM (takes b (unrP (List.drop (i + 1) (List.take e l)))).1), (900, aM (takes b (unrP (List.drop (i + 1) (List.take e l)))).1)]⟩ rfl rfl rfl rfl rfl ?_
         refine mv rfl ?_
         refine ag rfl ?_
         refine ra rfl ?_
         refine lf ?_
         exact leafL (val0 := vI (takes b (unrP (List.drop (i + 1) (List.take e l)))).2) (out0 := [(900, aM (takes b (unrP (List.drop (i + 1) (List.take e l)))).1), (11, bM (takes b (unrP (List.drop (i + 1) (List.take e l)))).1)]) (.inr rfl) (by kernel_rfl) (by rw [r_bad2 hI0.2.2.2 hue hI2.2.2 (by omega) (by assumption)]) (by rw [r_bad2 hI0.2.2.2 hue hI2.2.2 (by omega) (by assumption)])
        ·
         refine na ⟨[(0, .bref 11 0), (1, vL eC l), (5, vI i), (7, vI e), (63, vI (List.getD l i z3).2.2), (64, vI j)], [(11, bM (takes b (unrP (List.drop (i + 1) (List.take e l)))).1), (900, aM (takes b (unrP (List.drop (i + 1) (List.take e l)))).1)]⟩ rfl rfl rfl rfl rfl ?_
         refine RO (B.add rfl rfl (by unfold R64; omega)) ?_
         refine mv rfl ?_
         refine RN ?_
         refine Aq rfl ?_
         refine PK.lp ?_
         refine LP.mk ((j + 1), (takes b (unrP (List.drop (i + 1) (List.take e l)))).1) ?_ ?_ (sb rfl rfl rfl)
         · show (j + 1) ≤ (List.getD l i z3).2.2.toNat ∧ OkM (takes b (unrP (List.drop (i + 1) (List.take e l)))).1 ∧ takes a (tms (j + 1) (unrP (List.drop (i + 1) (List.take e l)))) = ((takes b (unrP (List.drop (i + 1) (List.take e l)))).1, 0)
           exact ⟨by omega, takes_okM hI2.2.1 (unr_chk hwb hcb), tms_next hI2.2.2 (Decidable.not_not.1 (by assumption))⟩
         · show (List.getD l i z3).2.2.toNat - (j + 1) < (List.getD l i z3).2.2.toNat - j
           omega
       ·
        refine At rfl ?_
        refine TK.exit ?_
        refine PK.exit rfl ?_
        refine Ap rfl ?_
        refine nr ⟨[(0, .bref 11 0), (1, vL eC l), (7, vI e)], [(11, bM b), (900, aM b)]⟩ rfl rfl rfl rfl ?_
        refine mv rfl ?_
        refine ag rfl ?_
        refine zn ⟨[(0, .bref 11 0), (1, vL eC l), (5, vI e)], [(11, bM b), (900, aM b)]⟩ rfl rfl rfl rfl rfl ?_
        refine mv rfl ?_
        refine RO (B.add rfl rfl (by unfold R64; omega)) ?_
        refine ag rfl ?_
        refine RN ?_
        refine Aq rfl ?_
        refine PK.lp ?_
        refine LP.mk ((e + 1), b) ?_ ?_ (sb rfl rfl rfl)
        · show (e + 1) ≤ l.length ∧ Wf d (List.drop (e + 1) l) ∧ OkM b ∧ takes m (unrP l) = takes b (unrP (List.drop (e + 1) l))
          exact ⟨by omega, hwr, hI2.2.1, r_rep hI0.2.2.2 hue hI2.2.2 (by omega)⟩
        · show l.length - (e + 1) < l.length - i
          omega
      ·
       refine na ⟨[(0, .bref 11 0), (1, vL eC l), (5, vI i), (7, vI i), (8, vI q), (36, vL eC (List.drop i l)), (37, vI ((List.length (List.drop i l) : Nat) : Int)), (38, vI k)], [(11, bM a), (900, aM a)]⟩ rfl rfl rfl rfl rfl ?_
       refine RO (B.add rfl rfl (by unfold R64; omega)) ?_
       refine mv rfl ?_
       refine RN ?_
       refine Aq rfl ?_
       refine PK.lp ?_
       refine LP.mk ((k + 1), q) ?_ ?_ (sb rfl rfl rfl)
       · show MtI l i (k + 1) q
         exact mt_one hI1 (by omega) (by assumption) (by assumption) (Decidable.not_not.1 h2)
       · show l.length - (k + 1) < l.length - k
         omega
   ·
    exact absurd (mt_stop hI0.2.1 (by omega) (Decidable.not_not.1 h2) hI1) h4
 ·
  refine At rfl ?_
  refine TK.exit ?_
  refine PK.exit rfl ?_
  refine Ap rfl ?_
  refine nr ⟨[(0, .bref 11 0)], [(11, bM a), (900, aM a)]⟩ rfl rfl rfl rfl ?_
  refine ag rfl ?_
  refine ra rfl ?_
  refine lf ?_
  exact leafL (val0 := vI 0) (out0 := [(900, aM a), (11, bM a)]) (.inr rfl) (by kernel_rfl) (by rw [r_end hI0.2.2.2 (by omega)]) (by rw [r_end hI0.2.2.2 (by omega)])
end Go.Lens.Tm
end
section
namespace Go.Lens.Tm
open Go.Lens.Tb Go.Proofs
set_option linter.unusedSectionVars false
theorem unr_bd {out o2 u v w x : List Cmd} {n j : Nat} (h1 : out ++ w = x) (h2 : w = tms n u ++ v) (h3 : o2 = out ++ tms j u) (hj : j < n) : o2.length + u.length ≤ x.length := by
 subst h1 h2 h3
 simp only [List.length_append, tms_len]
 have : (j + 1) * u.length ≤ n * u.length := Nat.mul_le_mul_right _ hj
 rw [Nat.add_mul] at this
 omega
section
variable {m a : Mc} {c : Cmd} {u : List Cmd} {i : Nat}
end
def runA (s : LSt) (t : Int) : Int := firstF [chkSt s, withinF t 0 999999999]
section
variable {s : LSt} {t : Int} {l : List Cmd}
theorem runX_ok (h : runX s t l = 0) : chkSt s = 0 ∧ (0 ≤ t ∧ t ≤ 999999999) ∧ chkS l = 0 := by
 obtain ⟨h1, h2, h3⟩ := first3c h
 exact ⟨h1, with_rng h2, h3⟩
theorem runP_bad (h : runX s t l ≠ 0) : runP s t l = ((zSt, 0, []), runX s t l) := by rw [runP, if_pos h]
theorem runP_ok (h : runX s t l = 0) : runP s t l = takes (s, t, []) (unrP l) := by rw [runP, if_neg (by rw [h]; simp)]
theorem runP_len (hl : l.length ≤ 10000000000000) : (runP s t l).1.2.2.length ≤ 1000 := by
 by_cases h : runX s t l = 0
 ·rw [runP_ok h]
  obtain ⟨h1, h2, h3⟩ := runX_ok h
  obtain ⟨h4, h5, h6, _⟩ := chkS_ok h3
  have := takes_okM (m := (s, t, [])) ⟨st_valid h1, h2.1, h2.2, Nat.zero_le _⟩ (unr_chk (wf_of h6) h5)
  exact this.2.2.2
 ·rw [runP_bad h]; simp
end
end Go.Lens.Tm
end
section
namespace Go.Lens.Tm
open Go.Lens.Tb Go.Proofs
set_option linter.unusedSectionVars false
theorem badC_app : ∀ {a b : List Cmd}, badC a = 0 → badC (a ++ b) = badC b
 | [], _, _ => rfl
 | c :: a, b, h => by
  rw [badC] at h
  by_cases hc : chkC c = 0
  ·rw [if_pos hc] at h
   rw [List.cons_append, badC, if_pos hc, badC_app h]
  ·rw [if_neg hc] at h; exact absurd h hc
theorem depC_app : ∀ {a b : List Cmd} {d : Nat}, depC d a = 0 → depC d (a ++ b) = depC 0 b
 | [], b, d, h => by
  rw [depC] at h
  split at h
  ·cases h
  ·rw [show d = 0 by omega]; rfl
 | c :: a, b, d, h => by
  rw [depC] at h
  rw [List.cons_append, depC]
  by_cases h1 : c.1 = kRep
  ·rw [if_pos h1] at h ⊢
   split at h
   ·cases h
   ·rename_i h4
    rw [if_neg h4, depC_app h]
  ·rw [if_neg h1] at h ⊢
   by_cases h2 : c.1 = kEnd
   ·rw [if_pos h2] at h ⊢
    split at h
    ·cases h
    ·rename_i h0
     rw [if_neg h0, depC_app h]
   ·rw [if_neg h2] at h ⊢
    exact depC_app h
theorem lenP_app {a b : List Cmd} {d e : Nat} (ha : Wf d a) (hb : Wf e b) : lenP (a ++ b) = lenP a + lenP b := by
 have h1 := wf_len ha 0 [] b
 have h2 := wf_len hb (0 + lenP a) [] []
 rw [List.append_nil] at h2
 rw [lenP, h1, h2]
 show (0 + lenP a) + lenP b = _
 omega
theorem unrP_app {a b : List Cmd} {d e : Nat} (ha : Wf d a) (hb : Wf e b) : unrP (a ++ b) = unrP a ++ unrP b := by
 have h1 := wf_unr ha [] [] b
 have h2 := wf_unr hb ([] ++ unrP a) [] []
 rw [List.append_nil] at h2
 rw [unrP, h1, h2]; rfl
theorem chkS_mk {l : List Cmd} (h1 : l.length ≤ 64) (h2 : badC l = 0) (h3 : depC 0 l = 0) (h4 : lenP l ≤ 10000) : chkS l = 0 := by
 unfold chkS
 rw [if_neg (by omega), if_neg (by rw [h2]; simp), if_neg (by rw [h3]; simp), decide_eq_false (by omega)]; rfl
theorem chkS_badC {l : List Cmd} (h : chkS l = 0) : badC l = 0 := by
 unfold chkS at h
 split at h
 ·cases h
 ·split at h
  ·rename_i h2; exact absurd h h2
  ·rename_i h2; exact Decidable.not_not.1 h2
theorem chkS_app {a b : List Cmd} (ha : chkS a = 0) (hb : chkS b = 0) (hl : a.length + b.length ≤ 64) (hn : lenP a + lenP b ≤ 10000) : chkS (a ++ b) = 0 := by
 obtain ⟨_, _, a3, _⟩ := chkS_ok ha
 obtain ⟨_, _, b3, _⟩ := chkS_ok hb
 refine chkS_mk (by rw [List.length_append]; exact hl) ?_ ?_ ?_
 ·rw [badC_app (chkS_badC ha)]; exact chkS_badC hb
 ·rw [depC_app a3]; exact b3
 ·rw [lenP_app (wf_of a3) (wf_of b3)]; exact hn
abbrev loopC (a : List Cmd) : List Cmd := ([([114, 101, 112, 101, 97, 116], [], 2)] ++ a) ++ [([101, 110, 100], [], 0)]
theorem unr_loop {a : List Cmd} {d : Nat} (h : Wf d a) : unrP (loopC a) = unrP a ++ unrP a := by
 have h1 := wf_unr h [] [([], 2)] [(kEnd, [], 0)]
 show unrGo [] [] ((kRep, [], 2) :: (a ++ [(kEnd, [], 0)])) = _
 rw [unrGo_cons, if_pos rfl]
 show unrGo [] [([], 2)] (a ++ [(kEnd, [], 0)]) = _
 rw [h1, unrGo_cons, if_neg (by decide), if_pos rfl]
 show unrGo ([] ++ (List.replicate 2 ([] ++ unrP a)).flatten) [] [] = _
 rw [unrGo]
 simp [List.replicate]
theorem take1_pre {s : LSt} {t : Int} {p q : List Stp} {c : Cmd} (h : p.length + q.length < 1000) : take1 (s, t, p ++ q) c = (((take1 (s, t, q) c).1.1, (take1 (s, t, q) c).1.2.1, p ++ (take1 (s, t, q) c).1.2.2), (take1 (s, t, q) c).2) := by
 by_cases hw : c.1 = kWait
 ·simp only [take1, if_pos hw]
  split <;> rfl
 ·simp only [take1, if_neg hw, List.length_append]
  simp only [if_neg (show ¬ 1000 ≤ p.length + q.length by omega), if_neg (show ¬ 1000 ≤ q.length by omega)]
  split
  ·rfl
  ·simp only [List.append_assoc]
theorem take1_len {s : LSt} {t : Int} {q : List Stp} {c : Cmd} : (take1 (s, t, q) c).1.2.2.length ≤ q.length + 1 := by
 unfold take1
 simp only
 split
 ·split <;> simp
 ·split
  ·simp
  ·split <;> simp
theorem takes_pre : ∀ {u : List Cmd} {s : LSt} {t : Int} {p q : List Stp}, p.length + q.length + u.length ≤ 1000 → takes (s, t, p ++ q) u = (((takes (s, t, q) u).1.1, (takes (s, t, q) u).1.2.1, p ++ (takes (s, t, q) u).1.2.2), (takes (s, t, q) u).2)
 | [], s, t, p, q, _ => rfl
 | c :: u, s, t, p, q, h => by
  simp only [List.length_cons] at h
  have h1 := take1_pre (s := s) (t := t) (p := p) (q := q) (c := c) (by omega)
  have h2 := take1_len (s := s) (t := t) (q := q) (c := c)
  by_cases h0 : (take1 (s, t, q) c).2 = 0
  ·rw [takes_ok (by rw [h1]; exact h0), takes_ok h0, h1]
   exact takes_pre (u := u) (s := (take1 (s, t, q) c).1.1) (t := (take1 (s, t, q) c).1.2.1) (p := p) (q := (take1 (s, t, q) c).1.2.2) (by omega)
  ·rw [takes_bad (by rw [h1]; exact h0), takes_bad h0, h1]
def sumC : List Cmd → Int
 | [] => 0
 | c :: l => c.2.2 + sumC l
theorem takes_time : ∀ {u : List Cmd} {m : Mc}, (∀ c ∈ u, chkC c = 0 ∧ c.1 ≠ kRep ∧ c.1 ≠ kEnd) → (takes m u).2 = 0 → (takes m u).1.2.1 = m.2.1 + sumC u
 | [], m, _, _ => by simp [takes, sumC]
 | c :: u, m, hc, h => by
  have hcl : ∀ c ∈ u, chkC c = 0 ∧ c.1 ≠ kRep ∧ c.1 ≠ kEnd := fun x hx => hc x (List.mem_cons_of_mem _ hx)
  by_cases h0 : (take1 m c).2 = 0
  ·rw [takes_ok h0] at h ⊢
   rw [takes_time hcl h, sumC]
   have e : (take1 m c).1.2.1 = m.2.1 + c.2.2 := by
    obtain ⟨k1, k2, k3⟩ := hc c (List.mem_cons_self ..)
    rcases cmd_cases k1 with ⟨g1, _, g3⟩ | ⟨g1, _⟩ | ⟨g1 | g1, _⟩
    ·have hw : c.1 ≠ kWait := by rw [g1]; decide
     rw [g3]
     unfold take1
     rw [if_neg hw]
     split
     ·simp
     ·split <;> simp
    ·exact absurd g1 k3
    ·unfold take1 at h0 ⊢
     rw [if_pos g1] at h0 ⊢
     split at h0
     ·cases h0
     ·rename_i hn; rw [if_neg hn]
    ·exact absurd g1 k2
   rw [e, Int.add_assoc]
  ·rw [takes_bad h0] at h; exact absurd h h0
def foldA : LSt → List Stp → LSt × Bool
 | s, [] => (s, true)
 | s, p :: l => if (actP s p.2).2 ≠ 0 then (s, false) else foldA (actP s p.2).1 l
theorem takes_fold : ∀ {u : List Cmd} {s : LSt} {t : Int} {p : List Stp}, ∃ q, (takes (s, t, p) u).1.2.2 = p ++ q ∧ foldA s q = ((takes (s, t, p) u).1.1, true)
 | [], s, t, p => ⟨[], by simp [takes], rfl⟩
 | c :: u, s, t, p => by
  by_cases h0 : (take1 (s, t, p) c).2 = 0
  ·rw [takes_ok h0]
   unfold take1 at h0 ⊢
   simp only at h0 ⊢
   split at h0
   ·rename_i hw
    rw [if_pos hw]
    split at h0
    ·cases h0
    ·rename_i hn
     rw [if_neg hn]
     exact takes_fold
   ·rename_i hw
    rw [if_neg hw]
    split at h0
    ·cases h0
    ·rename_i hn
     rw [if_neg hn]
     split at h0
     ·rename_i hb; exact absurd h0 hb
     ·rename_i hb
      rw [if_neg hb]
      obtain ⟨q, h1, h2⟩ := takes_fold (u := u) (s := (actP s c.2.1).1) (t := t) (p := p ++ [(t, c.2.1)])
      refine ⟨(t, c.2.1) :: q, by rw [h1]; simp, ?_⟩
      rw [foldA, if_neg hb, h2]
  ·rw [takes_bad h0]
   refine ⟨[], ?_, ?_⟩
   ·unfold take1 at h0 ⊢
    simp only at h0 ⊢
    split
    ·rename_i hw
     rw [if_pos hw] at h0
     split
     ·simp
     ·rename_i hn; rw [if_neg hn] at h0; exact absurd rfl h0
    ·rename_i hw
     rw [if_neg hw] at h0
     split
     ·simp
     ·rename_i hn
      rw [if_neg hn] at h0
      split
      ·simp
      ·rename_i hb; rw [if_neg hb] at h0; exact absurd rfl h0
   ·unfold take1 at h0 ⊢
    simp only at h0 ⊢
    split
    ·rename_i hw
     rw [if_pos hw] at h0
     split
     ·rfl
     ·rename_i hn; rw [if_neg hn] at h0; exact absurd rfl h0
    ·rename_i hw
     rw [if_neg hw] at h0
     split
     ·rfl
     ·rename_i hn
      rw [if_neg hn] at h0
      split
      ·rfl
      ·rename_i hb; rw [if_neg hb] at h0; exact absurd rfl h0
end Go.Lens.Tm
end
section
namespace Go.Proofs
open Go.Shelf
def Tryz.lays156_ren : Go.Shelf.Ren := ⟨fun | 156 => 169 | 165 => 242 | 166 => 157 | 169 => 158 | 240 => 218 | 241 => 284 | 276 => 281 | 277 => 308 | n => n, fun | 31 => 73 | 9 => 9 | 3 => 3 | 4 => 4 | 0 => 0 | 20 => 20 | 72 => 271 | 76 => 274 | 70 => 269 | 37 => 150 | 75 => 273 | 127 => 333 | 164 => 371 | 5 => 5 | 80 => 145 | n => n, fun | n => n⟩
theorem Tryz.lays156 : Go.Proofs.Lays.n156 Tryz.prog Tryz.lays156_ren := {
  mixed := by kernel_rfl
  f156 := Tryz.func169.trans (congrArg some (by kernel_rfl))
  f165 := Tryz.func242.trans (congrArg some (by kernel_rfl))
  f166 := Tryz.func157.trans (congrArg some (by kernel_rfl))
  f169 := Tryz.func158.trans (congrArg some (by kernel_rfl))
  f240 := Tryz.func218.trans (congrArg some (by kernel_rfl))
  f241 := Tryz.func284.trans (congrArg some (by kernel_rfl))
  f276 := Tryz.func281.trans (congrArg some (by kernel_rfl))
  f277 := Tryz.func308.trans (congrArg some (by kernel_rfl))
  t0 := Tryz.underlying0
  a0 := Tryz.isAgg0
  z0 := Tryz.sizeOf0
  v0 := Tryz.zeroValue0
  t3 := Tryz.underlying3
  a3 := Tryz.isAgg3
  z3 := Tryz.sizeOf3
  v3 := Tryz.zeroValue3
  t4 := Tryz.underlying4
  a4 := Tryz.isAgg4
  z4 := Tryz.sizeOf4
  v4 := Tryz.zeroValue4
  t9 := Tryz.underlying9
  a9 := Tryz.isAgg9
  z9 := Tryz.sizeOf9
  v9 := Tryz.zeroValue9
  t20 := Tryz.underlying20
  a20 := Tryz.isAgg20
  z20 := Tryz.sizeOf20
  v20 := Tryz.zeroValue20
  t31 := Tryz.underlying73
  a31 := Tryz.isAgg73
  z31 := Tryz.sizeOf73
  v31 := Tryz.zeroValue73
  t37 := Tryz.underlying150
  a37 := Tryz.isAgg150
  z37 := Tryz.sizeOf150
  v37 := Tryz.zeroValue150
  t70 := Tryz.underlying269
  a70 := Tryz.isAgg269
  z70 := Tryz.sizeOf269
  v70 := Tryz.zeroValue269
  t72 := Tryz.underlying271
  a72 := Tryz.isAgg271
  z72 := Tryz.sizeOf271
  v72 := Tryz.zeroValue271
  t75 := Tryz.underlying273
  a75 := Tryz.isAgg273
  z75 := Tryz.sizeOf273
  v75 := Tryz.zeroValue273
  t76 := Tryz.underlying274
  a76 := Tryz.isAgg274
  z76 := Tryz.sizeOf274
  v76 := Tryz.zeroValue274
  t127 := Tryz.underlying333
  a127 := Tryz.isAgg333
  z127 := Tryz.sizeOf333
  v127 := Tryz.zeroValue333
  t164 := Tryz.underlying371
  a164 := Tryz.isAgg371
  z164 := Tryz.sizeOf371
  v164 := Tryz.zeroValue371 }
theorem Tryz.Builder_Extra_156 : Builder.Extra Tryz.prog Tryz.lays156_ren := {
  sizeBuilder := by kernel_rfl
  liesBuilder := by kernel_rfl
  t5 := Tryz.underlying5
  a5 := Tryz.isAgg5
  z5 := Tryz.sizeOf5
  v5 := Tryz.zeroValue5
  infoByte := by kernel_rfl
  cellsByte := by kernel_rfl
  sizeByte := by kernel_rfl
  neB5 := by decide }
open Go.RowKit in
theorem Tryz.strings_Join_none (a : Option Addr) (c : Nat) (sep : ByteArray) (w : World) :
    Calls Tryz.prog 169 #[.slice a 0 c, .string sep] w fun e w' => e = .returned (.string ⟨#[]⟩) ∧ w' = w := Any.strings_Join_none Tryz.lays156 Tryz.Builder_Extra_156 a c sep w
open Go.RowKit in
theorem Tryz.strings_Join (bk o c : Nat) (xs : List ByteArray) (sep : ByteArray) (w : World) (hcells : ∀ (j : Nat) x, xs[j]? = some x → w.cell? ⟨bk, o + j, none⟩ = some (.string x)) (hbk : bk < w.heap.size) (hN : xs.length ≤ 140737488355328) (hcap : xs.length ≤ c) (hlen : (Lib.join (xs.map (·.data.toList)) sep.data.toList).length ≤ 140737488355328) :
    Calls Tryz.prog 169 #[.slice (some ⟨bk, o, none⟩) xs.length c, .string sep] w fun e w' => e = .returned (.string ⟨(Lib.join (xs.map (·.data.toList)) sep.data.toList).toArray⟩) ∧ Below w.heap.size w w' := Any.strings_Join Tryz.lays156 Tryz.Builder_Extra_156 bk o c xs sep w hcells hbk hN hcap hlen
end Go.Proofs
end
section
namespace Go.Proofs
open Go.Shelf
def Tryz.laysC172_ren : Go.Shelf.Ren := ⟨fun | 172 => 256 | 244 => 297 | 245 => 298 | 247 => 327 | 279 => 328 | 280 => 329 | 281 => 330 | 282 => 331 | 287 => 349 | 316 => 350 | 171 => 185 | 205 => 351 | 321 => 357 | 322 => 358 | 243 => 255 | 246 => 296 | 283 => 323 | 284 => 324 | 285 => 325 | 286 => 326 | 129 => 322 | 317 => 345 | 318 => 346 | 319 => 347 | 320 => 348 | 337 => 355 | 338 => 356 | n => n, fun | 9 => 9 | 3 => 3 | 75 => 273 | 76 => 274 | 4 => 4 | 5 => 5 | 167 => 411 | 37 => 150 | 0 => 0 | 85 => 412 | 2 => 2 | 168 => 414 | 53 => 406 | 175 => 436 | 46 => 378 | 210 => 439 | 127 => 333 | 145 => 447 | 143 => 445 | 21 => 21 | 171 => 407 | 173 => 409 | 212 => 434 | 51 => 394 | 20 => 20 | 213 => 435 | 232 => 448 | 233 => 449 | 80 => 145 | n => n, fun | 15 => 4 | 16 => 5 | 17 => 3 | 18 => 6 | 19 => 7 | n => n⟩
theorem Tryz.laysC172 : Go.Proofs.LaysC.n172 Tryz.prog Tryz.laysC172_ren := {
  mixed := by kernel_rfl
  f129 := Tryz.func322.trans (congrArg some (by kernel_rfl))
  f171 := Tryz.func185.trans (congrArg some (by kernel_rfl))
  f172 := Tryz.func256.trans (congrArg some (by kernel_rfl))
  f205 := Tryz.func351.trans (congrArg some (by kernel_rfl))
  f243 := Tryz.func255.trans (congrArg some (by kernel_rfl))
  f244 := Tryz.func297.trans (congrArg some (by kernel_rfl))
  f245 := Tryz.func298.trans (congrArg some (by kernel_rfl))
  f246 := Tryz.func296.trans (congrArg some (by kernel_rfl))
  f247 := Tryz.func327.trans (congrArg some (by kernel_rfl))
  f279 := Tryz.func328.trans (congrArg some (by kernel_rfl))
  f280 := Tryz.func329.trans (congrArg some (by kernel_rfl))
  f281 := Tryz.func330.trans (congrArg some (by kernel_rfl))
  f282 := Tryz.func331.trans (congrArg some (by kernel_rfl))
  f283 := Tryz.func323.trans (congrArg some (by kernel_rfl))
  f284 := Tryz.func324.trans (congrArg some (by kernel_rfl))
  f285 := Tryz.func325.trans (congrArg some (by kernel_rfl))
  f286 := Tryz.func326.trans (congrArg some (by kernel_rfl))
  f287 := Tryz.func349.trans (congrArg some (by kernel_rfl))
  f316 := Tryz.func350.trans (congrArg some (by kernel_rfl))
  f317 := Tryz.func345.trans (congrArg some (by kernel_rfl))
  f318 := Tryz.func346.trans (congrArg some (by kernel_rfl))
  f319 := Tryz.func347.trans (congrArg some (by kernel_rfl))
  f320 := Tryz.func348.trans (congrArg some (by kernel_rfl))
  f321 := Tryz.func357.trans (congrArg some (by kernel_rfl))
  f322 := Tryz.func358.trans (congrArg some (by kernel_rfl))
  f337 := Tryz.func355.trans (congrArg some (by kernel_rfl))
  f338 := Tryz.func356.trans (congrArg some (by kernel_rfl))
  t0 := Tryz.underlying0
  a0 := Tryz.isAgg0
  z0 := Tryz.sizeOf0
  v0 := Tryz.zeroValue0
  t2 := Tryz.underlying2
  a2 := Tryz.isAgg2
  z2 := Tryz.sizeOf2
  v2 := Tryz.zeroValue2
  t3 := Tryz.underlying3
  a3 := Tryz.isAgg3
  z3 := Tryz.sizeOf3
  v3 := Tryz.zeroValue3
  t4 := Tryz.underlying4
  a4 := Tryz.isAgg4
  z4 := Tryz.sizeOf4
  v4 := Tryz.zeroValue4
  t5 := Tryz.underlying5
  a5 := Tryz.isAgg5
  z5 := Tryz.sizeOf5
  v5 := Tryz.zeroValue5
  t9 := Tryz.underlying9
  a9 := Tryz.isAgg9
  z9 := Tryz.sizeOf9
  v9 := Tryz.zeroValue9
  t20 := Tryz.underlying20
  a20 := Tryz.isAgg20
  z20 := Tryz.sizeOf20
  v20 := Tryz.zeroValue20
  t21 := Tryz.underlying21
  a21 := Tryz.isAgg21
  z21 := Tryz.sizeOf21
  v21 := Tryz.zeroValue21
  t37 := Tryz.underlying150
  a37 := Tryz.isAgg150
  z37 := Tryz.sizeOf150
  v37 := Tryz.zeroValue150
  t46 := Tryz.underlying378
  a46 := Tryz.isAgg378
  z46 := Tryz.sizeOf378
  v46 := Tryz.zeroValue378
  t51 := Tryz.underlying394
  a51 := Tryz.isAgg394
  z51 := Tryz.sizeOf394
  v51 := Tryz.zeroValue394
  t53 := Tryz.underlying406
  a53 := Tryz.isAgg406
  z53 := Tryz.sizeOf406
  v53 := Tryz.zeroValue406
  t75 := Tryz.underlying273
  a75 := Tryz.isAgg273
  z75 := Tryz.sizeOf273
  v75 := Tryz.zeroValue273
  t76 := Tryz.underlying274
  a76 := Tryz.isAgg274
  z76 := Tryz.sizeOf274
  v76 := Tryz.zeroValue274
  t85 := Tryz.underlying412
  a85 := Tryz.isAgg412
  z85 := Tryz.sizeOf412
  v85 := Tryz.zeroValue412
  t127 := Tryz.underlying333
  a127 := Tryz.isAgg333
  z127 := Tryz.sizeOf333
  v127 := Tryz.zeroValue333
  t143 := Tryz.underlying445
  a143 := Tryz.isAgg445
  z143 := Tryz.sizeOf445
  v143 := Tryz.zeroValue445
  t145 := Tryz.underlying447
  a145 := Tryz.isAgg447
  z145 := Tryz.sizeOf447
  v145 := Tryz.zeroValue447
  t167 := Tryz.underlying411
  a167 := Tryz.isAgg411
  z167 := Tryz.sizeOf411
  v167 := Tryz.zeroValue411
  t168 := Tryz.underlying414
  a168 := Tryz.isAgg414
  z168 := Tryz.sizeOf414
  v168 := Tryz.zeroValue414
  t171 := Tryz.underlying407
  a171 := Tryz.isAgg407
  z171 := Tryz.sizeOf407
  v171 := Tryz.zeroValue407
  t173 := Tryz.underlying409
  a173 := Tryz.isAgg409
  z173 := Tryz.sizeOf409
  v173 := Tryz.zeroValue409
  t175 := Tryz.underlying436
  a175 := Tryz.isAgg436
  z175 := Tryz.sizeOf436
  v175 := Tryz.zeroValue436
  t210 := Tryz.underlying439
  a210 := Tryz.isAgg439
  z210 := Tryz.sizeOf439
  v210 := Tryz.zeroValue439
  t212 := Tryz.underlying434
  a212 := Tryz.isAgg434
  z212 := Tryz.sizeOf434
  v212 := Tryz.zeroValue434
  t213 := Tryz.underlying435
  a213 := Tryz.isAgg435
  z213 := Tryz.sizeOf435
  t232 := Tryz.underlying448
  a232 := Tryz.isAgg448
  z232 := Tryz.sizeOf448
  v232 := Tryz.zeroValue448
  t233 := Tryz.underlying449
  a233 := Tryz.isAgg449
  z233 := Tryz.sizeOf449
  v233 := Tryz.zeroValue449
  g15 := by kernel_rfl
  g16 := by kernel_rfl
  g17 := by kernel_rfl
  g18 := by kernel_rfl
  g19 := by kernel_rfl
  t80 := Tryz.underlying145
  a80 := Tryz.isAgg145
  z80 := Tryz.sizeOf145
  v80 := Tryz.zeroValue145
  i0 := by kernel_rfl
  i2 := by kernel_rfl
  i3 := by kernel_rfl
  i4 := by kernel_rfl
  i5 := by kernel_rfl
  i9 := by kernel_rfl
  i20 := by kernel_rfl
  i21 := by kernel_rfl
  i37 := by kernel_rfl
  i46 := by kernel_rfl
  i51 := by kernel_rfl
  i53 := by kernel_rfl
  i75 := by kernel_rfl
  i76 := by kernel_rfl
  i80 := by kernel_rfl
  i85 := by kernel_rfl
  i127 := by kernel_rfl
  i143 := by kernel_rfl
  i145 := by kernel_rfl
  i167 := by kernel_rfl
  i168 := by kernel_rfl
  i171 := by kernel_rfl
  i173 := by kernel_rfl
  i175 := by kernel_rfl
  i210 := by kernel_rfl
  i212 := by kernel_rfl
  i232 := by kernel_rfl
  i233 := by kernel_rfl
  m15 := by kernel_rfl
  m16 := by kernel_rfl
  m17 := by kernel_rfl
  m18 := by kernel_rfl
  m19 := by kernel_rfl
  c0 := by kernel_rfl
  c2 := by kernel_rfl
  c3 := by kernel_rfl
  c4 := by kernel_rfl
  c5 := by kernel_rfl
  c9 := by kernel_rfl
  c20 := by kernel_rfl
  c21 := by kernel_rfl
  c37 := by kernel_rfl
  c46 := by kernel_rfl
  c51 := by kernel_rfl
  c53 := by kernel_rfl
  c75 := by kernel_rfl
  c76 := by kernel_rfl
  c80 := by kernel_rfl
  c85 := by kernel_rfl
  c127 := by kernel_rfl
  c143 := by kernel_rfl
  c145 := by kernel_rfl
  c167 := by kernel_rfl
  c168 := by kernel_rfl
  c171 := by kernel_rfl
  c173 := by kernel_rfl
  c175 := by kernel_rfl
  c210 := by kernel_rfl
  c212 := by kernel_rfl
  c213 := by kernel_rfl
  c232 := by kernel_rfl
  c233 := by kernel_rfl }
open Go.RowKit in
theorem Tryz.strconv_Atoi_ok (s : ByteArray) (hmax : s.size ≤ 9223372036854775806) (v : Int) (h : Lib.atoiAll s.data.toList = .ok v) (w : World) :
    Calls Tryz.prog 256 #[.string s] w fun e w' => e = .returned (.tuple #[.int .i64 v, .nilIface]) ∧ (w' = w ∨ ∃ t, w' = Lib.bytesWorld w 5 t) := Any.strconv_Atoi_ok Tryz.laysC172 s hmax v h w
open Go.RowKit in
theorem Tryz.strconv_Atoi_form_var (s : ByteArray) (hlim : s.size ≤ 281474976710656) (hok : ∀ v, Lib.atoiAll s.data.toList ≠ .ok v) (hr : Lib.atoiAll s.data.toList ≠ .range) (tp : TypeId) (p : Value) (w : World) (hvar : w.var? Tryz.prog "strconv.ErrSyntax" = some #[.iface tp p]) :
    Calls Tryz.prog 256 #[.string s] w fun e w' => ∃ N, e = .returned (.tuple #[.int .i64 0, .iface 414 (.pointer (some ⟨N, 0, none⟩))]) ∧ w.heap.size ≤ N ∧ w'.heap[N]? = some (.cells #[.string ⟨#[65, 116, 111, 105]⟩, .string s, .iface tp p] 439 (0, 0)) ∧ Below w.heap.size w w' := by
  cases h : Lib.atoiAll s.data.toList
  · exact absurd h (hok _)
  · exact Any.strconv_Atoi_syntax_var Tryz.laysC172 s hlim h tp p w hvar
  · exact absurd h hr
open Go.RowKit in
theorem Tryz.strconv_Atoi_range_var (s : ByteArray) (hlim : s.size ≤ 281474976710656) (h : Lib.atoiAll s.data.toList = .range) (tp : TypeId) (p : Value) (w : World) (hvar : w.var? Tryz.prog "strconv.ErrRange" = some #[.iface tp p]) :
    Calls Tryz.prog 256 #[.string s] w fun e w' => ∃ N, e = .returned (.tuple #[.int .i64 (Lib.atoiSat s.data.toList), .iface 414 (.pointer (some ⟨N, 0, none⟩))]) ∧ w.heap.size ≤ N ∧ w'.heap[N]? = some (.cells #[.string ⟨#[65, 116, 111, 105]⟩, .string s, .iface tp p] 439 (0, 0)) ∧ Below w.heap.size w w' := Any.strconv_Atoi_range_var Tryz.laysC172 s hlim h tp p w hvar
end Go.Proofs
end
section
namespace Go.Lens.Tm
open Go.Lens.Tb Go.Proofs Go.RowKit
set_option linter.unusedSectionVars false
variable [Lz]
theorem elems_cells {R : Rd} {b esz : Nat} : ∀ (l : List (List UInt8)) (off : Nat), RelElems R (l.map eN) b off esz → ∀ (j : Nat) (x : List UInt8), l[j]? = some x → R.cell b (off + j) = some (.string (bsO x))
 | [], _, _, j, x, h => by simp at h
 | a :: l, off, H, j, x, h => by
  simp only [List.map_cons, RelElems] at H
  obtain ⟨h1, h2, h3⟩ := H
  have e1 : esz = 1 := h1.symm
  subst e1
  cases j with
  | zero =>
   have hx : a = x := by simpa using h
   subst hx
   simp only [eN, RelCells, RelPV] at h2
   obtain ⟨⟨v, k1, _, k2, _⟩, _⟩ := h2
   rw [Nat.add_zero, k1, k2]
  | succ j =>
   have := elems_cells l (off + 1) h3 j x (by simpa using h)
   rwa [show off + (j + 1) = off + 1 + j by omega]
end Go.Lens.Tm
end
section
namespace Go.Lens.Tm
open Go.Lens.Tb Go.Proofs Go.RowKit
set_option linter.unusedSectionVars false
variable [Lz]
theorem join2_lib : ∀ ws : List (List UInt8), Lib.join ws [59, 32] = joinC ws
 | [] => rfl
 | w :: r => by
  rw [Lib.join_cons]
  simp only [Lib.joinTail, joinC, List.flatMap]
  rfl
theorem join2_ok : Join2Ok := by
 intro ws hn hw
 refine ⟨fun k hk => ?_, fun G w vs M hv => .inl ?_⟩
 ·simp [DV.refsL, DV.refs] at hk
 obtain ⟨v, v2, rfl, h1, h2⟩ := hv.two
 have e2 := (RelDV_lit_eq h2).1
 subst e2
 simp only [RelDV, RelPV] at h1
 obtain ⟨a, cap, rfl, hcap, hes⟩ := h1
 refine ⟨Tryz.call169 _ _, ?_⟩
 have fin : ∀ w' : World, Below w.heap.size w w' → ∃ G', Stepped G w (lookM []) (vS (bsO (joinC ws))) [] G' w' (.string (bsO (joinC ws))) := fun w' hB =>
  ⟨G, stepped_grow M.ctx hB.os hB.tape hB.output hB.size (fun k hk => hB.block k hk) (RelDV_lit rfl) (by simp [DV.refs])⟩
 by_cases h0 : ws = []
 ·subst h0
  refine Calls.mono (Tryz.strings_Join_none a cap (bsO [59, 32]) w) ?_
  rintro e w' ⟨he, hw'⟩
  exact ⟨_, he, fin w' (hw' ▸ Below.refl _ _)⟩
 ·rcases hes with hes | ⟨b, off, esz, rfl, hel⟩
  ·exact absurd (List.map_eq_nil_iff.1 hes) h0
  have hcell : ∀ (j : Nat) (x : ByteArray), (ws.map bsO)[j]? = some x → w.cell? ⟨b, off + j, none⟩ = some (.string x) := by
   intro j x hj
   rw [List.getElem?_map] at hj
   obtain ⟨y, hy, rfl⟩ := Option.map_eq_some_iff.1 hj
   exact M.readable.1 _ _ _ (elems_cells ws off hel j y hy)
  have hd : (ws.map bsO).map (·.data.toList) = ws := by
   rw [List.map_map]
   conv => rhs; rw [← List.map_id ws]
   rfl
  have hbk : b < w.heap.size := by
   obtain ⟨y, r, rfl⟩ := List.exists_cons_of_ne_nil h0
   have := hcell 0 (bsO y) rfl
   unfold World.cell? at this
   rcases Nat.lt_or_ge b w.heap.size with h | h
   ·exact h
   ·have hnone : w.heap[b]? = none := Array.getElem?_eq_none h
    simp [hnone] at this
  have hjl := joinC_len 1000 ws hw
  have hc := Tryz.strings_Join b off cap (ws.map bsO) (bsO [59, 32]) w hcell hbk (by rw [List.length_map]; omega) (by rw [List.length_map] at hcap ⊢; exact hcap) (by
   rw [hd]
   have : Lib.join ws (bsO [59, 32]).data.toList = joinC ws := join2_lib ws
   rw [this]
   have : ws.length * (1000 + 2) ≤ 1000 * (1000 + 2) := Nat.mul_le_mul_right _ hn
   omega)
  rw [hd] at hc
  have hj : Lib.join ws (bsO [59, 32]).data.toList = joinC ws := join2_lib ws
  rw [hj, List.length_map] at hc
  rw [List.length_map]
  refine Calls.mono hc ?_
  rintro e w' ⟨he, hB⟩
  exact ⟨_, he, fin w' hB⟩
def VarLaid (n : String) : Prop := ∃ g tp p T fr, Tryz.prog.globalNamed n = some g ∧ Lz.L g = some (.cells #[.iface tp p] T fr)
def ErrLaid : Prop := VarLaid "strconv.ErrSyntax" ∧ VarLaid "strconv.ErrRange"
theorem var_of {G : Gh} {w : World} {look : Nat → Option MO} (M : InvM G look w) {n : String} (h : VarLaid n) : ∃ tp p, w.var? Tryz.prog n = some #[.iface tp p] := by
 obtain ⟨g, tp, p, T, fr, h1, h2⟩ := h
 obtain ⟨_, h3⟩ := M.laid _ _ h2
 refine ⟨tp, p, ?_⟩
 unfold World.var?
 rw [h1]
 simp only [Option.bind_some, h3]
theorem call_one {s : List UInt8} {val : DV} (hr : val.refs = []) (h : ∀ (G : Gh) (w : World), InvM G (lookM []) w → Calls Tryz.prog 256 #[.string (bsO s)] w fun e w' => ∃ r, e = .returned r ∧ Below w.heap.size w w' ∧ RelDV G (G.rd w') val r) :
  CallOk Tryz.prog 256 [vS (bsO s)] (lookM []) val [] := by
 refine ⟨fun k hk => ?_, fun G w vs M hv => .inl ?_⟩
 ·simp [DV.refsL, DV.refs] at hk
 obtain ⟨v, rfl, h1⟩ := hv.one
 have e1 := (RelDV_lit_eq h1).1
 subst e1
 refine ⟨Tryz.call256 _ _, ?_⟩
 refine Calls.mono (h G w M) ?_
 rintro e w' ⟨r, he, hB, hv⟩
 exact ⟨r, he, G, stepped_grow M.ctx hB.os hB.tape hB.output hB.size (fun k hk => hB.block k hk) hv hr⟩
theorem w256 (he : ErrLaid) (s : List UInt8) (hl : s.length ≤ 1000000) :
  (∃ v, R64 v ∧ intV s = (v, decide (0 ≤ v ∧ v ≤ 999999999 ∧ Lib.itoa v = s)) ∧ CallOk Tryz.prog 256 [vS (bsO s)] (lookM []) (.tup [vI v, .pv (.lit .nilIface)]) []) ∨
  (∃ v Terr, R64 v ∧ intV s = (v, false) ∧ CallOk Tryz.prog 256 [vS (bsO s)] (lookM []) (.tup [vI v, .pv (.iface Terr .any)]) []) := by
 have hs : (bsO s).data.toList = s := rfl
 have hsz : (bsO s).size = s.length := rfl
 have two : ∀ (G : Gh) (R : Rd) (v : Int) (x : PV) (u : Value), RelPV R x u → RelDV G R (.tup [vI v, .pv x]) (.tuple #[.int .i64 v, u]) := by
  intro G R v x u h
  simp only [RelDV, RelDVs, RelPV]
  exact ⟨#[.int .i64 v, u], rfl, _, _, rfl, ⟨rfl, rfl⟩, _, _, rfl, h, rfl⟩
 have hit : ∀ (R : Rd) (N : Nat), RelPV R (.iface 414 .any) (.iface 414 (.pointer (some ⟨N, 0, none⟩))) := by
  intro R N
  simp only [RelPV]
  exact ⟨_, rfl, rfl⟩
 by_cases hok : ∃ v, Lib.atoiAll s = .ok v
 ·obtain ⟨v, h⟩ := hok
  have hb := Lib.atoiAll_bounds h
  refine .inl ⟨v, ⟨by omega, by omega⟩, by unfold intV; rw [h], call_one (by simp [DV.refs, DV.refsL]) fun G w M => ?_⟩
  refine Calls.mono (Tryz.strconv_Atoi_ok (bsO s) (by rw [hsz]; omega) v h w) ?_
  rintro e w' ⟨rfl, hw⟩
  refine ⟨_, rfl, ?_, two _ _ _ _ _ (by unfold RelPV; exact ⟨rfl, rfl⟩)⟩
  rcases hw with rfl | ⟨t, rfl⟩
  ·exact Below.refl _ _
  ·exact Lib.bytesWorld_below w 5 t
 ·have hno : ∀ v, Lib.atoiAll s ≠ .ok v := fun v h => hok ⟨v, h⟩
  by_cases hr : Lib.atoiAll s = .range
  ·have hb := Lib.atoiSat_bounds s
   refine .inr ⟨Lib.atoiSat s, 414, ⟨by omega, by omega⟩, by unfold intV; rw [hr], call_one (by simp [DV.refs, DV.refsL]) fun G w M => ?_⟩
   obtain ⟨tp, p, hvar⟩ := var_of M he.2
   refine Calls.mono (Tryz.strconv_Atoi_range_var (bsO s) (by rw [hsz]; omega) hr tp p w hvar) ?_
   rintro e w' ⟨N, rfl, _, _, hB⟩
   exact ⟨_, rfl, hB, two _ _ _ _ _ (hit _ _)⟩
  ·refine .inr ⟨0, 414, ⟨by omega, by omega⟩, ?_, call_one (by simp [DV.refs, DV.refsL]) fun G w M => ?_⟩
   ·unfold intV
    split
    ·rename_i v h; exact absurd h (hno v)
    ·rename_i h; exact absurd h hr
    ·rfl
   obtain ⟨tp, p, hvar⟩ := var_of M he.1
   refine Calls.mono (Tryz.strconv_Atoi_form_var (bsO s) (by rw [hsz]; omega) hno hr tp p w hvar) ?_
   rintro e w' ⟨N, rfl, _, _, hB⟩
   exact ⟨_, rfl, hB, two _ _ _ _ _ (hit _ _)⟩
end Go.Lens.Tm
end
section
namespace Go.Lens.Tm
open Go.Lens.Tb Go.Proofs
variable [Lz]
set_option linter.unusedSectionVars false
set_option maxHeartbeats 4000000
set_option maxRecDepth 100000
attribute [local irreducible] TK PK T RG EfR Body
theorem by116 : ty116.info.bytes = 40 := by kernel_rfl
theorem in116 : tab.info? 116 = some ty116.info := by kernel_rfl
theorem un273 : tab.underlying 273 = some (.interface #[("Error", 145)]) := by kernel_rfl
theorem fq115 : flatEq tab 115 = some [.string, .string, .int (.i64)] := by kernel_rfl
theorem w186o (hp : PowLaid) (s : List UInt8) (v : Int)  (hv : R64 v) (h256 : CallOk Tryz.prog 256 [vS (bsO s)] (lookM []) (.tup [vI v, .pv (.lit .nilIface)]) []) : CallOk Tryz.prog 186 [vS (bsO s)] (lookM []) (.tup [vI v, vB (decide (0 ≤ v ∧ v ≤ 999999999 ∧ Lib.itoa v = s))]) [] := by
 refine cO qf186 rfl (nB rfl) rfl ?_
 refine na ⟨[(0, vS (bsO s))], []⟩ rfl rfl rfl rfl rfl ?_
 refine ag rfl ?_
 refine ag rfl ?_
 refine zn ⟨[(0, vS (bsO s))], []⟩ rfl rfl rfl rfl rfl ?_
 refine mv rfl ?_
 refine RO (B.call (h256) rfl rfl rfl) ?_
 refine rn rfl ?_
 refine rn rfl ?_
 refine rn rfl ?_
 refine ag rfl ?_
 refine ag rfl ?_
 refine zn ⟨[(0, vS (bsO s)), (4, vI v), (5, .pv (.lit .nilIface))], []⟩ rfl rfl rfl rfl rfl ?_
 refine mv rfl ?_
 refine mv rfl ?_
 refine RO (B.ieqE rfl un273) ?_
 refine mv rfl ?_
 refine RS rfl (fun hc => B.move rfl) rfl ?_
 refine RS rfl (fun hc => B.geq (ev1_gd rfl hc) rfl) rfl ?_
 refine RO (B.pick rfl rfl rfl (gdB rfl) rfl (pick_and _)) ?_
 refine mv rfl ?_
 refine RS rfl (fun hc => B.move rfl) rfl ?_
 refine RS rfl (fun hc => B.leq (ev1_gd rfl hc) rfl) rfl ?_
 refine RO (B.pick rfl rfl rfl (gdB rfl) rfl (pick_and _)) ?_
 refine mv rfl ?_
 refine RS rfl (fun hc => B.move rfl) rfl ?_
 refine RS rfl (fun hc => B.call (w185 hp v hv) rfl (ds1 (ev1_gd rfl hc)) rfl) rfl ?_
 refine RS rfl (fun hc => B.move rfl) rfl ?_
 refine RS rfl (fun hc => B.seqB (a := (Lib.itoa v)) (b := s) (ev1_gd rfl hc) (ev1_gd rfl hc)) rfl ?_
 refine RO (B.pick rfl rfl rfl (gdB rfl) rfl (pick_and _)) ?_
 refine ag rfl ?_
 refine ag rfl ?_
 refine ra rfl ?_
 refine lf ?_
 refine leaf (val0 := .tup [vI v, vB (bif (bif (bif true then (decide (0 ≤ v)) else false) then (decide (v ≤ 999999999)) else false) then (decide ((Lib.itoa v) = s)) else false)]) (by kernel_rfl) ?_
 exact tup2 (rfl) (lb (by exact int_chk))
theorem w186n (hp : PowLaid) (s : List UInt8) (v : Int) (Terr : TypeId)  (hv : R64 v) (h256 : CallOk Tryz.prog 256 [vS (bsO s)] (lookM []) (.tup [vI v, .pv ((.iface Terr .any))]) []) : CallOk Tryz.prog 186 [vS (bsO s)] (lookM []) (.tup [vI v, vB false]) [] := by
 refine cO qf186 rfl (nB rfl) rfl ?_
 refine na ⟨[(0, vS (bsO s))], []⟩ rfl rfl rfl rfl rfl ?_
 refine ag rfl ?_
 refine ag rfl ?_
 refine zn ⟨[(0, vS (bsO s))], []⟩ rfl rfl rfl rfl rfl ?_
 refine mv rfl ?_
 refine RO (B.call (h256) rfl rfl rfl) ?_
 refine rn rfl ?_
 refine rn rfl ?_
 refine rn rfl ?_
 refine ag rfl ?_
 refine ag rfl ?_
 refine zn ⟨[(0, vS (bsO s)), (4, vI v), (5, .pv ((.iface Terr .any)))], []⟩ rfl rfl rfl rfl rfl ?_
 refine mv rfl ?_
 refine mv rfl ?_
 refine RO (B.ieqN rfl un273) ?_
 refine mv rfl ?_
 refine RS rfl (fun hc => B.move rfl) rfl ?_
 refine RS rfl (fun hc => B.geq (ev1_gd rfl hc) rfl) rfl ?_
 refine RO (B.pick rfl rfl rfl (gdB rfl) rfl (pick_and _)) ?_
 refine mv rfl ?_
 refine RS rfl (fun hc => B.move rfl) rfl ?_
 refine RS rfl (fun hc => B.leq (ev1_gd rfl hc) rfl) rfl ?_
 refine RO (B.pick rfl rfl rfl (gdB rfl) rfl (pick_and _)) ?_
 refine mv rfl ?_
 refine RS rfl (fun hc => B.move rfl) rfl ?_
 refine RS rfl (fun hc => B.call (w185 hp v hv) rfl (ds1 (ev1_gd rfl hc)) rfl) rfl ?_
 refine RS rfl (fun hc => B.move rfl) rfl ?_
 refine RS rfl (fun hc => B.seqB (a := (Lib.itoa v)) (b := s) (ev1_gd rfl hc) (ev1_gd rfl hc)) rfl ?_
 refine RO (B.pick rfl rfl rfl (gdB rfl) rfl (pick_and _)) ?_
 refine ag rfl ?_
 refine ag rfl ?_
 refine ra rfl ?_
 refine lf ?_
 refine leaf (val0 := .tup [vI v, vB (bif (bif (bif false then (decide (0 ≤ v)) else false) then (decide (v ≤ 999999999)) else false) then (decide ((Lib.itoa v) = s)) else false)]) (by kernel_rfl) ?_
 exact tup2 (rfl) (lb (by rfl))
theorem w186 (hp : PowLaid) (he : ErrLaid) (s : List UInt8) (hl : s.length ≤ 1000000) : CallOk Tryz.prog 186 [vS (bsO s)] (lookM []) (.tup [vI (intV s).1, vB (intV s).2]) [] := by
 rcases w256 he s hl with ⟨v, hv, e, h⟩ | ⟨v, Terr, hv, e, h⟩
 ·rw [e]; exact w186o hp s v hv h
 ·rw [e]; exact w186n hp s v Terr hv h
theorem w128 (hp : PowLaid) (s : List UInt8) (hl : s.length ≤ 1000000) : CallOk Tryz.prog 128 [vS (bsO s)] (lookM []) (vL eN (wordsP s)) [] := by
 refine cO qf128 rfl (nB rfl) rfl ?_
 have hsl := splS_len s
 refine na ⟨[(0, vS (bsO s))], []⟩ rfl rfl rfl rfl rfl ?_
 refine RO (B.nilS (enc := eN) rfl) ?_
 refine zn ⟨[(0, vS (bsO s))], []⟩ rfl rfl rfl rfl rfl ?_
 refine RO (B.adopt 4 1 9 rfl rfl) ?_
 refine zn ⟨[(0, vS (bsO s)), (3, .aref 4 0)], [(4, .arr 0 1 9 (List.map eN []))]⟩ rfl rfl rfl rfl rfl ?_
 refine mv rfl ?_
 refine RO (B.call (w116 hp s hl) rfl rfl rfl) ?_
 refine RO (B.lenL rfl un73) ?_
 refine mv rfl ?_
 refine ra rfl ?_
 refine TK.loop (α := Nat × Nat × List (List UInt8)) (fun x => ⟨[(3, .aref 4 x.2.1), (7, vL eN (splS s)), (8, vI ((List.length (splS s) : Nat) : Int)), (9, vI ((x.1 : Nat) : Int))], [(4, .arr x.2.1 1 9 (List.map eN x.2.2))]⟩) (fun x => x.1 ≤ List.length (splS s) ∧ x.2.2.length ≤ x.1 ∧ x.2.2 = fullW (List.take x.1 (splS s))) (fun x => List.length (splS s) - x.1) (0, 0, []) ?_ (sb rfl rfl rfl) ?_
 · show 0 ≤ List.length (splS s) ∧ List.length [] ≤ 0 ∧ [] = fullW (List.take 0 (splS s))
   exact ⟨Nat.zero_le _, Nat.zero_le _, rfl⟩
 rintro ⟨k, v, out⟩ hI0
 replace hI0 : k ≤ List.length (splS s) ∧ out.length ≤ k ∧ out = fullW (List.take k (splS s)) := hI0
 show TK _ _ _ _ _ _ ⟨[(3, .aref 4 v), (7, vL eN (splS s)), (8, vI ((List.length (splS s) : Nat) : Int)), (9, vI k)], [(4, .arr v 1 9 (List.map eN out))]⟩
 refine na ⟨[(3, .aref 4 v), (7, vL eN (splS s)), (8, vI ((List.length (splS s) : Nat) : Int)), (9, vI k)], [(4, .arr v 1 9 (List.map eN out))]⟩ rfl rfl rfl rfl rfl ?_
 refine RO (B.lss rfl rfl) ?_
 refine tz ⟨[(3, .aref 4 v), (7, vL eN (splS s)), (8, vI ((List.length (splS s) : Nat) : Int)), (9, vI k), (10, vB (decide ((k : Int) < ((List.length (splS s) : Nat) : Int))))], [(4, .arr v 1 9 (List.map eN out))]⟩ rfl rfl rfl rfl ?_
 refine TK.condP rfl (fun h1 => ?_) (fun h1 => ?_)
 ·
  refine na ⟨[(3, .aref 4 v), (7, vL eN (splS s)), (8, vI ((List.length (splS s) : Nat) : Int)), (9, vI k)], [(4, .arr v 1 9 (List.map eN out))]⟩ rfl rfl rfl rfl rfl ?_
  refine RO (B.idx (z := []) (i := k) rfl rfl un73 sz9 (fun _ => rfl) rfl (by omega)) ?_
  refine RO (B.loadP rfl ag9 sz9) ?_
  refine ag rfl ?_
  refine zn ⟨[(3, .aref 4 v), (5, vS (bsO (List.getD (splS s) k []))), (7, vL eN (splS s)), (8, vI ((List.length (splS s) : Nat) : Int)), (9, vI k)], [(4, .arr v 1 9 (List.map eN out))]⟩ rfl rfl rfl rfl rfl ?_
  refine mv rfl ?_
  refine RO (B.sneB (a := (List.getD (splS s) k [])) (b := []) rfl rfl) ?_
  refine tz ⟨[(3, .aref 4 v), (5, vS (bsO (List.getD (splS s) k []))), (7, vL eN (splS s)), (8, vI ((List.length (splS s) : Nat) : Int)), (9, vI k), (14, vB (decide ((List.getD (splS s) k []) ≠ [])))], [(4, .arr v 1 9 (List.map eN out))]⟩ rfl rfl rfl rfl ?_
  refine TK.condP rfl (fun h2 => ?_) (fun h2 => ?_)
  ·
   refine na ⟨[(3, .aref 4 v), (5, vS (bsO (List.getD (splS s) k []))), (7, vL eN (splS s)), (8, vI ((List.length (splS s) : Nat) : Int)), (9, vI k)], [(4, .arr v 1 9 (List.map eN out))]⟩ rfl rfl rfl rfl rfl ?_
   refine rn rfl ?_
   refine mv rfl ?_
   refine RO (B.runZ (val := .pv (.slice (List.map eN [(List.getD (splS s) k [])]))) rfl (fun l => Frz.arr l _ _ _ _ _) rfl) ?_
   refine RO (B.append rfl rfl rfl un73 in9 rfl (fun _ => rfl) by9 (by (simp only [List.length_append, List.length_cons, List.length_nil]; omega))) ?_
   refine rn rfl ?_
   refine zn ⟨[(3, .aref 4 (v + 1)), (7, vL eN (splS s)), (8, vI ((List.length (splS s) : Nat) : Int)), (9, vI k)], [(4, .arr (v + 1) 1 9 (List.map eN (out ++ [(List.getD (splS s) k [])])))]⟩ rfl rfl rfl rfl rfl ?_
   refine RO (B.add rfl rfl (by unfold R64; omega)) ?_
   refine mv rfl ?_
   refine RN ?_
   refine Aq rfl ?_
   refine PK.lp ?_
   refine LP.mk ((k + 1), (v + 1), (out ++ [(List.getD (splS s) k [])])) ?_ ?_ (sb rfl rfl rfl)
   · show (k + 1) ≤ List.length (splS s) ∧ List.length (out ++ [(List.getD (splS s) k [])]) ≤ (k + 1) ∧ (out ++ [(List.getD (splS s) k [])]) = fullW (List.take (k + 1) (splS s))
     refine ⟨by omega, by (simp only [List.length_append, List.length_cons, List.length_nil]; omega), ?_⟩; rw [fullW_take (by omega), if_pos (by assumption), hI0.2.2]
   · show List.length (splS s) - (k + 1) < List.length (splS s) - k
     omega
  ·
   refine na ⟨[(3, .aref 4 v), (7, vL eN (splS s)), (8, vI ((List.length (splS s) : Nat) : Int)), (9, vI k)], [(4, .arr v 1 9 (List.map eN out))]⟩ rfl rfl rfl rfl rfl ?_
   refine RO (B.add rfl rfl (by unfold R64; omega)) ?_
   refine mv rfl ?_
   refine RN ?_
   refine Aq rfl ?_
   refine PK.lp ?_
   refine LP.mk ((k + 1), v, out) ?_ ?_ (sb rfl rfl rfl)
   · show (k + 1) ≤ List.length (splS s) ∧ out.length ≤ (k + 1) ∧ out = fullW (List.take (k + 1) (splS s))
     refine ⟨by omega, by omega, ?_⟩; rw [fullW_take (by omega), if_neg (by assumption), hI0.2.2]
   · show List.length (splS s) - (k + 1) < List.length (splS s) - k
     omega
 ·
  refine At rfl ?_
  refine TK.exit ?_
  refine PK.exit rfl ?_
  refine Ap rfl ?_
  refine tn ⟨[(3, .aref 4 v)], [(4, .arr v 1 9 (List.map eN out))]⟩ rfl rfl rfl ?_
  refine TK.frz (t := 3) rfl rfl ?_
  refine nr ⟨[(3, vL eN out)], []⟩ rfl rfl rfl rfl ?_
  refine mv rfl ?_
  refine ag rfl ?_
  refine ra rfl ?_
  refine lf ?_
  refine leaf (val0 := vL eN out) (by kernel_rfl) ?_
  exact lsl (by rw [hI0.2.2, List.take_of_length_le (by omega)]; rfl)
theorem w170c (hp : PowLaid) (s : List UInt8) (c : UInt8) (hl : s.length ≤ 1000000) : CallOk Tryz.prog 170 [vS (bsO s), vS (bsO [c]), vI 0, vI (-1)] (lookM []) (vL eN (splC c s)) [] := by
 refine cO qf170 rfl (nB rfl) rfl ?_
 refine na ⟨[(0, vS (bsO s)), (1, vS (bsO [c])), (2, vI 0), (3, vI (-1))], []⟩ rfl rfl rfl rfl rfl ?_
 refine RO (B.nilS (enc := eN) rfl) ?_
 refine zn ⟨[(0, vS (bsO s)), (1, vS (bsO [c])), (2, vI 0), (3, vI (-1))], []⟩ rfl rfl rfl rfl rfl ?_
 refine mv rfl ?_
 refine RO (B.eql rfl rfl) ?_
 refine tz ⟨[(0, vS (bsO s)), (1, vS (bsO [c])), (2, vI 0), (3, vI (-1)), (13, vB (decide ((-1) = 0)))], []⟩ rfl rfl rfl rfl ?_
 refine TK.condF rfl ?_
 refine na ⟨[(0, vS (bsO s)), (1, vS (bsO [c])), (2, vI 0), (3, vI (-1))], []⟩ rfl rfl rfl rfl rfl ?_
 refine mv rfl ?_
 refine RO (B.seqB (a := [c]) (b := []) rfl rfl) ?_
 refine tz ⟨[(0, vS (bsO s)), (1, vS (bsO [c])), (2, vI 0), (3, vI (-1)), (15, vB (decide ([c] = [])))], []⟩ rfl rfl rfl rfl ?_
 refine TK.condF rfl ?_
 refine na ⟨[(0, vS (bsO s)), (1, vS (bsO [c])), (2, vI 0), (3, vI (-1))], []⟩ rfl rfl rfl rfl rfl ?_
 refine mv rfl ?_
 refine RO (B.lss rfl rfl) ?_
 refine tz ⟨[(0, vS (bsO s)), (1, vS (bsO [c])), (2, vI 0), (3, vI (-1)), (20, vB (decide ((-1) < 0)))], []⟩ rfl rfl rfl rfl ?_
 refine TK.condT rfl ?_
 refine ta ⟨[(0, vS (bsO s)), (1, vS (bsO [c])), (2, vI 0)], []⟩ rfl rfl rfl rfl ?_
 have hcl : List.count c s ≤ s.length := List.count_le_length
 refine TK.rg (Y := tab) mixed rfl ?_
 refine mv rfl ?_
 refine mv rfl ?_
 refine RO (B.call (w244 hp s c (by omega)) rfl rfl rfl) ?_
 refine RO (B.add rfl rfl (by unfold R64; omega)) ?_
 refine ag rfl ?_
 refine zn ⟨[(0, vS (bsO s)), (1, vS (bsO [c])), (2, vI 0), (3, vI (((List.count c s : Nat) : Int) + 1))], []⟩ rfl rfl rfl rfl rfl ?_
 refine mv rfl ?_
 refine mv rfl ?_
 refine RO (B.lenB (a := s) rfl un9) ?_
 refine RO (B.add rfl rfl (by unfold R64; omega)) ?_
 refine RO (B.min rfl rfl) ?_
 refine ag rfl ?_
 refine tz ⟨[(0, vS (bsO s)), (1, vS (bsO [c])), (2, vI 0), (3, vI (min (((List.count c s : Nat) : Int) + 1) ((s.length : Int) + 1)))], []⟩ rfl rfl rfl rfl ?_
 obtain ⟨n2, hn2⟩ : ∃ n2, n2 = List.count c s + 1 := ⟨_, rfl⟩
 rw [show (min (((List.count c s : Nat) : Int) + 1) ((s.length : Int) + 1)) = (n2 : Int) by omega]
 refine TK.rg (Y := tab) mixed rfl ?_
 refine mv rfl ?_
 refine RO (B.makeSl (enc := eN) (sz := 1) (z0 := []) (n := n2) (m := n2) rfl rfl rfl un73 in9 rfl rfl rfl by9 (by omega) rfl rfl) ?_
 refine rn rfl ?_
 refine zn ⟨[(0, vS (bsO s)), (1, vS (bsO [c])), (2, vI 0), (3, vI n2), (9, .aref 32 0)], [(32, .arr 0 1 9 (List.map eN (List.replicate n2 [])))]⟩ rfl rfl rfl rfl rfl ?_
 refine mv rfl ?_
 refine RO (B.sub rfl rfl (by unfold R64; omega)) ?_
 refine ag rfl ?_
 refine zn ⟨[(0, vS (bsO s)), (1, vS (bsO [c])), (2, vI 0), (3, vI ((n2 : Int) - 1)), (9, .aref 32 0)], [(32, .arr 0 1 9 (List.map eN (List.replicate n2 [])))]⟩ rfl rfl rfl rfl rfl ?_
 refine ag rfl ?_
 refine ra rfl ?_
 refine TK.loop (α := Nat × List (List UInt8) × List UInt8) (fun x => ⟨[(0, vS (bsO x.2.2)), (1, vS (bsO [c])), (2, vI 0), (3, vI ((n2 : Int) - 1)), (9, .aref 32 0), (10, vI ((x.1 : Nat) : Int))], [(32, .arr 0 1 9 (List.map eN x.2.1))]⟩) (fun x => GsC c s n2 x.1 x.2.1 x.2.2) (fun x => n2 - x.1) (0, (List.replicate n2 []), s) ?_ (sb rfl rfl rfl) ?_
 · show GsC c s n2 0 (List.replicate n2 []) s
   exact ⟨List.length_replicate, Nat.le_refl _, by omega, by simp⟩
 rintro ⟨i, a, q⟩ hI0
 replace hI0 : GsC c s n2 i a q := hI0
 have hal := hI0.1
 have hil := hI0.2.2.1
 show TK _ _ _ _ _ _ ⟨[(0, vS (bsO q)), (1, vS (bsO [c])), (2, vI 0), (3, vI ((n2 : Int) - 1)), (9, .aref 32 0), (10, vI i)], [(32, .arr 0 1 9 (List.map eN a))]⟩
 refine na ⟨[(0, vS (bsO q)), (1, vS (bsO [c])), (2, vI 0), (3, vI ((n2 : Int) - 1)), (9, .aref 32 0), (10, vI i)], [(32, .arr 0 1 9 (List.map eN a))]⟩ rfl rfl rfl rfl rfl ?_
 refine mv rfl ?_
 refine mv rfl ?_
 refine RO (B.lss rfl rfl) ?_
 refine tz ⟨[(0, vS (bsO q)), (1, vS (bsO [c])), (2, vI 0), (3, vI ((n2 : Int) - 1)), (9, .aref 32 0), (10, vI i), (36, vB (decide ((i : Int) < ((n2 : Int) - 1))))], [(32, .arr 0 1 9 (List.map eN a))]⟩ rfl rfl rfl rfl ?_
 refine TK.condP rfl (fun h1 => ?_) (fun h1 => ?_)
 ·
  refine ta ⟨[(0, vS (bsO q)), (1, vS (bsO [c])), (2, vI 0), (3, vI ((n2 : Int) - 1)), (9, .aref 32 0), (10, vI i)], [(32, .arr 0 1 9 (List.map eN a))]⟩ rfl rfl rfl rfl ?_
  have hql := hI0.2.1
  refine TK.rg (Y := tab) mixed rfl ?_
  refine mv rfl ?_
  refine mv rfl ?_
  refine RO (B.call (w245 hp q c (by omega)) rfl rfl rfl) ?_
  refine ag rfl ?_
  refine zn ⟨[(0, vS (bsO q)), (1, vS (bsO [c])), (2, vI 0), (3, vI ((n2 : Int) - 1)), (9, .aref 32 0), (10, vI i), (11, vI (Lib.indexByte q c))], [(32, .arr 0 1 9 (List.map eN a))]⟩ rfl rfl rfl rfl rfl ?_
  refine mv rfl ?_
  refine RO (B.lss rfl rfl) ?_
  refine tz ⟨[(0, vS (bsO q)), (1, vS (bsO [c])), (2, vI 0), (3, vI ((n2 : Int) - 1)), (9, .aref 32 0), (10, vI i), (11, vI (Lib.indexByte q c)), (41, vB (decide ((Lib.indexByte q c) < 0)))], [(32, .arr 0 1 9 (List.map eN a))]⟩ rfl rfl rfl rfl ?_
  refine TK.condP rfl (fun h2 => ?_) (fun h2 => ?_)
  ·
   refine At rfl ?_
   refine TK.exit ?_
   refine PK.exit rfl ?_
   refine Ap rfl ?_
   refine tn ⟨[(0, vS (bsO q)), (9, .aref 32 0), (10, vI i)], [(32, .arr 0 1 9 (List.map eN a))]⟩ rfl rfl rfl ?_
   have hal := hI0.1
   have hil := hI0.2.2.1
   refine TK.rg (Y := tab) mixed rfl ?_
   refine rn rfl ?_
   refine mv rfl ?_
   refine mv rfl ?_
   refine RO (B.idxE (n := i) rfl rfl rfl un73 sz9 rfl (by omega)) ?_
   refine RO (B.setE (z0 := q) rfl rfl rfl rfl rfl sz9 (by omega) (fun _ => rfl)) ?_
   refine tz ⟨[(9, .aref 32 0), (10, vI i)], [(32, .arr 0 1 9 (List.map eN (List.set a i q)))]⟩ rfl rfl rfl rfl ?_
   refine TK.frz (t := 9) rfl rfl ?_
   refine nr ⟨[(9, vL eN (List.set a i q)), (10, vI i)], []⟩ rfl rfl rfl rfl ?_
   refine mv rfl ?_
   refine mv rfl ?_
   refine RO (B.add rfl rfl (by unfold R64; omega)) ?_
   refine RO (B.slT (j := (i + 1)) rfl rfl un73 sz9 (by omega) (by (simp only [List.length_set]; omega))) ?_
   refine ag rfl ?_
   refine ra rfl ?_
   refine lf ?_
   refine leaf (val0 := vL eN (List.take (i + 1) (List.set a i q))) (by kernel_rfl) ?_
   exact lsl (by exact gsc_end hI0 (ix_neg (by assumption)))
  ·
   refine ta ⟨[(0, vS (bsO q)), (1, vS (bsO [c])), (2, vI 0), (3, vI ((n2 : Int) - 1)), (9, .aref 32 0), (10, vI i), (11, vI (Lib.indexByte q c))], [(32, .arr 0 1 9 (List.map eN a))]⟩ rfl rfl rfl rfl ?_
   obtain ⟨m, hm, hmq, hm2, hm3⟩ := ix_nat (show 0 ≤ Lib.indexByte q c by omega)
   rw [hm]
   refine TK.rg (Y := tab) mixed rfl ?_
   refine rn rfl ?_
   refine mv rfl ?_
   refine mv rfl ?_
   refine mv rfl ?_
   refine mv rfl ?_
   refine RO (B.add rfl rfl (by unfold R64; omega)) ?_
   refine RO (B.slHB (a := q) (j := (Int.toNat ((m : Int) + 0))) rfl rfl un9 (Int.toNat_of_nonneg (by omega)).symm (by omega)) ?_
   refine RO (B.idxE (n := i) rfl rfl rfl un73 sz9 rfl (by omega)) ?_
   refine RO (B.setE (z0 := (List.take (Int.toNat ((m : Int) + 0)) q)) rfl rfl rfl rfl rfl sz9 (by omega) (fun _ => rfl)) ?_
   refine zn ⟨[(0, vS (bsO q)), (1, vS (bsO [c])), (2, vI 0), (3, vI ((n2 : Int) - 1)), (9, .aref 32 0), (10, vI i), (11, vI m)], [(32, .arr 0 1 9 (List.map eN (List.set a i (List.take (Int.toNat ((m : Int) + 0)) q))))]⟩ rfl rfl rfl rfl rfl ?_
   refine mv rfl ?_
   refine mv rfl ?_
   refine mv rfl ?_
   refine RO (B.lenB1 (c := c) rfl un9) ?_
   refine RO (B.add rfl rfl (by unfold R64; omega)) ?_
   refine RO (B.slLB (a := q) (i := (m + 1)) rfl rfl un9 (by omega) (by omega)) ?_
   refine ag rfl ?_
   refine zn ⟨[(0, vS (bsO (List.drop (m + 1) q))), (1, vS (bsO [c])), (2, vI 0), (3, vI ((n2 : Int) - 1)), (9, .aref 32 0), (10, vI i)], [(32, .arr 0 1 9 (List.map eN (List.set a i (List.take (Int.toNat ((m : Int) + 0)) q))))]⟩ rfl rfl rfl rfl rfl ?_
   refine mv rfl ?_
   refine RO (B.add rfl rfl (by unfold R64; omega)) ?_
   refine ag rfl ?_
   refine RN ?_
   refine Aq rfl ?_
   refine PK.lp ?_
   refine LP.mk ((i + 1), (List.set a i (List.take (Int.toNat ((m : Int) + 0)) q)), (List.drop (m + 1) q)) ?_ ?_ (sb rfl rfl rfl)
   · show GsC c s n2 (i + 1) (List.set a i (List.take (Int.toNat ((m : Int) + 0)) q)) (List.drop (m + 1) q)
     exact gsc_step hI0 hm hmq hm2 hm3
   · show n2 - (i + 1) < n2 - i
     omega
 ·
  refine At rfl ?_
  refine TK.exit ?_
  refine PK.exit rfl ?_
  refine Ap rfl ?_
  refine tn ⟨[(0, vS (bsO q)), (9, .aref 32 0), (10, vI i)], [(32, .arr 0 1 9 (List.map eN a))]⟩ rfl rfl rfl ?_
  have hal := hI0.1
  have hil := hI0.2.2.1
  refine TK.rg (Y := tab) mixed rfl ?_
  refine rn rfl ?_
  refine mv rfl ?_
  refine mv rfl ?_
  refine RO (B.idxE (n := i) rfl rfl rfl un73 sz9 rfl (by omega)) ?_
  refine RO (B.setE (z0 := q) rfl rfl rfl rfl rfl sz9 (by omega) (fun _ => rfl)) ?_
  refine tz ⟨[(9, .aref 32 0), (10, vI i)], [(32, .arr 0 1 9 (List.map eN (List.set a i q)))]⟩ rfl rfl rfl rfl ?_
  refine TK.frz (t := 9) rfl rfl ?_
  refine nr ⟨[(9, vL eN (List.set a i q)), (10, vI i)], []⟩ rfl rfl rfl rfl ?_
  refine mv rfl ?_
  refine mv rfl ?_
  refine RO (B.add rfl rfl (by unfold R64; omega)) ?_
  refine RO (B.slT (j := (i + 1)) rfl rfl un73 sz9 (by omega) (by (simp only [List.length_set]; omega))) ?_
  refine ag rfl ?_
  refine ra rfl ?_
  refine lf ?_
  refine leaf (val0 := vL eN (List.take (i + 1) (List.set a i q))) (by kernel_rfl) ?_
  exact lsl (by exact gsc_end hI0 (gsc_no hI0 (by assumption)))
theorem w116c (hp : PowLaid) (s : List UInt8) (c : UInt8) (hl : s.length ≤ 1000000) : CallOk Tryz.prog 116 [vS (bsO s), vS (bsO [c])] (lookM []) (vL eN (splC c s)) [] := by
 refine cO qf116 rfl (nB rfl) rfl ?_
 refine na ⟨[(0, vS (bsO s)), (1, vS (bsO [c]))], []⟩ rfl rfl rfl rfl rfl ?_
 refine RO (B.nilS (enc := eN) rfl) ?_
 refine zn ⟨[(0, vS (bsO s)), (1, vS (bsO [c]))], []⟩ rfl rfl rfl rfl rfl ?_
 refine mv rfl ?_
 refine mv rfl ?_
 refine RO (B.call (w170c hp s c hl) rfl rfl rfl) ?_
 refine ag rfl ?_
 refine ra rfl ?_
 refine lf ?_
 refine leaf (val0 := vL eN (splC c s)) (by kernel_rfl) ?_
 exact rfl
theorem w129 (hp : PowLaid) (he : ErrLaid) (s : List UInt8) (hl : s.length ≤ 1000000) : CallOk Tryz.prog 129 [vS (bsO s)] (lookM []) (.tup [.pv (gC (cmdV s).1), vB (cmdV s).2]) [] := by
 refine cO qf129 rfl (nB rfl) rfl ?_
 refine na ⟨[(0, vS (bsO s))], []⟩ rfl rfl rfl rfl rfl ?_
 refine rn rfl ?_
 refine ag rfl ?_
 refine zn ⟨[(0, vS (bsO s)), (2, .bref 3 0)], [(3, .box 116 [vS (bsO []), vS (bsO []), vI 0])]⟩ rfl rfl rfl rfl rfl ?_
 refine mv rfl ?_
 refine RO (B.call (w128 hp s (by omega)) rfl rfl rfl) ?_
 refine ag rfl ?_
 refine zn ⟨[(2, .bref 3 0), (4, vL eN (wordsP s))], [(3, .box 116 [vS (bsO []), vS (bsO []), vI 0])]⟩ rfl rfl rfl rfl rfl ?_
 refine mv rfl ?_
 refine RO (B.lenL rfl un73) ?_
 refine RO (B.eql rfl rfl) ?_
 refine tz ⟨[(2, .bref 3 0), (4, vL eN (wordsP s)), (11, vB (decide (((List.length (wordsP s) : Nat) : Int) = 0)))], [(3, .box 116 [vS (bsO []), vS (bsO []), vI 0])]⟩ rfl rfl rfl rfl ?_
 refine TK.condP rfl (fun h1 => ?_) (fun h1 => ?_)
 ·
  refine na ⟨[(2, .bref 3 0)], [(3, .box 116 [vS (bsO []), vS (bsO []), vI 0])]⟩ rfl rfl rfl rfl rfl ?_
  refine rn rfl ?_
  refine rn rfl ?_
  refine ag rfl ?_
  refine ra rfl ?_
  refine lf ?_
  refine leaf (val0 := .tup [.pv (.agg [pS (bsO []), pS (bsO []), pI 0]), vB false]) (by kernel_rfl) ?_
  exact tup2 (lag (lcons (pls (by rw [cv_0 h1])) (lcons (pls (by rw [cv_0 h1])) (lcons (pli (by rw [cv_0 h1])) rfl)))) (lb (by rw [cv_0 h1]))
 ·
  refine na ⟨[(2, .bref 3 0), (4, vL eN (wordsP s))], [(3, .box 116 [vS (bsO []), vS (bsO []), vI 0])]⟩ rfl rfl rfl rfl rfl ?_
  refine mv rfl ?_
  refine RO (B.idx (z := []) (i := 0) rfl rfl un73 sz9 (fun _ => rfl) rfl (by omega)) ?_
  refine RO (B.loadP rfl ag9 sz9) ?_
  refine rn rfl ?_
  refine rn rfl ?_
  refine rn rfl ?_
  refine zn ⟨[(2, .bref 3 0), (4, vL eN (wordsP s)), (5, .bref 6 0)], [(3, .box 116 [vS (bsO []), vS (bsO []), vI 0]), (6, .box 116 [vS (bsO (List.getD (wordsP s) 0 [])), vS (bsO []), vI 0])]⟩ rfl rfl rfl rfl rfl ?_
  refine ag rfl ?_
  refine zn ⟨[(2, .bref 3 0), (4, vL eN (wordsP s)), (5, .bref 6 0), (6, vB false)], [(3, .box 116 [vS (bsO []), vS (bsO []), vI 0]), (6, .box 116 [vS (bsO (List.getD (wordsP s) 0 [])), vS (bsO []), vI 0])]⟩ rfl rfl rfl rfl rfl ?_
  refine RO (B.fadB rfl fa116_0 rfl) ?_
  refine RO (B.loadB rfl rfl rfl ag9 sz9 rfl) ?_
  refine RO (B.seqB (a := (List.getD (wordsP s) 0 [])) (b := [101, 110, 100]) rfl rfl) ?_
  refine mv rfl ?_
  refine RS rfl (fun hc => B.move rfl) rfl ?_
  refine RS rfl (fun hc => B.lenL (ev1_gd rfl hc) un73) rfl ?_
  refine RS rfl (fun hc => B.eql (ev1_gd rfl hc) rfl) rfl ?_
  refine RO (B.pick rfl rfl rfl (gdB rfl) rfl (pick_and _)) ?_
  refine ag rfl ?_
  refine tz ⟨[(2, .bref 3 0), (4, vL eN (wordsP s)), (5, .bref 6 0), (6, vB false), (17, vB (bif (decide ((List.getD (wordsP s) 0 []) = [101, 110, 100])) then (decide (((List.length (wordsP s) : Nat) : Int) = 1)) else false))], [(3, .box 116 [vS (bsO []), vS (bsO []), vI 0]), (6, .box 116 [vS (bsO (List.getD (wordsP s) 0 [])), vS (bsO []), vI 0])]⟩ rfl rfl rfl rfl ?_
  refine TK.cond rfl (fun h2 => ?_) (fun h2 => ?_)
  ·
   refine na ⟨[(2, .bref 3 0), (5, .bref 6 0)], [(3, .box 116 [vS (bsO []), vS (bsO []), vI 0]), (6, .box 116 [vS (bsO (List.getD (wordsP s) 0 [])), vS (bsO []), vI 0])]⟩ rfl rfl rfl rfl rfl ?_
   refine RO (B.loadBA rfl rfl rfl ag116 sz116 rfl rfl) ?_
   refine rn rfl ?_
   refine ag rfl ?_
   refine ra rfl ?_
   refine lf ?_
   refine leaf (val0 := .tup [.pv (.agg [pS (bsO (List.getD (wordsP s) 0 [])), pS (bsO []), pI 0]), vB true]) (by kernel_rfl) ?_
   exact tup2 (lag (lcons (pls (by rw [cv_E h1 h2])) (lcons (pls (by rw [cv_E h1 h2])) (lcons (pli (by rw [cv_E h1 h2])) rfl)))) (lb (by rw [cv_E h1 h2]))
  ·
   refine na ⟨[(2, .bref 3 0), (4, vL eN (wordsP s)), (5, .bref 6 0), (6, vB false)], [(3, .box 116 [vS (bsO []), vS (bsO []), vI 0]), (6, .box 116 [vS (bsO (List.getD (wordsP s) 0 [])), vS (bsO []), vI 0])]⟩ rfl rfl rfl rfl rfl ?_
   refine RO (B.fadB rfl fa116_0 rfl) ?_
   refine RO (B.loadB rfl rfl rfl ag9 sz9 rfl) ?_
   refine RO (B.seqB (a := (List.getD (wordsP s) 0 [])) (b := [97, 99, 116]) rfl rfl) ?_
   refine mv rfl ?_
   refine RS rfl (fun hc => B.move rfl) rfl ?_
   refine RS rfl (fun hc => B.lenL (ev1_gd rfl hc) un73) rfl ?_
   refine RS rfl (fun hc => B.eql (ev1_gd rfl hc) rfl) rfl ?_
   refine RO (B.pick rfl rfl rfl (gdB rfl) rfl (pick_and _)) ?_
   refine ag rfl ?_
   refine tz ⟨[(2, .bref 3 0), (4, vL eN (wordsP s)), (5, .bref 6 0), (6, vB false), (27, vB (bif (decide ((List.getD (wordsP s) 0 []) = [97, 99, 116])) then (decide (((List.length (wordsP s) : Nat) : Int) = 2)) else false))], [(3, .box 116 [vS (bsO []), vS (bsO []), vI 0]), (6, .box 116 [vS (bsO (List.getD (wordsP s) 0 [])), vS (bsO []), vI 0])]⟩ rfl rfl rfl rfl ?_
   refine TK.cond rfl (fun h3 => ?_) (fun h3 => ?_)
   ·
    refine ta ⟨[(2, .bref 3 0), (4, vL eN (wordsP s)), (5, .bref 6 0)], [(3, .box 116 [vS (bsO []), vS (bsO []), vI 0]), (6, .box 116 [vS (bsO (List.getD (wordsP s) 0 [])), vS (bsO []), vI 0])]⟩ rfl rfl rfl rfl ?_
    have hw2 := cv_two2 h3
    refine TK.rg (Y := tab) mixed rfl ?_
    refine mv rfl ?_
    refine RO (B.idx (z := []) (i := 1) rfl rfl un73 sz9 (fun _ => rfl) rfl (by omega)) ?_
    refine RO (B.loadP rfl ag9 sz9) ?_
    refine RO (B.fadB rfl fa116_1 rfl) ?_
    refine rn rfl ?_
    refine zn ⟨[(2, .bref 3 0), (5, .bref 6 0)], [(3, .box 116 [vS (bsO []), vS (bsO []), vI 0]), (6, .box 116 [vS (bsO (List.getD (wordsP s) 0 [])), vS (bsO (List.getD (wordsP s) 1 [])), vI 0])]⟩ rfl rfl rfl rfl rfl ?_
    refine RO (B.loadBA rfl rfl rfl ag116 sz116 rfl rfl) ?_
    refine rn rfl ?_
    refine ag rfl ?_
    refine ra rfl ?_
    refine lf ?_
    refine leaf (val0 := .tup [.pv (.agg [pS (bsO (List.getD (wordsP s) 0 [])), pS (bsO (List.getD (wordsP s) 1 [])), pI 0]), vB true]) (by kernel_rfl) ?_
    exact tup2 (lag (lcons (pls (by rw [cv_A h1 h2 h3])) (lcons (pls (by rw [cv_A h1 h2 h3])) (lcons (pli (by rw [cv_A h1 h2 h3])) rfl)))) (lb (by rw [cv_A h1 h2 h3]))
   ·
    refine na ⟨[(2, .bref 3 0), (4, vL eN (wordsP s)), (5, .bref 6 0), (6, vB false)], [(3, .box 116 [vS (bsO []), vS (bsO []), vI 0]), (6, .box 116 [vS (bsO (List.getD (wordsP s) 0 [])), vS (bsO []), vI 0])]⟩ rfl rfl rfl rfl rfl ?_
    refine RO (B.fadB rfl fa116_0 rfl) ?_
    refine RO (B.loadB rfl rfl rfl ag9 sz9 rfl) ?_
    refine RO (B.seqB (a := (List.getD (wordsP s) 0 [])) (b := [119, 97, 105, 116]) rfl rfl) ?_
    refine mv rfl ?_
    refine RS rfl (fun hc => B.fadB rfl fa116_0 rfl) rfl ?_
    refine RS rfl (fun hc => B.loadB (ev1_gd rfl hc) rfl rfl ag9 sz9 rfl) rfl ?_
    refine RS rfl (fun hc => B.seqB (a := (List.getD (wordsP s) 0 [])) (b := [114, 101, 112, 101, 97, 116]) (ev1_gd rfl hc) rfl) rfl ?_
    refine RO (B.pick rfl rfl rfl rfl (gdB rfl) (pick_or _)) ?_
    refine mv rfl ?_
    refine RS rfl (fun hc => B.move rfl) rfl ?_
    refine RS rfl (fun hc => B.lenL (ev1_gd rfl hc) un73) rfl ?_
    refine RS rfl (fun hc => B.eql (ev1_gd rfl hc) rfl) rfl ?_
    refine RO (B.pick rfl rfl rfl (gdB rfl) rfl (pick_and _)) ?_
    refine ag rfl ?_
    refine tz ⟨[(2, .bref 3 0), (4, vL eN (wordsP s)), (5, .bref 6 0), (6, vB false), (41, vB (bif (bif (decide ((List.getD (wordsP s) 0 []) = [119, 97, 105, 116])) then true else (decide ((List.getD (wordsP s) 0 []) = [114, 101, 112, 101, 97, 116]))) then (decide (((List.length (wordsP s) : Nat) : Int) = 2)) else false))], [(3, .box 116 [vS (bsO []), vS (bsO []), vI 0]), (6, .box 116 [vS (bsO (List.getD (wordsP s) 0 [])), vS (bsO []), vI 0])]⟩ rfl rfl rfl rfl ?_
    refine TK.cond rfl (fun h4 => ?_) (fun h4 => ?_)
    ·
     refine ta ⟨[(2, .bref 3 0), (4, vL eN (wordsP s)), (5, .bref 6 0)], [(3, .box 116 [vS (bsO []), vS (bsO []), vI 0]), (6, .box 116 [vS (bsO (List.getD (wordsP s) 0 [])), vS (bsO []), vI 0])]⟩ rfl rfl rfl rfl ?_
     have hw2 := cv_two h4
     have hwm := wordsP_mem (getD_mem (l := wordsP s) (k := 1) (z := []) (by omega))
     refine TK.rg (Y := tab) mixed rfl ?_
     refine mv rfl ?_
     refine RO (B.idx (z := []) (i := 1) rfl rfl un73 sz9 (fun _ => rfl) rfl (by omega)) ?_
     refine RO (B.loadP rfl ag9 sz9) ?_
     refine RO (B.call (w186 hp he (List.getD (wordsP s) 1 []) (by omega)) rfl rfl rfl) ?_
     refine rn rfl ?_
     refine rn rfl ?_
     refine rn rfl ?_
     refine RO (B.fadB rfl fa116_2 rfl) ?_
     refine rn rfl ?_
     refine ag rfl ?_
     refine zn ⟨[(2, .bref 3 0), (5, .bref 6 0), (6, vB (intV (List.getD (wordsP s) 1 [])).2)], [(3, .box 116 [vS (bsO []), vS (bsO []), vI 0]), (6, .box 116 [vS (bsO (List.getD (wordsP s) 0 [])), vS (bsO []), vI (intV (List.getD (wordsP s) 1 [])).1])]⟩ rfl rfl rfl rfl rfl ?_
     refine RO (B.loadBA rfl rfl rfl ag116 sz116 rfl rfl) ?_
     refine mv rfl ?_
     refine rn rfl ?_
     refine ag rfl ?_
     refine ra rfl ?_
     refine lf ?_
     refine leaf (val0 := .tup [.pv (.agg [pS (bsO (List.getD (wordsP s) 0 [])), pS (bsO []), pI (intV (List.getD (wordsP s) 1 [])).1]), vB (intV (List.getD (wordsP s) 1 [])).2]) (by kernel_rfl) ?_
     exact tup2 (lag (lcons (pls (by rw [cv_I h1 h2 h3 h4])) (lcons (pls (by rw [cv_I h1 h2 h3 h4])) (lcons (pli (by rw [cv_I h1 h2 h3 h4])) rfl)))) (lb (by rw [cv_I h1 h2 h3 h4]))
    ·
     refine na ⟨[(2, .bref 3 0), (5, .bref 6 0), (6, vB false)], [(3, .box 116 [vS (bsO []), vS (bsO []), vI 0]), (6, .box 116 [vS (bsO (List.getD (wordsP s) 0 [])), vS (bsO []), vI 0])]⟩ rfl rfl rfl rfl rfl ?_
     refine RO (B.loadBA rfl rfl rfl ag116 sz116 rfl rfl) ?_
     refine mv rfl ?_
     refine rn rfl ?_
     refine ag rfl ?_
     refine ra rfl ?_
     refine lf ?_
     refine leaf (val0 := .tup [.pv (.agg [pS (bsO (List.getD (wordsP s) 0 [])), pS (bsO []), pI 0]), vB false]) (by kernel_rfl) ?_
     exact tup2 (lag (lcons (pls (by rw [cv_N h1 h2 h3 h4])) (lcons (pls (by rw [cv_N h1 h2 h3 h4])) (lcons (pli (by rw [cv_N h1 h2 h3 h4])) rfl)))) (lb (by rw [cv_N h1 h2 h3 h4]))
theorem w55 (hp : PowLaid) (he : ErrLaid) (s : List UInt8) (hl : s.length ≤ 1000000) : CallOk Tryz.prog 55 [vS (bsO s)] (lookM []) (.tup [vL eC (parScr cmdV s).1, vI (parScr cmdV s).2.1, vI (parScr cmdV s).2.2]) [] := by
 refine cO qf55 rfl (nB rfl) rfl ?_
 have hPl := splC_len 59 s
 refine na ⟨[(0, vS (bsO s))], []⟩ rfl rfl rfl rfl rfl ?_
 refine RO (B.nilS (enc := eC) rfl) ?_
 refine ag rfl ?_
 refine ag rfl ?_
 refine zn ⟨[(0, vS (bsO s))], []⟩ rfl rfl rfl rfl rfl ?_
 refine mv rfl ?_
 refine RO (B.lenB (a := s) rfl un9) ?_
 refine RO (B.gtr rfl rfl) ?_
 refine tz ⟨[(0, vS (bsO s)), (13, vB (decide (4096 < (s.length : Int))))], []⟩ rfl rfl rfl rfl ?_
 refine TK.condP rfl (fun h1 => ?_) (fun h1 => ?_)
 ·
  refine na ⟨[], []⟩ rfl rfl rfl rfl rfl ?_
  refine RO (B.nilS (enc := eC) rfl) ?_
  refine ag rfl ?_
  refine ag rfl ?_
  refine ra rfl ?_
  refine lf ?_
  refine leaf (val0 := .tup [vL eC [], vI 0, vI 26]) (by kernel_rfl) ?_
  exact tup3 (lsl (by rw [parScr_long h1])) (li (by rw [parScr_long h1])) (li (by rw [parScr_long h1]))
 ·
  refine na ⟨[(0, vS (bsO s))], []⟩ rfl rfl rfl rfl rfl ?_
  refine mv rfl ?_
  refine RO (B.call (w128 hp s (by omega)) rfl rfl rfl) ?_
  refine RO (B.lenL rfl un73) ?_
  refine RO (B.eql rfl rfl) ?_
  refine tz ⟨[(0, vS (bsO s)), (17, vB (decide (((List.length (wordsP s) : Nat) : Int) = 0)))], []⟩ rfl rfl rfl rfl ?_
  refine TK.condP rfl (fun h2 => ?_) (fun h2 => ?_)
  ·
   refine na ⟨[], []⟩ rfl rfl rfl rfl rfl ?_
   refine RO (B.nilS (enc := eC) rfl) ?_
   refine ag rfl ?_
   refine ag rfl ?_
   refine ra rfl ?_
   refine lf ?_
   refine leaf (val0 := .tup [vL eC [], vI 0, vI 0]) (by kernel_rfl) ?_
   exact tup3 (lsl (by rw [parScr_none h1 h2])) (li (by rw [parScr_none h1 h2])) (li (by rw [parScr_none h1 h2]))
  ·
   refine na ⟨[(0, vS (bsO s))], []⟩ rfl rfl rfl rfl rfl ?_
   refine RO (B.adopt 6 3 116 rfl rfl) ?_
   refine zn ⟨[(0, vS (bsO s)), (5, .aref 6 0)], [(6, .arr 0 3 116 (List.map eC []))]⟩ rfl rfl rfl rfl rfl ?_
   refine mv rfl ?_
   refine RO (B.call (w116c hp s 59 (by omega)) rfl rfl rfl) ?_
   refine RO (B.lenL rfl un73) ?_
   refine mv rfl ?_
   refine ra rfl ?_
   refine TK.loop (α := Nat × Nat × List Cmd) (fun x => ⟨[(5, .aref 6 x.2.1), (19, vL eN (splC 59 s)), (20, vI ((List.length (splC 59 s) : Nat) : Int)), (21, vI ((x.1 : Nat) : Int))], [(6, .arr x.2.1 3 116 (List.map eC x.2.2))]⟩) (fun x => x.1 ≤ List.length (splC 59 s) ∧ x.2.2.length ≤ x.1 ∧ parScr cmdV s = parG cmdV (List.drop x.1 (splC 59 s)) x.1 x.2.2) (fun x => List.length (splC 59 s) - x.1) (0, 0, []) ?_ (sb rfl rfl rfl) ?_
   · show 0 ≤ List.length (splC 59 s) ∧ List.length [] ≤ 0 ∧ parScr cmdV s = parG cmdV (List.drop 0 (splC 59 s)) 0 []
     exact ⟨Nat.zero_le _, Nat.zero_le _, parScr_go h1 h2⟩
   rintro ⟨k, v, out⟩ hI0
   replace hI0 : k ≤ List.length (splC 59 s) ∧ out.length ≤ k ∧ parScr cmdV s = parG cmdV (List.drop k (splC 59 s)) k out := hI0
   show TK _ _ _ _ _ _ ⟨[(5, .aref 6 v), (19, vL eN (splC 59 s)), (20, vI ((List.length (splC 59 s) : Nat) : Int)), (21, vI k)], [(6, .arr v 3 116 (List.map eC out))]⟩
   refine na ⟨[(5, .aref 6 v), (19, vL eN (splC 59 s)), (20, vI ((List.length (splC 59 s) : Nat) : Int)), (21, vI k)], [(6, .arr v 3 116 (List.map eC out))]⟩ rfl rfl rfl rfl rfl ?_
   refine RO (B.lss rfl rfl) ?_
   refine tz ⟨[(5, .aref 6 v), (19, vL eN (splC 59 s)), (20, vI ((List.length (splC 59 s) : Nat) : Int)), (21, vI k), (22, vB (decide ((k : Int) < ((List.length (splC 59 s) : Nat) : Int))))], [(6, .arr v 3 116 (List.map eC out))]⟩ rfl rfl rfl rfl ?_
   refine TK.condP rfl (fun h3 => ?_) (fun h3 => ?_)
   ·
    refine na ⟨[(5, .aref 6 v), (19, vL eN (splC 59 s)), (20, vI ((List.length (splC 59 s) : Nat) : Int)), (21, vI k)], [(6, .arr v 3 116 (List.map eC out))]⟩ rfl rfl rfl rfl rfl ?_
    refine mv rfl ?_
    refine RO (B.idx (z := []) (i := k) rfl rfl un73 sz9 (fun _ => rfl) rfl (by omega)) ?_
    refine RO (B.loadP rfl ag9 sz9) ?_
    refine ag rfl ?_
    refine ag rfl ?_
    refine tz ⟨[(5, .aref 6 v), (6, vI k), (7, vS (bsO (List.getD (splC 59 s) k []))), (19, vL eN (splC 59 s)), (20, vI ((List.length (splC 59 s) : Nat) : Int)), (21, vI k)], [(6, .arr v 3 116 (List.map eC out))]⟩ rfl rfl rfl rfl ?_
    have hpm := splC_mem (getD_mem (l := splC 59 s) (k := k) (z := []) (by omega))
    refine TK.rg (Y := tab) mixed rfl ?_
    refine mv rfl ?_
    refine RO (B.call (w129 hp he (List.getD (splC 59 s) k []) (by omega)) rfl rfl rfl) ?_
    refine rn rfl ?_
    refine rn rfl ?_
    refine rn rfl ?_
    refine rn rfl ?_
    refine rn rfl ?_
    refine ag rfl ?_
    refine zn ⟨[(5, .aref 6 v), (6, vI k), (8, .bref 9 0), (9, vB (cmdV (List.getD (splC 59 s) k [])).2), (19, vL eN (splC 59 s)), (20, vI ((List.length (splC 59 s) : Nat) : Int)), (21, vI k)], [(6, .arr v 3 116 (List.map eC out)), (9, bC 116 (cmdV (List.getD (splC 59 s) k [])).1)]⟩ rfl rfl rfl rfl rfl ?_
    refine mv rfl ?_
    refine RO (B.not rfl) ?_
    refine tz ⟨[(5, .aref 6 v), (6, vI k), (8, .bref 9 0), (19, vL eN (splC 59 s)), (20, vI ((List.length (splC 59 s) : Nat) : Int)), (21, vI k), (32, vB (!(cmdV (List.getD (splC 59 s) k [])).2))], [(6, .arr v 3 116 (List.map eC out)), (9, bC 116 (cmdV (List.getD (splC 59 s) k [])).1)]⟩ rfl rfl rfl rfl ?_
    refine TK.cond rfl (fun h4 => ?_) (fun h4 => ?_)
    ·
     refine na ⟨[(6, vI k)], []⟩ rfl rfl rfl rfl rfl ?_
     refine mv rfl ?_
     refine RO (B.add rfl rfl (by unfold R64; omega)) ?_
     refine RO (B.nilS (enc := eC) rfl) ?_
     refine ag rfl ?_
     refine ag rfl ?_
     refine ra rfl ?_
     refine lf ?_
     refine leaf (val0 := .tup [vL eC [], vI ((k : Int) + 1), vI 25]) (by kernel_rfl) ?_
     exact tup3 (lsl (by rw [hI0.2.2, parG_no (by omega) (bnot_t h4)])) (li (by rw [hI0.2.2, parG_no (by omega) (bnot_t h4)])) (li (by rw [hI0.2.2, parG_no (by omega) (bnot_t h4)]))
    ·
     refine na ⟨[(5, .aref 6 v), (8, .bref 9 0), (19, vL eN (splC 59 s)), (20, vI ((List.length (splC 59 s) : Nat) : Int)), (21, vI k)], [(6, .arr v 3 116 (List.map eC out)), (9, bC 116 (cmdV (List.getD (splC 59 s) k [])).1)]⟩ rfl rfl rfl rfl rfl ?_
     refine rn rfl ?_
     refine RO (B.loadBA rfl rfl rfl ag116 sz116 rfl rfl) ?_
     refine RO (B.runZ (val := .pv (.slice (List.map eC [(cmdV (List.getD (splC 59 s) k [])).1]))) rfl (fun l => Frz.arr l _ _ _ _ _) rfl) ?_
     refine RO (B.append rfl rfl rfl un82 in116 rfl (fun _ => rfl) by116 (by (simp only [List.length_append, List.length_cons, List.length_nil]; omega))) ?_
     refine rn rfl ?_
     refine zn ⟨[(5, .aref 6 (v + 1)), (19, vL eN (splC 59 s)), (20, vI ((List.length (splC 59 s) : Nat) : Int)), (21, vI k)], [(6, .arr (v + 1) 3 116 (List.map eC (out ++ [(cmdV (List.getD (splC 59 s) k [])).1])))]⟩ rfl rfl rfl rfl rfl ?_
     refine RO (B.add rfl rfl (by unfold R64; omega)) ?_
     refine mv rfl ?_
     refine RN ?_
     refine Aq rfl ?_
     refine PK.lp ?_
     refine LP.mk ((k + 1), (v + 1), (out ++ [(cmdV (List.getD (splC 59 s) k [])).1])) ?_ ?_ (sb rfl rfl rfl)
     · show (k + 1) ≤ List.length (splC 59 s) ∧ List.length (out ++ [(cmdV (List.getD (splC 59 s) k [])).1]) ≤ (k + 1) ∧ parScr cmdV s = parG cmdV (List.drop (k + 1) (splC 59 s)) (k + 1) (out ++ [(cmdV (List.getD (splC 59 s) k [])).1])
       exact ⟨by omega, by (simp only [List.length_append, List.length_cons, List.length_nil]; omega), hI0.2.2.trans (parG_go (by omega) (bnot_f h4))⟩
     · show List.length (splC 59 s) - (k + 1) < List.length (splC 59 s) - k
       omega
   ·
    refine At rfl ?_
    refine TK.exit ?_
    refine PK.exit rfl ?_
    refine Ap rfl ?_
    refine tn ⟨[(5, .aref 6 v)], [(6, .arr v 3 116 (List.map eC out))]⟩ rfl rfl rfl ?_
    refine TK.frz (t := 5) rfl rfl ?_
    refine nr ⟨[(5, vL eC out)], []⟩ rfl rfl rfl rfl ?_
    refine mv rfl ?_
    refine RO (B.call (w59 out (by omega)) rfl rfl rfl) ?_
    refine ag rfl ?_
    refine zn ⟨[(5, vL eC out), (10, vI (chkS out))], []⟩ rfl rfl rfl rfl rfl ?_
    refine mv rfl ?_
    refine RO (B.neq rfl rfl) ?_
    refine tz ⟨[(5, vL eC out), (10, vI (chkS out)), (43, vB (decide ((chkS out) ≠ 0)))], []⟩ rfl rfl rfl rfl ?_
    refine TK.condP rfl (fun h5 => ?_) (fun h5 => ?_)
    ·
     refine na ⟨[(10, vI (chkS out))], []⟩ rfl rfl rfl rfl rfl ?_
     refine mv rfl ?_
     refine RO (B.nilS (enc := eC) rfl) ?_
     refine ag rfl ?_
     refine ag rfl ?_
     refine ra rfl ?_
     refine lf ?_
     refine leaf (val0 := .tup [vL eC [], vI 0, vI (chkS out)]) (by kernel_rfl) ?_
     exact tup3 (lsl (by rw [hI0.2.2, parG_bad (by omega) h5])) (li (by rw [hI0.2.2, parG_bad (by omega) h5])) (li (by rw [hI0.2.2, parG_bad (by omega) h5]))
    ·
     refine na ⟨[(5, vL eC out)], []⟩ rfl rfl rfl rfl rfl ?_
     refine mv rfl ?_
     refine ag rfl ?_
     refine ag rfl ?_
     refine ag rfl ?_
     refine ra rfl ?_
     refine lf ?_
     refine leaf (val0 := .tup [vL eC out, vI 0, vI 0]) (by kernel_rfl) ?_
     exact tup3 (lsl (by rw [hI0.2.2, parG_end (by omega) h5])) (li (by rw [hI0.2.2, parG_end (by omega) h5])) (li (by rw [hI0.2.2, parG_end (by omega) h5]))
theorem w127 (hp : PowLaid) (hj2 : Join2Ok) (l : List Cmd) (hc : ∀ c ∈ l, chkC c = 0) (hl : l.length ≤ 64) : CallOk Tryz.prog 127 [vL eC l] (lookM []) (vS (bsO (prtS l))) [] := by
 refine cO qf127 rfl (nB rfl) rfl ?_
 refine na ⟨[(0, vL eC l)], []⟩ rfl rfl rfl rfl rfl ?_
 refine ag rfl ?_
 refine zn ⟨[(0, vL eC l)], []⟩ rfl rfl rfl rfl rfl ?_
 refine RO (B.adopt 4 1 9 rfl rfl) ?_
 refine zn ⟨[(0, vL eC l), (3, .aref 4 0)], [(4, .arr 0 1 9 (List.map eN []))]⟩ rfl rfl rfl rfl rfl ?_
 refine mv rfl ?_
 refine RO (B.lenL rfl un82) ?_
 refine mv rfl ?_
 refine ra rfl ?_
 refine TK.loop (α := Nat × Nat × List (List UInt8)) (fun x => ⟨[(3, .aref 4 x.2.1), (6, vL eC l), (7, vI l.length), (8, vI ((x.1 : Nat) : Int))], [(4, .arr x.2.1 1 9 (List.map eN x.2.2))]⟩) (fun x => x.1 ≤ l.length ∧ x.2.2.length = x.1 ∧ x.2.2 = List.map prtW (List.take x.1 l)) (fun x => l.length - x.1) (0, 0, []) ?_ (sb rfl rfl rfl) ?_
 · show 0 ≤ l.length ∧ List.length [] = 0 ∧ [] = List.map prtW (List.take 0 l)
   exact ⟨Nat.zero_le _, rfl, rfl⟩
 rintro ⟨k, v, out⟩ hI0
 replace hI0 : k ≤ l.length ∧ out.length = k ∧ out = List.map prtW (List.take k l) := hI0
 show TK _ _ _ _ _ _ ⟨[(3, .aref 4 v), (6, vL eC l), (7, vI l.length), (8, vI k)], [(4, .arr v 1 9 (List.map eN out))]⟩
 refine na ⟨[(3, .aref 4 v), (6, vL eC l), (7, vI l.length), (8, vI k)], [(4, .arr v 1 9 (List.map eN out))]⟩ rfl rfl rfl rfl rfl ?_
 refine RO (B.lss rfl rfl) ?_
 refine tz ⟨[(3, .aref 4 v), (6, vL eC l), (7, vI l.length), (8, vI k), (9, vB (decide ((k : Int) < (l.length : Int))))], [(4, .arr v 1 9 (List.map eN out))]⟩ rfl rfl rfl rfl ?_
 refine TK.condP rfl (fun h1 => ?_) (fun h1 => ?_)
 ·
  refine na ⟨[(3, .aref 4 v), (6, vL eC l), (7, vI l.length), (8, vI k)], [(4, .arr v 1 9 (List.map eN out))]⟩ rfl rfl rfl rfl rfl ?_
  refine RO (B.idx (z := z3) (i := k) rfl rfl un82 sz116 (fun _ => rfl) rfl (by omega)) ?_
  refine RO (B.loadA (ds := [pS (bsO (List.getD l k z3).1), pS (bsO (List.getD l k z3).2.1), pI (List.getD l k z3).2.2]) rfl ag116 sz116 (nB rfl) rfl) ?_
  refine rn rfl ?_
  refine rn rfl ?_
  refine tz ⟨[(3, .aref 4 v), (5, .bref 6 0), (6, vL eC l), (7, vI l.length), (8, vI k)], [(4, .arr v 1 9 (List.map eN out)), (6, bC 116 (List.getD l k z3))]⟩ rfl rfl rfl rfl ?_
  have hck := hc _ (getD_mem (l := l) (k := k) (z := z3) (by omega))
  have hcs := cmd_sz hck
  refine TK.rg (Y := tab) mixed rfl ?_
  refine RO (B.fadB rfl fa116_0 rfl) ?_
  refine RO (B.loadB rfl rfl rfl ag9 sz9 rfl) ?_
  refine zn ⟨[(3, .aref 4 v), (5, .bref 6 0), (6, vL eC l), (7, vI l.length), (8, vI k), (13, vS (bsO (List.getD l k z3).1))], [(4, .arr v 1 9 (List.map eN out)), (6, bC 116 (List.getD l k z3))]⟩ rfl rfl rfl rfl rfl ?_
  refine RO (B.seqB (a := (List.getD l k z3).1) (b := [97, 99, 116]) rfl rfl) ?_
  refine ag rfl ?_
  refine tz ⟨[(3, .aref 4 v), (5, .bref 6 0), (6, vL eC l), (7, vI l.length), (8, vI k), (13, vS (bsO (List.getD l k z3).1)), (24, vB (decide ((List.getD l k z3).1 = [97, 99, 116])))], [(4, .arr v 1 9 (List.map eN out)), (6, bC 116 (List.getD l k z3))]⟩ rfl rfl rfl rfl ?_
  refine TK.condP rfl (fun h2 => ?_) (fun h2 => ?_)
  ·
   refine na ⟨[(3, .aref 4 v), (5, .bref 6 0), (6, vL eC l), (7, vI l.length), (8, vI k)], [(4, .arr v 1 9 (List.map eN out)), (6, bC 116 (List.getD l k z3))]⟩ rfl rfl rfl rfl rfl ?_
   refine rn rfl ?_
   refine RO (B.fadB rfl fa116_1 rfl) ?_
   refine RO (B.loadB rfl rfl rfl ag9 sz9 rfl) ?_
   refine RO (B.catB (a := [97, 99, 116, 32]) (b := (List.getD l k z3).2.1) rfl rfl (by (simp only [List.length_append, List.length_cons, List.length_nil]; omega))) ?_
   refine RO (B.runZ (val := .pv (.slice (List.map eN [([97, 99, 116, 32] ++ (List.getD l k z3).2.1)]))) rfl (fun l => Frz.arr l _ _ _ _ _) rfl) ?_
   refine RO (B.append rfl rfl rfl un73 in9 rfl (fun _ => rfl) by9 (by (simp only [List.length_append, List.length_cons, List.length_nil]; omega))) ?_
   refine rn rfl ?_
   refine zn ⟨[(3, .aref 4 (v + 1)), (6, vL eC l), (7, vI l.length), (8, vI k)], [(4, .arr (v + 1) 1 9 (List.map eN (out ++ [([97, 99, 116, 32] ++ (List.getD l k z3).2.1)])))]⟩ rfl rfl rfl rfl rfl ?_
   refine RO (B.add rfl rfl (by unfold R64; omega)) ?_
   refine mv rfl ?_
   refine RN ?_
   refine Aq rfl ?_
   refine PK.lp ?_
   refine LP.mk ((k + 1), (v + 1), (out ++ [([97, 99, 116, 32] ++ (List.getD l k z3).2.1)])) ?_ ?_ (sb rfl rfl rfl)
   · show (k + 1) ≤ l.length ∧ List.length (out ++ [([97, 99, 116, 32] ++ (List.getD l k z3).2.1)]) = (k + 1) ∧ (out ++ [([97, 99, 116, 32] ++ (List.getD l k z3).2.1)]) = List.map prtW (List.take (k + 1) l)
     refine ⟨by omega, by simp only [List.length_append, List.length_cons, List.length_nil]; omega, ?_⟩; exact prt_next (by omega) hI0.2.2 (by rw [prtW, if_pos h2])
   · show l.length - (k + 1) < l.length - k
     omega
  ·
   refine na ⟨[(3, .aref 4 v), (5, .bref 6 0), (6, vL eC l), (7, vI l.length), (8, vI k), (13, vS (bsO (List.getD l k z3).1))], [(4, .arr v 1 9 (List.map eN out)), (6, bC 116 (List.getD l k z3))]⟩ rfl rfl rfl rfl rfl ?_
   refine RO (B.seqB (a := (List.getD l k z3).1) (b := [101, 110, 100]) rfl rfl) ?_
   refine ag rfl ?_
   refine tz ⟨[(3, .aref 4 v), (5, .bref 6 0), (6, vL eC l), (7, vI l.length), (8, vI k), (32, vB (decide ((List.getD l k z3).1 = [101, 110, 100])))], [(4, .arr v 1 9 (List.map eN out)), (6, bC 116 (List.getD l k z3))]⟩ rfl rfl rfl rfl ?_
   refine TK.condP rfl (fun h3 => ?_) (fun h3 => ?_)
   ·
    refine na ⟨[(3, .aref 4 v), (6, vL eC l), (7, vI l.length), (8, vI k)], [(4, .arr v 1 9 (List.map eN out))]⟩ rfl rfl rfl rfl rfl ?_
    refine rn rfl ?_
    refine RO (B.runZ (val := .pv (.slice (List.map eN [[101, 110, 100]]))) rfl (fun l => Frz.arr l _ _ _ _ _) rfl) ?_
    refine RO (B.append rfl rfl rfl un73 in9 rfl (fun _ => rfl) by9 (by (simp only [List.length_append, List.length_cons, List.length_nil]; omega))) ?_
    refine rn rfl ?_
    refine zn ⟨[(3, .aref 4 (v + 1)), (6, vL eC l), (7, vI l.length), (8, vI k)], [(4, .arr (v + 1) 1 9 (List.map eN (out ++ [[101, 110, 100]])))]⟩ rfl rfl rfl rfl rfl ?_
    refine RO (B.add rfl rfl (by unfold R64; omega)) ?_
    refine mv rfl ?_
    refine RN ?_
    refine Aq rfl ?_
    refine PK.lp ?_
    refine LP.mk ((k + 1), (v + 1), (out ++ [[101, 110, 100]])) ?_ ?_ (sb rfl rfl rfl)
    · show (k + 1) ≤ l.length ∧ List.length (out ++ [[101, 110, 100]]) = (k + 1) ∧ (out ++ [[101, 110, 100]]) = List.map prtW (List.take (k + 1) l)
      refine ⟨by omega, by simp only [List.length_append, List.length_cons, List.length_nil]; omega, ?_⟩; exact prt_next (by omega) hI0.2.2 (by rw [prtW, if_neg h2, if_pos h3])
    · show l.length - (k + 1) < l.length - k
      omega
   ·
    refine ta ⟨[(3, .aref 4 v), (5, .bref 6 0), (6, vL eC l), (7, vI l.length), (8, vI k)], [(4, .arr v 1 9 (List.map eN out)), (6, bC 116 (List.getD l k z3))]⟩ rfl rfl rfl rfl ?_
    have hil := itoa_len (n := (List.getD l k z3).2.2) (by omega) (by omega)
    refine TK.rg (Y := tab) mixed rfl ?_
    refine rn rfl ?_
    refine RO (B.fadB rfl fa116_0 rfl) ?_
    refine RO (B.loadB rfl rfl rfl ag9 sz9 rfl) ?_
    refine RO (B.catB (a := (List.getD l k z3).1) (b := [32]) rfl rfl (by (simp only [List.length_append, List.length_cons, List.length_nil]; omega))) ?_
    refine RO (B.fadB rfl fa116_2 rfl) ?_
    refine RO (B.loadB rfl rfl rfl ag3 sz3 rfl) ?_
    refine RO (B.call (w185 hp (List.getD l k z3).2.2 (by unfold R64; omega)) rfl rfl rfl) ?_
    refine RO (B.catB (a := ((List.getD l k z3).1 ++ [32])) (b := (Lib.itoa (List.getD l k z3).2.2)) rfl rfl (by (simp only [List.length_append, List.length_cons, List.length_nil]; omega))) ?_
    refine RO (B.runZ (val := .pv (.slice (List.map eN [(((List.getD l k z3).1 ++ [32]) ++ (Lib.itoa (List.getD l k z3).2.2))]))) rfl (fun l => Frz.arr l _ _ _ _ _) rfl) ?_
    refine RO (B.append rfl rfl rfl un73 in9 rfl (fun _ => rfl) by9 (by (simp only [List.length_append, List.length_cons, List.length_nil]; omega))) ?_
    refine rn rfl ?_
    refine RG.nil (fun _ => by kernel_rfl) ?_
    refine Ap rfl ?_
    refine nr ⟨[(3, .aref 4 (v + 1)), (6, vL eC l), (7, vI l.length), (8, vI k)], [(4, .arr (v + 1) 1 9 (List.map eN (out ++ [(((List.getD l k z3).1 ++ [32]) ++ (Lib.itoa (List.getD l k z3).2.2))])))]⟩ rfl rfl rfl rfl ?_
    refine RO (B.add rfl rfl (by unfold R64; omega)) ?_
    refine mv rfl ?_
    refine RN ?_
    refine Aq rfl ?_
    refine PK.lp ?_
    refine LP.mk ((k + 1), (v + 1), (out ++ [(((List.getD l k z3).1 ++ [32]) ++ (Lib.itoa (List.getD l k z3).2.2))])) ?_ ?_ (sb rfl rfl rfl)
    · show (k + 1) ≤ l.length ∧ List.length (out ++ [(((List.getD l k z3).1 ++ [32]) ++ (Lib.itoa (List.getD l k z3).2.2))]) = (k + 1) ∧ (out ++ [(((List.getD l k z3).1 ++ [32]) ++ (Lib.itoa (List.getD l k z3).2.2))]) = List.map prtW (List.take (k + 1) l)
      refine ⟨by omega, by simp only [List.length_append, List.length_cons, List.length_nil]; omega, ?_⟩; exact prt_next (by omega) hI0.2.2 (by rw [prtW, if_neg h2, if_neg h3])
    · show l.length - (k + 1) < l.length - k
      omega
 ·
  refine At rfl ?_
  refine TK.exit ?_
  refine PK.exit rfl ?_
  refine Ap rfl ?_
  refine tn ⟨[(3, .aref 4 v)], [(4, .arr v 1 9 (List.map eN out))]⟩ rfl rfl rfl ?_
  have hou : out = l.map prtW := by rw [hI0.2.2, List.take_of_length_le (by omega)]
  have hjw : ∀ w ∈ out, w.length ≤ 1000 := by rw [hou]; exact prtW_mem hc
  refine TK.frz (t := 3) rfl rfl ?_
  refine nr ⟨[(3, vL eN out)], []⟩ rfl rfl rfl rfl ?_
  refine mv rfl ?_
  refine RO (B.call (hj2 out (by omega) hjw) rfl rfl rfl) ?_
  refine ag rfl ?_
  refine ra rfl ?_
  refine lf ?_
  refine leaf (val0 := vS (bsO (joinC out))) (by kernel_rfl) ?_
  exact ls (by exact congrArg (fun z => bsO (joinC z)) hou)
theorem w54 (hp : PowLaid) (hj2 : Join2Ok) (l : List Cmd) (hl : l.length ≤ 10000000000000) : CallOk Tryz.prog 54 [vL eC l] (lookM []) (.tup [vS (bsO (srcX l)), vI (chkS l)]) [] := by
 refine cO qf54 rfl (nB rfl) rfl ?_
 refine na ⟨[(0, vL eC l)], []⟩ rfl rfl rfl rfl rfl ?_
 refine ag rfl ?_
 refine ag rfl ?_
 refine zn ⟨[(0, vL eC l)], []⟩ rfl rfl rfl rfl rfl ?_
 refine mv rfl ?_
 refine RO (B.call (w59 l (by omega)) rfl rfl rfl) ?_
 refine ag rfl ?_
 refine zn ⟨[(0, vL eC l), (4, vI (chkS l))], []⟩ rfl rfl rfl rfl rfl ?_
 refine mv rfl ?_
 refine RO (B.neq rfl rfl) ?_
 refine tz ⟨[(0, vL eC l), (4, vI (chkS l)), (8, vB (decide ((chkS l) ≠ 0)))], []⟩ rfl rfl rfl rfl ?_
 refine TK.condP rfl (fun h1 => ?_) (fun h1 => ?_)
 ·
  refine na ⟨[(4, vI (chkS l))], []⟩ rfl rfl rfl rfl rfl ?_
  refine mv rfl ?_
  refine ag rfl ?_
  refine ag rfl ?_
  refine ra rfl ?_
  refine lf ?_
  refine leaf (val0 := .tup [vS (bsO []), vI (chkS l)]) (by kernel_rfl) ?_
  exact tup2 (ls (by rw [srcX_no h1])) (rfl)
 ·
  refine ta ⟨[(0, vL eC l)], []⟩ rfl rfl rfl rfl ?_
  obtain ⟨hl64, hc, _, _⟩ := chkS_ok (Decidable.not_not.1 h1)
  refine TK.rg (Y := tab) mixed rfl ?_
  refine mv rfl ?_
  refine RO (B.call (w127 hp hj2 l hc hl64) rfl rfl rfl) ?_
  refine ag rfl ?_
  refine ag rfl ?_
  refine ra rfl ?_
  refine lf ?_
  refine leaf (val0 := .tup [vS (bsO (prtS l)), vI 0]) (by kernel_rfl) ?_
  exact tup2 (ls (by rw [srcX_ok (Decidable.not_not.1 h1)])) (li (by exact (Decidable.not_not.1 h1).symm))
theorem w60 (a b : List Cmd) (hl : a.length ≤ 1000000000000000) : CallOk Tryz.prog 60 [vL eC a, vL eC b] (lookM []) (vB (decide (a = b))) [] := by
 refine cO qf60 rfl (nB rfl) rfl ?_
 refine na ⟨[(0, vL eC a), (1, vL eC b)], []⟩ rfl rfl rfl rfl rfl ?_
 refine ag rfl ?_
 refine zn ⟨[(0, vL eC a), (1, vL eC b)], []⟩ rfl rfl rfl rfl rfl ?_
 refine mv rfl ?_
 refine RO (B.lenL rfl un83) ?_
 refine mv rfl ?_
 refine RO (B.lenL rfl un83) ?_
 refine RO (B.neq rfl rfl) ?_
 refine tz ⟨[(0, vL eC a), (1, vL eC b), (10, vB (decide ((a.length : Int) ≠ (b.length : Int))))], []⟩ rfl rfl rfl rfl ?_
 refine TK.condP rfl (fun h1 => ?_) (fun h1 => ?_)
 ·
  refine na ⟨[], []⟩ rfl rfl rfl rfl rfl ?_
  refine ag rfl ?_
  refine ra rfl ?_
  refine lf ?_
  refine leaf (val0 := vB false) (by kernel_rfl) ?_
  exact lb (by exact (decide_eq_false fun e => by subst e; omega).symm)
 ·
  refine na ⟨[(0, vL eC a), (1, vL eC b)], []⟩ rfl rfl rfl rfl rfl ?_
  refine ag rfl ?_
  refine ra rfl ?_
  refine TK.loop (α := Nat) (fun x => ⟨[(0, vL eC a), (1, vL eC b), (5, vI x)], []⟩) (fun x => x ≤ a.length ∧ a.length = b.length ∧ ∀ j, j < x → List.getD a j z3 = List.getD b j z3) (fun x => a.length - x) 0 ?_ (sb rfl rfl rfl) ?_
  · show 0 ≤ a.length ∧ a.length = b.length ∧ ∀ j, j < 0 → List.getD a j z3 = List.getD b j z3
    exact ⟨Nat.zero_le _, by omega, fun j hj => by omega⟩
  rintro k hI0
  replace hI0 : k ≤ a.length ∧ a.length = b.length ∧ ∀ j, j < k → List.getD a j z3 = List.getD b j z3 := hI0
  show TK _ _ _ _ _ _ ⟨[(0, vL eC a), (1, vL eC b), (5, vI k)], []⟩
  refine na ⟨[(0, vL eC a), (1, vL eC b), (5, vI k)], []⟩ rfl rfl rfl rfl rfl ?_
  refine mv rfl ?_
  refine mv rfl ?_
  refine RO (B.lenL rfl un83) ?_
  refine RO (B.lss rfl rfl) ?_
  refine tz ⟨[(0, vL eC a), (1, vL eC b), (5, vI k), (14, vB (decide ((k : Int) < (a.length : Int))))], []⟩ rfl rfl rfl rfl ?_
  refine TK.condP rfl (fun h2 => ?_) (fun h2 => ?_)
  ·
   refine na ⟨[(0, vL eC a), (1, vL eC b), (5, vI k)], []⟩ rfl rfl rfl rfl rfl ?_
   refine mv rfl ?_
   refine mv rfl ?_
   refine RO (B.idx (z := z3) (i := k) rfl rfl un83 sz115 (fun _ => rfl) rfl (by omega)) ?_
   refine RO (B.loadA (ds := [pS (bsO (List.getD a k z3).1), pS (bsO (List.getD a k z3).2.1), pI (List.getD a k z3).2.2]) rfl ag115 sz115 (nB rfl) rfl) ?_
   refine mv rfl ?_
   refine mv rfl ?_
   refine RO (B.idx (z := z3) (i := k) rfl rfl un83 sz115 (fun _ => rfl) rfl (by omega)) ?_
   refine RO (B.loadA (ds := [pS (bsO (List.getD b k z3).1), pS (bsO (List.getD b k z3).2.1), pI (List.getD b k z3).2.2]) rfl ag115 sz115 (nB rfl) rfl) ?_
   refine RO (B.stqN rfl rfl fq115 (eqv_cons eqv_s (eqv_cons eqv_s (eqv_last eqv_i)))) ?_
   refine RG.nil (fun _ => by kernel_rfl) ?_
   refine Ap rfl ?_
   refine tn ⟨[(0, vL eC a), (1, vL eC b), (5, vI k), (25, vB (!((decide ((List.getD a k z3).1 = (List.getD b k z3).1)) && ((decide ((List.getD a k z3).2.1 = (List.getD b k z3).2.1)) && (decide ((List.getD a k z3).2.2 = (List.getD b k z3).2.2))))))], []⟩ rfl rfl rfl ?_
   refine TK.cond rfl (fun h3 => ?_) (fun h3 => ?_)
   ·
    refine na ⟨[], []⟩ rfl rfl rfl rfl rfl ?_
    refine ag rfl ?_
    refine ra rfl ?_
    refine lf ?_
    refine leaf (val0 := vB false) (by kernel_rfl) ?_
    exact lb (by exact (decide_eq_false fun e => by subst e; exact cm_ne h3 rfl).symm)
   ·
    refine na ⟨[(0, vL eC a), (1, vL eC b), (5, vI k)], []⟩ rfl rfl rfl rfl rfl ?_
    refine mv rfl ?_
    refine RO (B.add rfl rfl (by unfold R64; omega)) ?_
    refine ag rfl ?_
    refine RN ?_
    refine Aq rfl ?_
    refine PK.lp ?_
    refine LP.mk (k + 1) ?_ ?_ (sb rfl rfl rfl)
    · show (k + 1) ≤ a.length ∧ a.length = b.length ∧ ∀ j, j < (k + 1) → List.getD a j z3 = List.getD b j z3
      refine ⟨by omega, hI0.2.1, fun j hj => ?_⟩; rcases Nat.lt_succ_iff_lt_or_eq.1 hj with h | h; exact hI0.2.2 j h; subst h; exact cm_eq h3
    · show a.length - (k + 1) < a.length - k
      omega
  ·
   refine At rfl ?_
   refine TK.exit ?_
   refine PK.exit rfl ?_
   refine Ap rfl ?_
   refine nr ⟨[], []⟩ rfl rfl rfl rfl ?_
   refine ag rfl ?_
   refine ra rfl ?_
   refine lf ?_
   refine leaf (val0 := vB true) (by kernel_rfl) ?_
   exact lb (by exact (decide_eq_true (eq_getD z3 hI0.2.1 fun j hj => hI0.2.2 j (by omega))).symm)
end Go.Lens.Tm
end
