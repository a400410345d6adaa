/- A part of the proof that NightKeepsCardSaid holds, without conditions. -/
import Derived.Test.YtomghboflcafbaaGreatDoorG1
import Derived.Shelf.Strings.OnBuilder
import Derived.Test.YtomghboflcafbaaGreatDoorProg
import Derived.Test.YtomghboflcafbaaGreatDoorS4
import Derived.Test.YtomghboflcafbaaGreatDoorS10
import Derived.Test.YtomghboflcafbaaGreatDoorRows
import Derived.MakeChecks
import Derived.Lib.LaidTab
import Derived.LaidLaws
import Derived.Stop.Joined
import Derived.RowKit
set_option linter.unusedVariables false
set_option linter.unusedSimpArgs false
section
namespace Go.Lens.Tm
open Go.Lens.Tb Go.Proofs
variable [Lz]
set_option linter.unusedSectionVars false
set_option maxRecDepth 100000
attribute [local irreducible] TK PK T RG EfR Body
set_option maxHeartbeats 4000000 in
theorem w8 (ha : CallOk Tryz.prog 19 [] (lookM []) (.pv (.lit (.bool true))) []) (hp : PowLaid) (hj : JoinOk) (b m t : List Fld) (hl1 : b.length * 32 ≤ 140737488355328) (hl2 : m.length * 32 ≤ 140737488355328) (hl3 : t.length * 32 ≤ 140737488355328) : CallOk Tryz.prog 8 [vL eF b, vL eF m, vL eF t] (lookM []) (vB true) [] := by
 haveI := tab_ok
 obtain ⟨fn, f1, f2, f3, f4, _, f6⟩ := qf8
 refine callOk_of (Y := tab) (F := fn8) f1 (f2.trans rfl) f3 f4 f6 (Nat.le_of_ble_eq_true rfl) rfl ?_
 clear f1 f2 f3 f4 f6
 show TK _ _ _ _ _ _ ⟨[(0, vL eF b), (1, vL eF m), (2, vL eF t)], []⟩
 repeat first|refine a1 ?_|refine a2 ?_|refine a3 ?_|refine a4 ?_|refine a5 ?_
 refine NR ⟨[(0, vL eF b), (1, vL eF m), (2, vL eF t)], []⟩ (sb rfl rfl rfl) rfl ?_
 refine RO (Body.assign rfl) ?_
 refine RN ?_
 repeat first|refine a1 ?_|refine a2 ?_|refine a3 ?_|refine a4 ?_|refine a5 ?_
 refine NR ⟨[(0, vL eF b), (1, vL eF m), (2, vL eF t)], []⟩ (sb rfl rfl rfl) rfl ?_
 refine RO (Body.move rfl) ?_
 refine RO (Body.call (w34 b (by omega)) rfl rfl rfl) ?_
 refine RO (Body.move rfl) ?_
 refine RO (Body.call (w34 m (by omega)) rfl rfl rfl) ?_
 refine RO (Body.move rfl) ?_
 refine RO (Body.call (w34 t (by omega)) rfl rfl rfl) ?_
 refine RO (Body.assign rfl) ?_
 refine RO (Body.assign rfl) ?_
 refine RO (Body.assign rfl) ?_
 refine RN ?_
 repeat first|refine a1 ?_|refine a2 ?_|refine a3 ?_|refine a4 ?_|refine a5 ?_
 refine TK.norm ⟨[(0, vL eF b), (1, vL eF m), (2, vL eF t), (7, vL eF b), (8, vL eF m), (9, vL eF t)], []⟩ (sb rfl rfl rfl) ?_
 have rb := chkFl_rng b
 have rm := chkFl_rng m
 have rt := chkFl_rng t
 refine TK.rg (Y := tab) mixed rfl ?_
 refine RO (Body.move rfl) ?_
 refine RO (Body.lenL rfl un60) ?_
 refine RO (Body.gtr rfl rfl) ?_
 refine RO (Body.move rfl) ?_
 refine RG.cons (EfR.sym rfl (fun hc => Body.move rfl) rfl) ?_
 refine RG.cons (EfR.sym rfl (fun hc => Body.lenL (ev1_gd rfl hc) un60) rfl) ?_
 refine RG.cons (EfR.sym rfl (fun hc => Body.gtr (ev1_gd rfl hc) rfl) rfl) ?_
 refine RO (Body.pick rfl rfl rfl rfl (gdB rfl) (pick_or _)) ?_
 refine RO (Body.move rfl) ?_
 refine RG.cons (EfR.sym rfl (fun hc => Body.move rfl) rfl) ?_
 refine RG.cons (EfR.sym rfl (fun hc => Body.lenL (ev1_gd rfl hc) un60) rfl) ?_
 refine RG.cons (EfR.sym rfl (fun hc => Body.gtr (ev1_gd rfl hc) rfl) rfl) ?_
 refine RO (Body.pick rfl rfl rfl rfl (gdB rfl) (pick_or _)) ?_
 refine RO (Body.move rfl) ?_
 refine RG.cons (EfR.sym rfl (fun hc => Body.move rfl) rfl) ?_
 refine RG.cons (EfR.sym rfl (fun hc => Body.call (w35 b 8 (by omega)) rfl (ds2 (ev1_gd rfl hc) rfl) rfl) rfl) ?_
 refine RG.cons (EfR.sym rfl (fun hc => Body.not (ev1_gd rfl hc)) rfl) ?_
 refine RO (Body.pick rfl rfl rfl rfl (gdB rfl) (pick_or _)) ?_
 refine RO (Body.move rfl) ?_
 refine RG.cons (EfR.sym rfl (fun hc => Body.move rfl) rfl) ?_
 refine RG.cons (EfR.sym rfl (fun hc => Body.call (w35 m 8 (by omega)) rfl (ds2 (ev1_gd rfl hc) rfl) rfl) rfl) ?_
 refine RG.cons (EfR.sym rfl (fun hc => Body.not (ev1_gd rfl hc)) rfl) ?_
 refine RO (Body.pick rfl rfl rfl rfl (gdB rfl) (pick_or _)) ?_
 refine RO (Body.move rfl) ?_
 refine RG.cons (EfR.sym rfl (fun hc => Body.move rfl) rfl) ?_
 refine RG.cons (EfR.sym rfl (fun hc => Body.call (w35 t 8 (by omega)) rfl (ds2 (ev1_gd rfl hc) rfl) rfl) rfl) ?_
 refine RG.cons (EfR.sym rfl (fun hc => Body.not (ev1_gd rfl hc)) rfl) ?_
 refine RO (Body.pick rfl rfl rfl rfl (gdB rfl) (pick_or _)) ?_
 refine RO (Body.move rfl) ?_
 refine RG.cons (EfR.sym rfl (fun hc => Body.move rfl) rfl) ?_
 refine RG.cons (EfR.sym rfl (fun hc => Body.call (w38 b (by omega)) rfl (ds1 (ev1_gd rfl hc)) rfl) rfl) ?_
 refine RG.cons (EfR.sym rfl (fun hc => Body.move rfl) rfl) ?_
 refine RG.cons (EfR.sym rfl (fun hc => Body.call (w38 m (by omega)) rfl (ds1 (ev1_gd rfl hc)) rfl) rfl) ?_
 refine RG.cons (EfR.sym rfl (fun hc => Body.add (ev1_gd rfl hc) (ev1_gd rfl hc) (by unfold R64; omega)) rfl) ?_
 refine RG.cons (EfR.sym rfl (fun hc => Body.move rfl) rfl) ?_
 refine RG.cons (EfR.sym rfl (fun hc => Body.call (w38 t (by omega)) rfl (ds1 (ev1_gd rfl hc)) rfl) rfl) ?_
 refine RG.cons (EfR.sym rfl (fun hc => Body.add (ev1_gd rfl hc) (ev1_gd rfl hc) (by unfold R64; omega)) rfl) ?_
 refine RG.cons (EfR.sym rfl (fun hc => Body.neq (ev1_gd rfl hc) rfl) rfl) ?_
 refine RO (Body.pick rfl rfl rfl rfl (gdB rfl) (pick_or _)) ?_
 refine RN ?_
 repeat first|refine a1 ?_|refine a2 ?_|refine a3 ?_|refine a4 ?_|refine a5 ?_
 refine TK.norm ⟨[(0, vL eF b), (1, vL eF m), (2, vL eF t), (7, vL eF b), (8, vL eF m), (9, vL eF t), (81, vB (bif (bif (bif (bif (bif (bif (decide (8 < ((List.length b : Nat) : Int))) then true else (decide (8 < ((List.length m : Nat) : Int)))) then true else (decide (8 < ((List.length t : Nat) : Int)))) then true else (!(shortF b 8))) then true else (!(shortF m 8))) then true else (!(shortF t 8))) then true else (decide ((((chkFl b) + (chkFl m)) + (chkFl t)) ≠ 0))))], []⟩ (sb rfl rfl rfl) ?_
 refine TK.cond rfl (fun h1 => ?_) (fun h1 => ?_)
 ·
  repeat first|refine a1 ?_|refine a2 ?_|refine a3 ?_|refine a4 ?_|refine a5 ?_
  refine NR ⟨[], []⟩ (sb rfl rfl rfl) rfl ?_
  refine RO (Body.call (ha) rfl rfl rfl) ?_
  refine RO (Body.assign rfl) ?_
  refine RN ?_
  repeat first|refine a1 ?_|refine a2 ?_|refine a3 ?_|refine a4 ?_|refine a5 ?_
  refine TK.ret ?_
  refine PK.ret ?_
  refine leaf (val0 := vB true) (by kernel_rfl) ?_
  exact rfl
 ·
  repeat first|refine a1 ?_|refine a2 ?_|refine a3 ?_|refine a4 ?_|refine a5 ?_
  refine TK.norm ⟨[(0, vL eF b), (1, vL eF m), (2, vL eF t), (7, vL eF b), (8, vL eF m), (9, vL eF t)], []⟩ (sb rfl rfl rfl) ?_
  obtain ⟨⟨lnb, lnm, lnt⟩, ⟨sb1, sm1, st1⟩, cb, cm, ct⟩ := nk_early h1
  have kb : Ck b := ⟨shortF_all sb1, cb, lnb⟩
  have km : Ck m := ⟨shortF_all sm1, cm, lnm⟩
  have kt : Ck t := ⟨shortF_all st1, ct, lnt⟩
  refine TK.rg (Y := tab) mixed rfl ?_
  refine RO (Body.move rfl) ?_
  refine RO (Body.call (w36k hj km.2.1 km.1) rfl rfl rfl) ?_
  refine RO (Body.run rfl) ?_
  refine RO (Body.run rfl) ?_
  refine RO (Body.run rfl) ?_
  refine RO (Body.assign rfl) ?_
  refine RO (Body.assign rfl) ?_
  refine RN ?_
  repeat first|refine a1 ?_|refine a2 ?_|refine a3 ?_|refine a4 ?_|refine a5 ?_
  refine NR ⟨[(0, vL eF b), (1, vL eF m), (2, vL eF t), (7, vL eF b), (8, vL eF m), (9, vL eF t), (10, vS (bsO (prtF m))), (11, vI 0)], []⟩ (sb rfl rfl rfl) rfl ?_
  refine RO (Body.move rfl) ?_
  refine RO (Body.call (w37k hp km.2.1 km.1) rfl rfl rfl) ?_
  refine RO (Body.run rfl) ?_
  refine RO (Body.run rfl) ?_
  refine RO (Body.run rfl) ?_
  refine RO (Body.assign rfl) ?_
  refine RO (Body.assign rfl) ?_
  refine RN ?_
  repeat first|refine a1 ?_|refine a2 ?_|refine a3 ?_|refine a4 ?_|refine a5 ?_
  refine NR ⟨[(0, vL eF b), (1, vL eF m), (2, vL eF t), (7, vL eF b), (8, vL eF m), (9, vL eF t), (11, vI 0), (12, vL eF m), (13, vI 0)], []⟩ (sb rfl rfl rfl) rfl ?_
  refine RO (Body.move rfl) ?_
  refine RO (Body.move rfl) ?_
  refine RO (Body.move rfl) ?_
  refine RO (Body.call (w43a kb kt) rfl rfl rfl) ?_
  refine RO (Body.run rfl) ?_
  refine RO (Body.run rfl) ?_
  refine RO (Body.run rfl) ?_
  refine RO (Body.run rfl) ?_
  refine RO (Body.assign rfl) ?_
  refine RO (Body.assign rfl) ?_
  refine RO (Body.assign rfl) ?_
  refine RN ?_
  repeat first|refine a1 ?_|refine a2 ?_|refine a3 ?_|refine a4 ?_|refine a5 ?_
  refine NR ⟨[(0, vL eF b), (1, vL eF m), (2, vL eF t), (7, vL eF b), (8, vL eF m), (9, vL eF t), (11, vI 0), (12, vL eF m), (13, vI 0), (14, vL eF t), (16, vI 0)], []⟩ (sb rfl rfl rfl) rfl ?_
  refine RO (Body.move rfl) ?_
  refine RO (Body.move rfl) ?_
  refine RO (Body.move rfl) ?_
  refine RO (Body.call (w43b kb km) rfl rfl rfl) ?_
  refine RO (Body.run rfl) ?_
  refine RO (Body.run rfl) ?_
  refine RO (Body.run rfl) ?_
  refine RO (Body.run rfl) ?_
  refine RO (Body.assign rfl) ?_
  refine RO (Body.assign rfl) ?_
  refine RO (Body.assign rfl) ?_
  refine RN ?_
  repeat first|refine a1 ?_|refine a2 ?_|refine a3 ?_|refine a4 ?_|refine a5 ?_
  refine NR ⟨[(0, vL eF b), (1, vL eF m), (2, vL eF t), (7, vL eF b), (8, vL eF m), (9, vL eF t), (11, vI 0), (12, vL eF m), (13, vI 0), (14, vL eF t), (16, vI 0), (17, vL eF m), (19, vI 0)], []⟩ (sb rfl rfl rfl) rfl ?_
  refine RO (Body.move rfl) ?_
  refine RO (Body.move rfl) ?_
  refine RO (Body.move rfl) ?_
  refine RO (Body.call (w43c kb km) rfl rfl rfl) ?_
  refine RO (Body.run rfl) ?_
  refine RO (Body.run rfl) ?_
  refine RO (Body.run rfl) ?_
  refine RO (Body.run rfl) ?_
  refine RO (Body.assign rfl) ?_
  refine RO (Body.assign rfl) ?_
  refine RO (Body.assign rfl) ?_
  refine RN ?_
  repeat first|refine a1 ?_|refine a2 ?_|refine a3 ?_|refine a4 ?_|refine a5 ?_
  refine NR ⟨[(0, vL eF b), (1, vL eF m), (2, vL eF t), (7, vL eF b), (8, vL eF m), (9, vL eF t), (11, vI 0), (12, vL eF m), (13, vI 0), (14, vL eF t), (16, vI 0), (17, vL eF m), (19, vI 0), (20, vL eF m), (22, vI 0)], []⟩ (sb rfl rfl rfl) rfl ?_
  refine RO (Body.move rfl) ?_
  refine RO (Body.move rfl) ?_
  refine RO (Body.add rfl rfl (by unfold R64; omega)) ?_
  refine RO (Body.move rfl) ?_
  refine RO (Body.add rfl rfl (by unfold R64; omega)) ?_
  refine RO (Body.move rfl) ?_
  refine RO (Body.add rfl rfl (by unfold R64; omega)) ?_
  refine RO (Body.move rfl) ?_
  refine RO (Body.add rfl rfl (by unfold R64; omega)) ?_
  refine RO (Body.neq rfl rfl) ?_
  refine RO (Body.move rfl) ?_
  refine RG.cons (EfR.sym rfl (fun hc => Body.move rfl) rfl) ?_
  refine RG.cons (EfR.sym rfl (fun hc => Body.call (w34 m (by omega)) rfl (ds1 (ev1_gd rfl hc)) rfl) rfl) ?_
  refine RG.cons (EfR.sym rfl (fun hc => Body.move rfl) rfl) ?_
  refine RG.cons (EfR.sym rfl (fun hc => Body.call (w42 m m (by omega)) rfl (ds2 (ev1_gd rfl hc) (ev1_gd rfl hc)) rfl) rfl) ?_
  refine RG.cons (EfR.sym rfl (fun hc => Body.not (ev1_gd rfl hc)) rfl) ?_
  refine RO (Body.pick rfl rfl rfl rfl (gdB rfl) (pick_or _)) ?_
  refine RO (Body.move rfl) ?_
  refine RG.cons (EfR.sym rfl (fun hc => Body.move rfl) rfl) ?_
  refine RG.cons (EfR.sym rfl (fun hc => Body.call (w34 t (by omega)) rfl (ds1 (ev1_gd rfl hc)) rfl) rfl) ?_
  refine RG.cons (EfR.sym rfl (fun hc => Body.move rfl) rfl) ?_
  refine RG.cons (EfR.sym rfl (fun hc => Body.call (w42 t t (by omega)) rfl (ds2 (ev1_gd rfl hc) (ev1_gd rfl hc)) rfl) rfl) ?_
  refine RG.cons (EfR.sym rfl (fun hc => Body.not (ev1_gd rfl hc)) rfl) ?_
  refine RO (Body.pick rfl rfl rfl rfl (gdB rfl) (pick_or _)) ?_
  refine RO (Body.move rfl) ?_
  refine RG.cons (EfR.sym rfl (fun hc => Body.move rfl) rfl) ?_
  refine RG.cons (EfR.sym rfl (fun hc => Body.call (w34 m (by omega)) rfl (ds1 (ev1_gd rfl hc)) rfl) rfl) ?_
  refine RG.cons (EfR.sym rfl (fun hc => Body.move rfl) rfl) ?_
  refine RG.cons (EfR.sym rfl (fun hc => Body.call (w42 m m (by omega)) rfl (ds2 (ev1_gd rfl hc) (ev1_gd rfl hc)) rfl) rfl) ?_
  refine RG.cons (EfR.sym rfl (fun hc => Body.not (ev1_gd rfl hc)) rfl) ?_
  refine RO (Body.pick rfl rfl rfl rfl (gdB rfl) (pick_or _)) ?_
  refine RO (Body.move rfl) ?_
  refine RG.cons (EfR.sym rfl (fun hc => Body.move rfl) rfl) ?_
  refine RG.cons (EfR.sym rfl (fun hc => Body.call (w34 m (by omega)) rfl (ds1 (ev1_gd rfl hc)) rfl) rfl) ?_
  refine RG.cons (EfR.sym rfl (fun hc => Body.move rfl) rfl) ?_
  refine RG.cons (EfR.sym rfl (fun hc => Body.call (w42 m m (by omega)) rfl (ds2 (ev1_gd rfl hc) (ev1_gd rfl hc)) rfl) rfl) ?_
  refine RG.cons (EfR.sym rfl (fun hc => Body.not (ev1_gd rfl hc)) rfl) ?_
  refine RO (Body.pick rfl rfl rfl rfl (gdB rfl) (pick_or _)) ?_
  refine RN ?_
  repeat first|refine a1 ?_|refine a2 ?_|refine a3 ?_|refine a4 ?_|refine a5 ?_
  refine TK.norm ⟨[(0, vL eF b), (1, vL eF m), (2, vL eF t), (7, vL eF b), (8, vL eF m), (9, vL eF t), (154, vB (bif (bif (bif (bif (decide (((((0 + 0) + 0) + 0) + 0) ≠ 0)) then true else (!(decide (m = m)))) then true else (!(decide (t = t)))) then true else (!(decide (m = m)))) then true else (!(decide (m = m)))))], []⟩ (sb rfl rfl rfl) ?_
  refine TK.cond rfl (fun h2 => ?_) (fun h2 => ?_)
  ·
   repeat first|refine a1 ?_|refine a2 ?_|refine a3 ?_|refine a4 ?_|refine a5 ?_
   refine NR ⟨[], []⟩ (sb rfl rfl rfl) rfl ?_
   refine RO (Body.assign rfl) ?_
   refine RN ?_
   repeat first|refine a1 ?_|refine a2 ?_|refine a3 ?_|refine a4 ?_|refine a5 ?_
   refine TK.ret ?_
   refine PK.ret ?_
   refine leaf (val0 := vB false) (by kernel_rfl) ?_
   exact lb (by first
          | rfl
          | (exfalso; revert h2; simp; done)
          | (exfalso; revert h3; rw [nk_no]; simp; done)
          | (exfalso; revert h5; rw [nk_con hq (getD_mem (by omega))]; simp; done))
  ·
   repeat first|refine a1 ?_|refine a2 ?_|refine a3 ?_|refine a4 ?_|refine a5 ?_
   refine TK.norm ⟨[(0, vL eF b), (1, vL eF m), (2, vL eF t), (7, vL eF b), (8, vL eF m), (9, vL eF t)], []⟩ (sb rfl rfl rfl) ?_
   obtain ⟨q, hq⟩ : ∃ q, q = refM b m t := ⟨_, rfl⟩
   have hqs : q = refM b t m := hq.trans (refM_swap b m t)
   have hml := mgK_lens kb km kt hq
   refine TK.rg (Y := tab) mixed rfl ?_
   refine RO (Body.move rfl) ?_
   refine RO (Body.move rfl) ?_
   refine RO (Body.move rfl) ?_
   refine RO (Body.call (w43k kb km kt hq) rfl rfl rfl) ?_
   refine RO (Body.run rfl) ?_
   refine RO (Body.run rfl) ?_
   refine RO (Body.run rfl) ?_
   refine RO (Body.run rfl) ?_
   refine RO (Body.assign rfl) ?_
   refine RO (Body.assign rfl) ?_
   refine RO (Body.assign rfl) ?_
   refine RN ?_
   repeat first|refine a1 ?_|refine a2 ?_|refine a3 ?_|refine a4 ?_|refine a5 ?_
   refine NR ⟨[(0, vL eF b), (1, vL eF m), (2, vL eF t), (7, vL eF b), (8, vL eF m), (9, vL eF t), (23, vL eF (mgK q).1), (24, vL eN (mgK q).2.1), (25, vI (mgK q).2.2)], []⟩ (sb rfl rfl rfl) rfl ?_
   refine RO (Body.move rfl) ?_
   refine RO (Body.move rfl) ?_
   refine RO (Body.move rfl) ?_
   refine RO (Body.call (w43k kb kt km hqs) rfl rfl rfl) ?_
   refine RO (Body.run rfl) ?_
   refine RO (Body.run rfl) ?_
   refine RO (Body.run rfl) ?_
   refine RO (Body.run rfl) ?_
   refine RO (Body.assign rfl) ?_
   refine RO (Body.assign rfl) ?_
   refine RO (Body.assign rfl) ?_
   refine RN ?_
   repeat first|refine a1 ?_|refine a2 ?_|refine a3 ?_|refine a4 ?_|refine a5 ?_
   refine NR ⟨[(7, vL eF b), (8, vL eF m), (9, vL eF t), (23, vL eF (mgK q).1), (24, vL eN (mgK q).2.1), (25, vI (mgK q).2.2), (26, vL eF (mgK q).1), (27, vL eN (mgK q).2.1), (28, vI (mgK q).2.2)], []⟩ (sb rfl rfl rfl) rfl ?_
   refine RO (Body.move rfl) ?_
   refine RO (Body.move rfl) ?_
   refine RO (Body.neq rfl rfl) ?_
   refine RO (Body.move rfl) ?_
   refine RG.cons (EfR.sym rfl (fun hc => Body.move rfl) rfl) ?_
   refine RG.cons (EfR.sym rfl (fun hc => Body.call (w34 (mgK q).1 (by omega)) rfl (ds1 (ev1_gd rfl hc)) rfl) rfl) ?_
   refine RG.cons (EfR.sym rfl (fun hc => Body.move rfl) rfl) ?_
   refine RG.cons (EfR.sym rfl (fun hc => Body.call (w34 (mgK q).1 (by omega)) rfl (ds1 (ev1_gd rfl hc)) rfl) rfl) ?_
   refine RG.cons (EfR.sym rfl (fun hc => Body.call (w42 (mgK q).1 (mgK q).1 (by omega)) rfl (ds2 (ev1_gd rfl hc) (ev1_gd rfl hc)) rfl) rfl) ?_
   refine RG.cons (EfR.sym rfl (fun hc => Body.not (ev1_gd rfl hc)) rfl) ?_
   refine RO (Body.pick rfl rfl rfl rfl (gdB rfl) (pick_or _)) ?_
   refine RO (Body.move rfl) ?_
   refine RG.cons (EfR.sym rfl (fun hc => Body.move rfl) rfl) ?_
   refine RG.cons (EfR.sym rfl (fun hc => Body.move rfl) rfl) ?_
   refine RG.cons (EfR.sym rfl (fun hc => Body.call (w45 (mgK q).2.1 (mgK q).2.1 (by omega)) rfl (ds2 (ev1_gd rfl hc) (ev1_gd rfl hc)) rfl) rfl) ?_
   refine RG.cons (EfR.sym rfl (fun hc => Body.not (ev1_gd rfl hc)) rfl) ?_
   refine RO (Body.pick rfl rfl rfl rfl (gdB rfl) (pick_or _)) ?_
   refine RO (Body.move rfl) ?_
   refine RG.cons (EfR.sym rfl (fun hc => Body.move rfl) rfl) ?_
   refine RG.cons (EfR.sym rfl (fun hc => Body.eql (ev1_gd rfl hc) rfl) rfl) ?_
   refine RG.cons (EfR.sym rfl (fun hc => Body.move rfl) rfl) ?_
   refine RG.cons (EfR.sym rfl (fun hc => Body.lenL (ev1_gd rfl hc) un73) rfl) ?_
   refine RG.cons (EfR.sym rfl (fun hc => Body.gtr (ev1_gd rfl hc) rfl) rfl) ?_
   refine RG.cons (EfR.sym rfl (fun hc => Body.bnB (ev1_gd rfl hc) (ev1_gd rfl hc) un4) rfl) ?_
   refine RO (Body.pick rfl rfl rfl rfl (gdB rfl) (pick_or _)) ?_
   refine RO (Body.move rfl) ?_
   refine RG.cons (EfR.sym rfl (fun hc => Body.move rfl) rfl) ?_
   refine RG.cons (EfR.sym rfl (fun hc => Body.neq (ev1_gd rfl hc) rfl) rfl) ?_
   refine RG.cons (EfR.sym rfl (fun hc => Body.move (ev1_gd rfl hc)) rfl) ?_
   refine RG.cons (EfR.sym rfl (fun hc => Body.move rfl) rfl) ?_
   refine RG.cons (EfR.sym rfl (fun hc => Body.neq (ev1_gd rfl hc) rfl) rfl) ?_
   refine RG.cons (EfR.sym rfl (fun hc => Body.pick (ev1_gd rfl hc) rfl rfl (gdB rfl) rfl (pick_and2 hc)) rfl) ?_
   refine RO (Body.pick rfl rfl rfl rfl (gdB rfl) (pick_or _)) ?_
   refine RN ?_
   repeat first|refine a1 ?_|refine a2 ?_|refine a3 ?_|refine a4 ?_|refine a5 ?_
   refine TK.norm ⟨[(7, vL eF b), (8, vL eF m), (9, vL eF t), (24, vL eN (mgK q).2.1), (203, vB (bif (bif (bif (bif (decide ((mgK q).2.2 ≠ (mgK q).2.2)) then true else (!(decide ((mgK q).1 = (mgK q).1)))) then true else (!(decide ((mgK q).2.1 = (mgK q).2.1)))) then true else (!((decide ((mgK q).2.2 = 29)) == (decide (0 < ((List.length (mgK q).2.1 : Nat) : Int)))))) then true else (bif (decide ((mgK q).2.2 ≠ 0)) then (decide ((mgK q).2.2 ≠ 29)) else false)))], []⟩ (sb rfl rfl rfl) ?_
   refine TK.cond rfl (fun h3 => ?_) (fun h3 => ?_)
   ·
    repeat first|refine a1 ?_|refine a2 ?_|refine a3 ?_|refine a4 ?_|refine a5 ?_
    refine NR ⟨[], []⟩ (sb rfl rfl rfl) rfl ?_
    refine RO (Body.assign rfl) ?_
    refine RN ?_
    repeat first|refine a1 ?_|refine a2 ?_|refine a3 ?_|refine a4 ?_|refine a5 ?_
    refine TK.ret ?_
    refine PK.ret ?_
    refine leaf (val0 := vB false) (by kernel_rfl) ?_
    exact lb (by first
          | rfl
          | (exfalso; revert h2; simp; done)
          | (exfalso; revert h3; rw [nk_no]; simp; done)
          | (exfalso; revert h5; rw [nk_con hq (getD_mem (by omega))]; simp; done))
   ·
    repeat first|refine a1 ?_|refine a2 ?_|refine a3 ?_|refine a4 ?_|refine a5 ?_
    refine NR ⟨[(7, vL eF b), (8, vL eF m), (9, vL eF t), (24, vL eN (mgK q).2.1)], []⟩ (sb rfl rfl rfl) rfl ?_
    refine RO (Body.move rfl) ?_
    refine RO (Body.lenL rfl un73) ?_
    refine RO (Body.move rfl) ?_
    refine RN ?_
    repeat first|refine a1 ?_|refine a2 ?_|refine a3 ?_|refine a4 ?_|refine a5 ?_
    refine TK.loop (α := Nat) (fun x => ⟨[(7, vL eF b), (8, vL eF m), (9, vL eF t), (204, vL eN (mgK q).2.1), (205, vI ((List.length (mgK q).2.1 : Nat) : Int)), (206, vI ((x : Nat) : Int))], []⟩) (fun x => x ≤ List.length (mgK q).2.1) (fun x => List.length (mgK q).2.1 - x) 0 ?_ (sb rfl rfl rfl) ?_
    · show 0 ≤ List.length (mgK q).2.1
      exact Nat.zero_le _
    rintro k hI0
    replace hI0 : k ≤ List.length (mgK q).2.1 := hI0
    show TK _ _ _ _ _ _ ⟨[(7, vL eF b), (8, vL eF m), (9, vL eF t), (204, vL eN (mgK q).2.1), (205, vI ((List.length (mgK q).2.1 : Nat) : Int)), (206, vI ((k : Nat) : Int))], []⟩
    repeat first|refine a1 ?_|refine a2 ?_|refine a3 ?_|refine a4 ?_|refine a5 ?_
    refine NR ⟨[(7, vL eF b), (8, vL eF m), (9, vL eF t), (204, vL eN (mgK q).2.1), (205, vI ((List.length (mgK q).2.1 : Nat) : Int)), (206, vI ((k : Nat) : Int))], []⟩ (sb rfl rfl rfl) rfl ?_
    refine RO (Body.lss rfl rfl) ?_
    refine RN ?_
    repeat first|refine a1 ?_|refine a2 ?_|refine a3 ?_|refine a4 ?_|refine a5 ?_
    refine TK.norm ⟨[(7, vL eF b), (8, vL eF m), (9, vL eF t), (204, vL eN (mgK q).2.1), (205, vI ((List.length (mgK q).2.1 : Nat) : Int)), (206, vI ((k : Nat) : Int)), (207, vB (decide (((k : Nat) : Int) < ((List.length (mgK q).2.1 : Nat) : Int))))], []⟩ (sb rfl rfl rfl) ?_
    refine TK.condP rfl (fun h4 => ?_) (fun h4 => ?_)
    ·
     repeat first|refine a1 ?_|refine a2 ?_|refine a3 ?_|refine a4 ?_|refine a5 ?_
     refine NR ⟨[(7, vL eF b), (8, vL eF m), (9, vL eF t), (204, vL eN (mgK q).2.1), (205, vI ((List.length (mgK q).2.1 : Nat) : Int)), (206, vI ((k : Nat) : Int))], []⟩ (sb rfl rfl rfl) rfl ?_
     refine RO (Body.idx (z := []) (i := k) rfl rfl un73 sz9 (fun _ => rfl) rfl (by omega)) ?_
     refine RO (Body.loadP rfl ag9 sz9) ?_
     refine RO (Body.assign rfl) ?_
     refine RN ?_
     repeat first|refine a1 ?_|refine a2 ?_|refine a3 ?_|refine a4 ?_|refine a5 ?_
     refine NR ⟨[(7, vL eF b), (8, vL eF m), (9, vL eF t), (30, vS (bsO (List.getD (mgK q).2.1 k []))), (204, vL eN (mgK q).2.1), (205, vI ((List.length (mgK q).2.1 : Nat) : Int)), (206, vI ((k : Nat) : Int))], []⟩ (sb rfl rfl rfl) rfl ?_
     refine RO (Body.move rfl) ?_
     refine RO (Body.move rfl) ?_
     refine RO (Body.call (w53 b (List.getD (mgK q).2.1 k []) (by omega)) rfl rfl rfl) ?_
     refine RO (Body.run rfl) ?_
     refine RO (Body.run rfl) ?_
     refine RO (Body.run rfl) ?_
     refine RO (Body.assign rfl) ?_
     refine RO (Body.assign rfl) ?_
     refine RN ?_
     repeat first|refine a1 ?_|refine a2 ?_|refine a3 ?_|refine a4 ?_|refine a5 ?_
     refine NR ⟨[(7, vL eF b), (8, vL eF m), (9, vL eF t), (30, vS (bsO (List.getD (mgK q).2.1 k []))), (31, vS (bsO (Option.getD (getF (List.getD (mgK q).2.1 k []) b) []))), (32, vB (Option.isSome (getF (List.getD (mgK q).2.1 k []) b))), (204, vL eN (mgK q).2.1), (205, vI ((List.length (mgK q).2.1 : Nat) : Int)), (206, vI ((k : Nat) : Int))], []⟩ (sb rfl rfl rfl) rfl ?_
     refine RO (Body.move rfl) ?_
     refine RO (Body.move rfl) ?_
     refine RO (Body.call (w53 m (List.getD (mgK q).2.1 k []) (by omega)) rfl rfl rfl) ?_
     refine RO (Body.run rfl) ?_
     refine RO (Body.run rfl) ?_
     refine RO (Body.run rfl) ?_
     refine RO (Body.assign rfl) ?_
     refine RO (Body.assign rfl) ?_
     refine RN ?_
     repeat first|refine a1 ?_|refine a2 ?_|refine a3 ?_|refine a4 ?_|refine a5 ?_
     refine NR ⟨[(7, vL eF b), (8, vL eF m), (9, vL eF t), (30, vS (bsO (List.getD (mgK q).2.1 k []))), (31, vS (bsO (Option.getD (getF (List.getD (mgK q).2.1 k []) b) []))), (32, vB (Option.isSome (getF (List.getD (mgK q).2.1 k []) b))), (33, vS (bsO (Option.getD (getF (List.getD (mgK q).2.1 k []) m) []))), (34, vB (Option.isSome (getF (List.getD (mgK q).2.1 k []) m))), (204, vL eN (mgK q).2.1), (205, vI ((List.length (mgK q).2.1 : Nat) : Int)), (206, vI ((k : Nat) : Int))], []⟩ (sb rfl rfl rfl) rfl ?_
     refine RO (Body.move rfl) ?_
     refine RO (Body.move rfl) ?_
     refine RO (Body.call (w53 t (List.getD (mgK q).2.1 k []) (by omega)) rfl rfl rfl) ?_
     refine RO (Body.run rfl) ?_
     refine RO (Body.run rfl) ?_
     refine RO (Body.run rfl) ?_
     refine RO (Body.assign rfl) ?_
     refine RO (Body.assign rfl) ?_
     refine RN ?_
     repeat first|refine a1 ?_|refine a2 ?_|refine a3 ?_|refine a4 ?_|refine a5 ?_
     refine NR ⟨[(7, vL eF b), (8, vL eF m), (9, vL eF t), (31, vS (bsO (Option.getD (getF (List.getD (mgK q).2.1 k []) b) []))), (32, vB (Option.isSome (getF (List.getD (mgK q).2.1 k []) b))), (33, vS (bsO (Option.getD (getF (List.getD (mgK q).2.1 k []) m) []))), (34, vB (Option.isSome (getF (List.getD (mgK q).2.1 k []) m))), (35, vS (bsO (Option.getD (getF (List.getD (mgK q).2.1 k []) t) []))), (36, vB (Option.isSome (getF (List.getD (mgK q).2.1 k []) t))), (204, vL eN (mgK q).2.1), (205, vI ((List.length (mgK q).2.1 : Nat) : Int)), (206, vI ((k : Nat) : Int))], []⟩ (sb rfl rfl rfl) rfl ?_
     refine RO (Body.move rfl) ?_
     refine RO (Body.move rfl) ?_
     refine RO (Body.seqB (a := (Option.getD (getF (List.getD (mgK q).2.1 k []) m) [])) (b := (Option.getD (getF (List.getD (mgK q).2.1 k []) b) [])) rfl rfl) ?_
     refine RO (Body.move rfl) ?_
     refine RG.cons (EfR.sym rfl (fun hc => Body.move rfl) rfl) ?_
     refine RG.cons (EfR.sym rfl (fun hc => Body.move rfl) rfl) ?_
     refine RG.cons (EfR.sym rfl (fun hc => Body.bqB (ev1_gd rfl hc) (ev1_gd rfl hc) un4) rfl) ?_
     refine RO (Body.pick rfl rfl rfl (gdB rfl) rfl (pick_and _)) ?_
     refine RO (Body.move rfl) ?_
     refine RG.cons (EfR.sym rfl (fun hc => Body.move rfl) rfl) ?_
     refine RG.cons (EfR.sym rfl (fun hc => Body.move rfl) rfl) ?_
     refine RG.cons (EfR.sym rfl (fun hc => Body.seqB (a := (Option.getD (getF (List.getD (mgK q).2.1 k []) t) [])) (b := (Option.getD (getF (List.getD (mgK q).2.1 k []) b) [])) (ev1_gd rfl hc) (ev1_gd rfl hc)) rfl) ?_
     refine RG.cons (EfR.sym rfl (fun hc => Body.move (ev1_gd rfl hc)) rfl) ?_
     refine RG.cons (EfR.sym rfl (fun hc => Body.move rfl) rfl) ?_
     refine RG.cons (EfR.sym rfl (fun hc => Body.move rfl) rfl) ?_
     refine RG.cons (EfR.sym rfl (fun hc => Body.bqB (ev1_gd rfl hc) (ev1_gd rfl hc) un4) rfl) ?_
     refine RG.cons (EfR.sym rfl (fun hc => Body.pick (ev1_gd rfl hc) rfl rfl (gdB rfl) rfl (pick_and2 hc)) rfl) ?_
     refine RO (Body.pick rfl rfl rfl rfl (gdB rfl) (pick_or _)) ?_
     refine RN ?_
     repeat first|refine a1 ?_|refine a2 ?_|refine a3 ?_|refine a4 ?_|refine a5 ?_
     refine TK.norm ⟨[(7, vL eF b), (8, vL eF m), (9, vL eF t), (204, vL eN (mgK q).2.1), (205, vI ((List.length (mgK q).2.1 : Nat) : Int)), (206, vI ((k : Nat) : Int)), (245, vB (bif (bif (decide ((Option.getD (getF (List.getD (mgK q).2.1 k []) m) []) = (Option.getD (getF (List.getD (mgK q).2.1 k []) b) []))) then ((Option.isSome (getF (List.getD (mgK q).2.1 k []) m)) == (Option.isSome (getF (List.getD (mgK q).2.1 k []) b))) else false) then true else (bif (decide ((Option.getD (getF (List.getD (mgK q).2.1 k []) t) []) = (Option.getD (getF (List.getD (mgK q).2.1 k []) b) []))) then ((Option.isSome (getF (List.getD (mgK q).2.1 k []) t)) == (Option.isSome (getF (List.getD (mgK q).2.1 k []) b))) else false)))], []⟩ (sb rfl rfl rfl) ?_
     refine TK.cond rfl (fun h5 => ?_) (fun h5 => ?_)
     ·
      repeat first|refine a1 ?_|refine a2 ?_|refine a3 ?_|refine a4 ?_|refine a5 ?_
      refine NR ⟨[], []⟩ (sb rfl rfl rfl) rfl ?_
      refine RO (Body.assign rfl) ?_
      refine RN ?_
      repeat first|refine a1 ?_|refine a2 ?_|refine a3 ?_|refine a4 ?_|refine a5 ?_
      refine TK.ret ?_
      refine PK.ret ?_
      refine leaf (val0 := vB false) (by kernel_rfl) ?_
      exact lb (by first
          | rfl
          | (exfalso; revert h2; simp; done)
          | (exfalso; revert h3; rw [nk_no]; simp; done)
          | (exfalso; revert h5; rw [nk_con hq (getD_mem (by omega))]; simp; done))
     ·
      repeat first|refine a1 ?_|refine a2 ?_|refine a3 ?_|refine a4 ?_|refine a5 ?_
      refine NR ⟨[(7, vL eF b), (8, vL eF m), (9, vL eF t), (204, vL eN (mgK q).2.1), (205, vI ((List.length (mgK q).2.1 : Nat) : Int)), (206, vI ((k : Nat) : Int))], []⟩ (sb rfl rfl rfl) rfl ?_
      refine RO (Body.add rfl rfl (by unfold R64; omega)) ?_
      refine RO (Body.move rfl) ?_
      refine RN ?_
      repeat first|refine a1 ?_|refine a2 ?_|refine a3 ?_|refine a4 ?_|refine a5 ?_
      refine PK.lp ?_
      refine LP.mk (k + 1) ?_ ?_ (sb rfl rfl rfl)
      · show (k + 1) ≤ List.length (mgK q).2.1
        omega
      · show List.length (mgK q).2.1 - (k + 1) < List.length (mgK q).2.1 - k
        omega
    ·
     repeat first|refine a1 ?_|refine a2 ?_|refine a3 ?_|refine a4 ?_|refine a5 ?_
     refine TK.exit ?_
     refine PK.exit rfl ?_
     repeat first|refine a1 ?_|refine a2 ?_|refine a3 ?_|refine a4 ?_|refine a5 ?_
     refine NR ⟨[], []⟩ (sb rfl rfl rfl) rfl ?_
     refine RO (Body.call (ha) rfl rfl rfl) ?_
     refine RO (Body.assign rfl) ?_
     refine RN ?_
     repeat first|refine a1 ?_|refine a2 ?_|refine a3 ?_|refine a4 ?_|refine a5 ?_
     refine TK.ret ?_
     refine PK.ret ?_
     refine leaf (val0 := vB true) (by kernel_rfl) ?_
     exact rfl
end Go.Lens.Tm
end
section
namespace Go.Proofs
open Go.Shelf
def Tryz.lays156_ren : Go.Shelf.Ren := ⟨fun | 156 => 169 | 165 => 242 | 166 => 157 | 169 => 158 | 240 => 218 | 241 => 284 | 276 => 281 | 277 => 308 | n => n, fun | 31 => 73 | 9 => 9 | 3 => 3 | 4 => 4 | 0 => 0 | 20 => 20 | 72 => 271 | 76 => 274 | 70 => 269 | 37 => 150 | 75 => 273 | 127 => 333 | 164 => 371 | 5 => 5 | 80 => 145 | n => n, fun | n => n⟩
theorem Tryz.lays156 : Go.Proofs.Lays.n156 Tryz.prog Tryz.lays156_ren := {
  mixed := by kernel_rfl
  f156 := Tryz.func169.trans (congrArg some (by kernel_rfl))
  f165 := Tryz.func242.trans (congrArg some (by kernel_rfl))
  f166 := Tryz.func157.trans (congrArg some (by kernel_rfl))
  f169 := Tryz.func158.trans (congrArg some (by kernel_rfl))
  f240 := Tryz.func218.trans (congrArg some (by kernel_rfl))
  f241 := Tryz.func284.trans (congrArg some (by kernel_rfl))
  f276 := Tryz.func281.trans (congrArg some (by kernel_rfl))
  f277 := Tryz.func308.trans (congrArg some (by kernel_rfl))
  t0 := Tryz.underlying0
  a0 := Tryz.isAgg0
  z0 := Tryz.sizeOf0
  v0 := Tryz.zeroValue0
  t3 := Tryz.underlying3
  a3 := Tryz.isAgg3
  z3 := Tryz.sizeOf3
  v3 := Tryz.zeroValue3
  t4 := Tryz.underlying4
  a4 := Tryz.isAgg4
  z4 := Tryz.sizeOf4
  v4 := Tryz.zeroValue4
  t9 := Tryz.underlying9
  a9 := Tryz.isAgg9
  z9 := Tryz.sizeOf9
  v9 := Tryz.zeroValue9
  t20 := Tryz.underlying20
  a20 := Tryz.isAgg20
  z20 := Tryz.sizeOf20
  v20 := Tryz.zeroValue20
  t31 := Tryz.underlying73
  a31 := Tryz.isAgg73
  z31 := Tryz.sizeOf73
  v31 := Tryz.zeroValue73
  t37 := Tryz.underlying150
  a37 := Tryz.isAgg150
  z37 := Tryz.sizeOf150
  v37 := Tryz.zeroValue150
  t70 := Tryz.underlying269
  a70 := Tryz.isAgg269
  z70 := Tryz.sizeOf269
  v70 := Tryz.zeroValue269
  t72 := Tryz.underlying271
  a72 := Tryz.isAgg271
  z72 := Tryz.sizeOf271
  v72 := Tryz.zeroValue271
  t75 := Tryz.underlying273
  a75 := Tryz.isAgg273
  z75 := Tryz.sizeOf273
  v75 := Tryz.zeroValue273
  t76 := Tryz.underlying274
  a76 := Tryz.isAgg274
  z76 := Tryz.sizeOf274
  v76 := Tryz.zeroValue274
  t127 := Tryz.underlying333
  a127 := Tryz.isAgg333
  z127 := Tryz.sizeOf333
  v127 := Tryz.zeroValue333
  t164 := Tryz.underlying371
  a164 := Tryz.isAgg371
  z164 := Tryz.sizeOf371
  v164 := Tryz.zeroValue371 }
theorem Tryz.Builder_Extra_156 : Builder.Extra Tryz.prog Tryz.lays156_ren := {
  sizeBuilder := by kernel_rfl
  liesBuilder := by kernel_rfl
  t5 := Tryz.underlying5
  a5 := Tryz.isAgg5
  z5 := Tryz.sizeOf5
  v5 := Tryz.zeroValue5
  infoByte := by kernel_rfl
  cellsByte := by kernel_rfl
  sizeByte := by kernel_rfl
  neB5 := by decide }
open Go.RowKit in
theorem Tryz.strings_Join_none (a : Option Addr) (c : Nat) (sep : ByteArray) (w : World) :
    Calls Tryz.prog 169 #[.slice a 0 c, .string sep] w fun e w' => e = .returned (.string ⟨#[]⟩) ∧ w' = w := Any.strings_Join_none Tryz.lays156 Tryz.Builder_Extra_156 a c sep w
open Go.RowKit in
theorem Tryz.strings_Join (bk o c : Nat) (xs : List ByteArray) (sep : ByteArray) (w : World) (hcells : ∀ (j : Nat) x, xs[j]? = some x → w.cell? ⟨bk, o + j, none⟩ = some (.string x)) (hbk : bk < w.heap.size) (hN : xs.length ≤ 140737488355328) (hcap : xs.length ≤ c) (hlen : (Lib.join (xs.map (·.data.toList)) sep.data.toList).length ≤ 140737488355328) :
    Calls Tryz.prog 169 #[.slice (some ⟨bk, o, none⟩) xs.length c, .string sep] w fun e w' => e = .returned (.string ⟨(Lib.join (xs.map (·.data.toList)) sep.data.toList).toArray⟩) ∧ Below w.heap.size w w' := Any.strings_Join Tryz.lays156 Tryz.Builder_Extra_156 bk o c xs sep w hcells hbk hN hcap hlen
end Go.Proofs
end
section
namespace Go.Lens.Tm
open Go.Lens.Tb Go.Proofs Go.RowKit
set_option linter.unusedSectionVars false
variable [Lz]
theorem elems_cells {R : Rd} {b esz : Nat} : ∀ (l : List (List UInt8)) (off : Nat), RelElems R (l.map eN) b off esz → ∀ (j : Nat) (x : List UInt8), l[j]? = some x → R.cell b (off + j) = some (.string (bsO x))
 | [], _, _, j, x, h => by simp at h
 | a :: l, off, H, j, x, h => by
  simp only [List.map_cons, RelElems] at H
  obtain ⟨h1, h2, h3⟩ := H
  have e1 : esz = 1 := h1.symm
  subst e1
  cases j with
  | zero =>
   have hx : a = x := by simpa using h
   subst hx
   simp only [eN, RelCells, RelPV] at h2
   obtain ⟨⟨v, k1, _, k2, _⟩, _⟩ := h2
   rw [Nat.add_zero, k1, k2]
  | succ j =>
   have := elems_cells l (off + 1) h3 j x (by simpa using h)
   rwa [show off + (j + 1) = off + 1 + j by omega]
theorem join_lib : ∀ ws : List (List UInt8), Lib.join ws [32] = joinF ws
 | [] => rfl
 | w :: r => by
  rw [Lib.join_cons]
  simp only [Lib.joinTail, joinF, List.flatMap]
  rfl
theorem join_len (ws : List (List UInt8)) (N : Nat) (h : ∀ w ∈ ws, w.length ≤ N) : (joinF ws).length ≤ ws.length * (N + 1) := by
 cases ws with
 | nil => simp [joinF]
 | cons w r =>
  have key : ∀ r : List (List UInt8), (∀ w ∈ r, w.length ≤ N) → (r.flatMap fun x => 32 :: x).length ≤ r.length * (N + 1) := by
   intro r
   induction r with
   | nil => intro _; simp
   | cons a r ih =>
    intro hr
    have h1 := ih fun w hw => hr w (by simp [hw])
    have h2 := hr a (by simp)
    simp only [List.flatMap_cons, List.length_append, List.length_cons, Nat.add_mul, Nat.one_mul]
    omega
  have h1 := key r fun w hw => h w (by simp [hw])
  have h2 := h w (by simp)
  simp only [joinF, List.length_append, List.length_cons, Nat.add_mul, Nat.one_mul]
  omega
theorem join_ok : JoinOk := by
 intro ws hn hw
 refine ⟨fun k hk => ?_, fun G w vs M hv => .inl ?_⟩
 ·simp [DV.refsL, DV.refs] at hk
 obtain ⟨v, v2, rfl, h1, h2⟩ := hv.two
 have e2 := (RelDV_lit_eq h2).1
 subst e2
 simp only [RelDV, RelPV] at h1
 obtain ⟨a, cap, rfl, hcap, hes⟩ := h1
 refine ⟨Tryz.call169 _ _, ?_⟩
 have fin : ∀ w' : World, Below w.heap.size w w' → ∃ G', Stepped G w (lookM []) (vS (bsO (joinF ws))) [] G' w' (.string (bsO (joinF ws))) := fun w' hB =>
  ⟨G, stepped_grow M.ctx hB.os hB.tape hB.output hB.size (fun k hk => hB.block k hk) (RelDV_lit rfl) (by simp [DV.refs])⟩
 by_cases h0 : ws = []
 ·subst h0
  refine Calls.mono (Tryz.strings_Join_none a cap (bsO [32]) w) ?_
  rintro e w' ⟨he, hw'⟩
  exact ⟨_, he, fin w' (hw' ▸ Below.refl _ _)⟩
 ·rcases hes with hes | ⟨b, off, esz, rfl, hel⟩
  ·exact absurd (List.map_eq_nil_iff.1 hes) h0
  have hcell : ∀ (j : Nat) (x : ByteArray), (ws.map bsO)[j]? = some x → w.cell? ⟨b, off + j, none⟩ = some (.string x) := by
   intro j x hj
   rw [List.getElem?_map] at hj
   obtain ⟨y, hy, rfl⟩ := Option.map_eq_some_iff.1 hj
   exact M.readable.1 _ _ _ (elems_cells ws off hel j y hy)
  have hd : (ws.map bsO).map (·.data.toList) = ws := by
   rw [List.map_map]
   conv => rhs; rw [← List.map_id ws]
   rfl
  have hbk : b < w.heap.size := by
   obtain ⟨y, r, rfl⟩ := List.exists_cons_of_ne_nil h0
   have := hcell 0 (bsO y) rfl
   unfold World.cell? at this
   rcases Nat.lt_or_ge b w.heap.size with h | h
   ·exact h
   ·have hnone : w.heap[b]? = none := Array.getElem?_eq_none h
    simp [hnone] at this
  have hjl := join_len ws 1000 hw
  have hc := Tryz.strings_Join b off cap (ws.map bsO) (bsO [32]) w hcell hbk (by rw [List.length_map]; omega) (by rw [List.length_map] at hcap ⊢; exact hcap) (by
   rw [hd]
   have : Lib.join ws (bsO [32]).data.toList = joinF ws := join_lib ws
   rw [this]
   have : ws.length * (1000 + 1) ≤ 1000 * (1000 + 1) := Nat.mul_le_mul_right _ hn
   omega)
  rw [hd] at hc
  have hj : Lib.join ws (bsO [32]).data.toList = joinF ws := join_lib ws
  rw [hj, List.length_map] at hc
  rw [List.length_map]
  refine Calls.mono hc ?_
  rintro e w' ⟨he, hB⟩
  exact ⟨_, he, fin w' hB⟩
end Go.Lens.Tm
end
section
namespace Go.Lens.Tb
open Go.Proofs Go.Proofs.YtomghboflcafbaaGreatDoor Go.RowKit Go.ChangeShapes
set_option linter.unusedSectionVars false
set_option maxRecDepth 100000
theorem gPow : Tryz.prog.globalNamed "internal/strconv.uint64pow10" = some 3 := by kernel_rfl
theorem tPow : (Tryz.prog.globals[3]?).map (·.type) = some 434 := by kernel_rfl
theorem plainLaid : (Rows.nightKeepsRow.laid.all fun x => x.2.handleName?.isNone) = true := by kernel_rfl
theorem powDatum : (Rows.laid_internal_strconv_uint64pow10 : DataW Unit) = Lib.tabData .u64 Lib.pow10Tab := by kernel_rfl
theorem pow_of {W : World} (h : laidMetH Tryz.prog Rows.nightKeepsRow.laid W) : ∃ T fr, W.heap[3]? = some (.cells (Lib.pow10Tab.map fun z => Value.int .u64 z).toArray T fr) := by
  rw [MakeChecks.laidMetH_plain _ _ _ plainLaid] at h
  obtain ⟨ps, ⟨g0, t0, cs0, f0, p0, q0, _, _, _, _, ⟨g1, t1, cs1, f1, p1, q1, _, _, _, _, ⟨g2, t2, cs2, f2, p2, q2, hg, ht, hv, hd, _, _⟩, _⟩, _⟩, _, _⟩ := h
  obtain rfl := Option.some.inj (gPow.symm.trans hg)
  obtain rfl := Option.some.inj (tPow.symm.trans ht)
  have hd' : DataW.trod (fun _ => ()) Tryz.prog W 0 (fun _ => true) false f2 434 cs2.toList = some (Rows.laid_internal_strconv_uint64pow10, p2) := hd
  rw [powDatum] at hd'
  have hc := Lib.cells_of_tab Tryz.underlying434 Tryz.underlying406 (by kernel_rfl) (by kernel_rfl) hd'
  have hv' : (Tryz.prog.globalNamed "internal/strconv.uint64pow10").bind (fun g => match W.heap[g]? with | some (.cells cs _ _) => some cs | _ => none) = some cs2 := hv
  rw [gPow] at hv'
  simp only [Option.bind_some] at hv'
  split at hv'
  · rename_i cs T fr hb
    cases hv'
    refine ⟨T, fr, ?_⟩
    rw [hb, ← hc, Array.toArray_toList]
  · cases hv'
@[reducible] def lzOf (W : World) : Lz := ⟨fun b => if b = 3 then W.heap[3]? else none⟩
theorem lzOf_laid (W : World) : ∀ b o, (lzOf W).L b = some o → W.heap[b]? = some o := by
  intro b o h
  change (if b = 3 then W.heap[3]? else none) = some o at h
  split at h
  · rename_i e; subst e; exact h
  · cases h
theorem powLaid_of {W : World} (h : laidMetH Tryz.prog Rows.nightKeepsRow.laid W) : @PowLaid (lzOf W) := by
  obtain ⟨T, fr, hb⟩ := pow_of h
  exact ⟨3, T, fr, gPow, hb⟩
theorem bs_back (s : ByteArray) : bsO s.data.toList = s := rfl
section
variable {H : Type} {enc : TypeId × Value → H} {w : World} {base : Nat} {spare : Nat → Bool} {held : Bool}
theorem read_fld {n : Nat} {c : List Value} {y : DataW H × List MemPlace} (h : DataW.trod enc Tryz.prog w base spare held n 174 c = some y) :
    ∃ f : Fld, c = [.string (bsO f.1), .string (bsO f.2)] := by
  obtain ⟨xs, m, rfl, rfl, hl, hx, hf⟩ := DataW.trod_struct Tryz.underlying174 h
  have hl2 : c.length = 2 := hl.trans (by kernel_rfl)
  have hx2 : xs.length = 2 := hx
  match c, hl2, xs, hx2, hf with
  | [c0, c1], _, [x0, x1], _, hf =>
    have f0 := hf 0 _ rfl
    have f1 := hf 1 _ rfl
    obtain ⟨s, e0, _⟩ := DataW.trod_string Tryz.underlying9 f0
    obtain ⟨s2, e1, _⟩ := DataW.trod_string Tryz.underlying9 f1
    cases e0; cases e1
    exact ⟨(s.data.toList, s2.data.toList), rfl⟩
theorem read_flds {fuel : Nat} {cs : List Value} {x : DataW H × List MemPlace} (h : DataW.trod enc Tryz.prog w base spare held fuel 59 cs = some x) :
    ∃ (l : List Fld) (v : Value), cs = [v] ∧ RelPV (gh0.rd w) (.slice (l.map Go.Lens.Tm.eF)) v ∧ ((l = [] ∧ x.1 = .nil) ∨ ∃ es rest, x.1 = .slice es rest ∧ es.length = l.length) :=
  read_slice (encE := Go.Lens.Tm.eF) (vals := fun f : Fld => [.string (bsO f.1), .string (bsO f.2)]) Tryz.underlying59 (show Tryz.prog.cellsOf 174 = 2 by kernel_rfl) (by omega)
    (fun n c y hy => read_fld hy) (fun _ => rfl) (fun _ => rfl)
    (fun a b off hc => relCells_lits (vs := [.string (bsO a.1), .string (bsO a.2)]) (by simp [isLit]) hc) h
end
end Go.Lens.Tb
end
