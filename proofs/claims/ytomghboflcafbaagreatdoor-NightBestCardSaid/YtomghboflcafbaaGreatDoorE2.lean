/- A part of the proof that NightBestCardSaid holds, without conditions. -/
import Derived.Test.YtomghboflcafbaaGreatDoorE1
import Derived.Test.YtomghboflcafbaaGreatDoorS4
import Derived.Test.YtomghboflcafbaaGreatDoorS10
import Derived.Test.YtomghboflcafbaaGreatDoorRows
import Derived.MakeChecks
import Derived.Lib.LaidTab
import Derived.LaidLaws
import Derived.Stop.Joined
import Derived.RowKit
set_option linter.unusedVariables false
set_option linter.unusedSimpArgs false
section
namespace Go.Lens.Tb
open Go.Proofs
set_option linter.unusedSectionVars false
theorem chkGo_take : ∀ {l pre : List Tgt} (k : Nat), chkGo pre l = 0 → chkGo pre (l.take k) = 0
 | _, pre, 0, _ => by simp [chkGo]
 | [], pre, _ + 1, _ => by simp [chkGo]
 | a :: l, pre, k + 1, h => by
  simp only [chkGo] at h
  split at h
  ·rename_i h0
   simp only [List.take_succ_cons, chkGo, if_pos h0]
   exact chkGo_take k h
  ·rename_i h0; exact absurd h h0
theorem chkTgts_take {l : List Tgt} (k : Nat) (h : chkTgtsF l = 0) : chkTgtsF (l.take k) = 0 := by
 have h1 := (chkTgts_zero h).1
 unfold chkTgtsF at h ⊢
 rw [decide_eq_false (by omega)] at h
 rw [decide_eq_false (by rw [List.length_take]; omega)]
 exact chkGo_take k h
theorem badP_zero {S : Int} {W : List Int} {l : List Tgt} (h1 : chkNightF S W = 0) (h2 : chkTgtsF l = 0) (h3 : l.length ≤ 8) : badP S W l = 0 := by
 unfold badP
 simp only [firstF, h1, h2, if_true]
 rw [decide_eq_false (by omega)]; rfl
theorem tlGo_congr {W : List Int} {l m : List Tgt} : ∀ {o : List Int} {prev : Option Tgt} {a : Int}, (∀ i ∈ o, l.getD i.toNat default = m.getD i.toNat default) → tlGo W l prev a o = tlGo W m prev a o
 | [], prev, a, _ => by cases prev <;> rfl
 | j :: o, prev, a, h => by
  rw [tlGo_cons, tlGo_cons, h j (by simp), tlGo_congr (o := o) fun i hi => h i (by simp [hi])]
theorem bright_congr {l m : List Tgt} : ∀ {o : List Int}, (∀ i ∈ o, l.getD i.toNat default = m.getD i.toNat default) → brightS l o = brightS m o
 | [], _ => rfl
 | j :: o, h => by simp only [brightS]; rw [h j (by simp), bright_congr (o := o) fun i hi => h i (by simp [hi])]
theorem plan_less {S : Int} {W : List Int} {l : List Tgt} (k : Nat) : (planC S W (l.take k)).bright ≤ (planC S W l).bright := by
 obtain ⟨hg, r, hr, hb, _⟩ := plan_wf (S := S) (W := W) (l := l.take k)
 have hlen : (l.take k).length ≤ l.length := by rw [List.length_take]; omega
 have hc : ∀ i ∈ (planC S W (l.take k)).order, (l.take k).getD i.toNat default = l.getD i.toNat default := fun i hi => by
  have := hg.2 i hi
  exact take_getD (by rw [List.length_take] at this; omega)
 have hg2 : gdO l (planC S W (l.take k)).order := ⟨hg.1, fun i hi => by have := hg.2 i hi; omega⟩
 unfold tlF at hr
 rw [tlGo_congr hc] at hr
 have h1 := plan_best (S := S) (W := W) (l := l) hg2 hr
 rw [bet_iff] at h1
 have h2 := h1.1
 simp only at h2
 rw [hb, bright_congr hc]; exact h2
theorem chkN_nn (S : Int) (W : List Int) : 0 ≤ chkNightF S W := by
 unfold chkNightF
 cases outF S 0 1440 <;> cases decide (W.length = 0) <;> cases decide (24 < W.length) <;> cases (W.any fun x => outF x 0 100) <;> decide
theorem chkOne_nn (pre : List Tgt) (t : Tgt) : 0 ≤ chkOne pre t := by
 unfold chkOne
 cases isNameF t.name <;> cases (pre.any fun o => decide (o.name = t.name)) <;> cases inRangeF t <;> decide
theorem chkGo_nn : ∀ (l pre : List Tgt), 0 ≤ chkGo pre l
 | [], pre => by simp [chkGo]
 | a :: l, pre => by
  simp only [chkGo]
  split
  ·exact chkGo_nn l _
  ·exact chkOne_nn _ _
theorem chkT_nn (l : List Tgt) : 0 ≤ chkTgtsF l := by
 unfold chkTgtsF
 cases decide (32 < l.length) with
 | true => show (0 : Int) ≤ 5; decide
 | false => exact chkGo_nn l []
theorem ordOne_gd {n : Int} {pre : List Int} {i : Int} (h : ordOne n pre i = 0) : (0 ≤ i ∧ i ≤ n - 1) ∧ i ∉ pre := by
 refine ⟨ordOne_zero h, ?_⟩
 unfold ordOne at h
 cases h1 : outF i 0 (n - 1) with
 | true => rw [h1] at h; cases h
 | false =>
  rw [h1] at h
  cases h2 : pre.any (fun j => decide (j = i)) with
  | true => rw [h2] at h; cases h
  | false => exact any_no h2
theorem ordGo_nodup {n : Int} : ∀ {o pre : List Int}, pre.Nodup → ordGo n pre o = 0 → (pre ++ o).Nodup
 | [], pre, h, _ => by simpa using h
 | i :: o, pre, h, k => by
  simp only [ordGo] at k
  split at k
  ·rename_i h0
   have h1 := (ordOne_gd h0).2
   have h2 : (pre ++ [i]).Nodup := by
    rw [List.nodup_append]
    refine ⟨h, by simp, fun a ha b hb e => ?_⟩
    simp only [List.mem_singleton] at hb
    subst hb; subst e; exact h1 ha
   have := ordGo_nodup h2 k
   simpa using this
  ·rename_i h0; exact absurd k h0
theorem ord_gd {l : List Tgt} {o : List Int} (h : chkOrdF l.length o = 0) : gdO l o := by
 refine ⟨?_, fun i hi => ?_⟩
 ·have := ordGo_nodup (n := l.length) (o := o) (pre := []) List.nodup_nil h
  simpa using this
 ·have := ordGo_zero h i hi; omega
theorem tlE_zero {S : Int} {W : List Int} {l : List Tgt} {o : List Int} (h : tlE S W l o = 0) : chkOrdF l.length o = 0 ∧ ∃ r, tlF S W l o = some r ∧ tlT S W l o = r := by
 have hb : badT S W l o = 0 := by
  unfold tlE at h
  by_cases hq : badT S W l o = 0
  ·exact hq
  ·rw [if_pos hq] at h; exact absurd h hq
 obtain ⟨h1, h2⟩ := bt_of hb
 obtain ⟨e1, e2⟩ := tl_ok h1 h2
 rw [e2] at h
 cases ht : tlF S W l o with
 | none => rw [ht] at h; cases h
 | some r => exact ⟨h2, r, rfl, by rw [e1, ht]; rfl⟩
theorem tl_of {S : Int} {W : List Int} {l : List Tgt} {o r : List Int} (h : badP S W l = 0) (hg : gdO l o) (hr : tlF S W l o = some r) : tlT S W l o = r ∧ tlE S W l o = 0 := by
 have h1 : firstF [chkNightF S W, chkTgtsF l] = 0 := by
  by_cases h1 : firstF [chkNightF S W, chkTgtsF l] = 0
  ·exact h1
  ·exact absurd ((bad1 h1).symm.trans h) h1
 obtain ⟨e1, e2⟩ := tl_ok h1 (ordGo_gd o [] hg)
 rw [e1, e2, hr]; exact ⟨rfl, rfl⟩
end Go.Lens.Tb
end
section
namespace Go.Lens.Tb
open Go.Proofs
set_option linter.unusedSectionVars false
theorem cal_no1 {W : List Int} {t : Tgt} {b : Int} (h : (bif (bif decide (b < t.from_) then true else decide (t.to < b + t.length)) then true else decide (b < 0)) = true) (ht : VT t) : canF W t b = false := by
 simp only [bif_or, Bool.or_eq_true, decide_eq_true_eq] at h
 unfold VT at ht
 by_cases h1 : b < t.from_
 ·exact canF_no_from h1
 ·exact canF_no_last (by omega)
theorem cal_no2 {W : List Int} {t : Tgt} {b hh : Int} (hb : 0 ≤ b) (hl : 1 ≤ t.length) (h1 : t.from_ ≤ b) (h2 : b + t.length ≤ t.to) (k1 : b / 60 ≤ hh) (k2 : hh ≤ (b + t.length - 1) / 60)
  (h : (bif decide (((List.length W : Nat) : Int) ≤ hh) then true else decide (t.limit < W.getD hh.toNat 0)) = true) : canF W t b = false := by
 simp only [bif_or, Bool.or_eq_true, decide_eq_true_eq] at h
 refine Bool.eq_false_iff.2 fun hm => ?_
 have := (canF_hours hb hl h1 h2).1 hm hh k1 (by omega)
 omega
theorem nb_early {W : List Int} {l : List Tgt} {o : List Int} {X : Int} (h : (bif (bif (bif (bif (!(shortN W)) then true else (!(shortT l 5 8))) then true else (decide (5 < ((List.length l : Nat) : Int)))) then true else (decide (X ≠ 0))) then true else (decide (8 < ((List.length o : Nat) : Int)))) = false) :
  shortN W = true ∧ shortT l 5 8 = true ∧ l.length ≤ 5 ∧ X = 0 ∧ o.length ≤ 8 := by
 simp only [bif_or, Bool.or_eq_false_iff, Bool.not_eq_false', decide_eq_false_iff_not, Decidable.not_not] at h
 obtain ⟨⟨⟨⟨h1, h2⟩, h3⟩, h4⟩, h5⟩ := h
 exact ⟨h1, h2, by omega, by omega, by omega⟩
theorem nbW {W : List Int} {X Y : Bool} (h : ((bif (bif (!(shortN W)) then true else X) then true else Y) == false) = true) : W.length ≤ 26 := by
 cases hs : shortN W with
 | true => exact shortN_le hs
 | false => rw [hs] at h; cases h
theorem chkN_le (S : Int) (W : List Int) : chkNightF S W ≤ 12 := by
 unfold chkNightF
 cases outF S 0 1440 <;> cases decide (W.length = 0) <;> cases decide (24 < W.length) <;> cases (W.any fun x => outF x 0 100) <;> decide
theorem chkOne_le (pre : List Tgt) (t : Tgt) : chkOne pre t ≤ 9 := by
 unfold chkOne
 cases isNameF t.name <;> cases (pre.any fun o => decide (o.name = t.name)) <;> cases inRangeF t <;> decide
theorem chkGo_le : ∀ (l pre : List Tgt), chkGo pre l ≤ 9
 | [], pre => by simp [chkGo]
 | a :: l, pre => by
  simp only [chkGo]
  split
  ·exact chkGo_le l _
  ·exact chkOne_le _ _
theorem chkT_le (l : List Tgt) : chkTgtsF l ≤ 9 := by
 unfold chkTgtsF
 cases decide (32 < l.length) with
 | true => show (5 : Int) ≤ 9; decide
 | false => exact chkGo_le l []
theorem least_pos {S : Int} {l : List Tgt} {o r : List Int} {k : Nat} {e : Int} (he : e = endK S l o r k) (h : 0 < ((k : Nat) : Int)) :
  leastF S l o r k = e + max ((l.getD (o.getD k 0).toNat default).place - (l.getD (o.getD (k - 1) 0).toNat default).place) (0 - ((l.getD (o.getD k 0).toNat default).place - (l.getD (o.getD (k - 1) 0).toNat default).place)) := by
 unfold leastF apartF
 rw [if_neg (by omega), ← he]; omega
theorem least_zero {S : Int} {l : List Tgt} {o r : List Int} {k : Nat} {e : Int} (he : e = endK S l o r k) (h : ¬ 0 < ((k : Nat) : Int)) : leastF S l o r k = e := by
 unfold leastF
 have : k = 0 := by omega
 subst this
 rw [if_pos rfl, he]; rfl
theorem endK_rng {S : Int} {W : List Int} {l : List Tgt} {o r : List Int} (hp : (0 ≤ S ∧ S ≤ 1440 ∧ W.length ≤ 24 ∧ l.length ≤ 32) ∧ ∀ t ∈ l, VT t) (hg : gdO l o) (hr : tlF S W l o = some r) {k : Nat} (hk : k ≤ o.length) : 0 ≤ endK S l o r k ∧ endK S l o r k ≤ 2880 := by
 unfold endK
 split
 ·omega
 ·have h1 := tl_rng hr (k := k - 1) (by omega)
  have h2 := (gd_VI hp.2 hg (k - 1) (by omega)).2.2
  unfold VT at h2
  omega
theorem nb6 {lt x : Int} {p q : Bool} (h : lt ≤ x ∧ x ≤ 1440 ∧ 0 ≤ x ∧ p = true ∧ (lt < x → q = false)) : (bif (bif (bif (decide (x < lt)) then true else (decide (1440 < x))) then true else (!p)) then true else (bif (decide (lt < x)) then q else false)) = false := by
 obtain ⟨h1, h2, _, h3, h4⟩ := h
 rw [h3, decide_eq_false (p := x < lt) (by omega), decide_eq_false (p := 1440 < x) (by omega)]
 by_cases hq : lt < x
 ·rw [h4 hq]; simp
 ·rw [decide_eq_false hq]; rfl
theorem nb_leaf {a b : Int} {c : Ch} {o : List Int} (h : betC ⟨o, a, b⟩ c = false) : (bif (bif (decide (a < c.bright)) then true else (bif (decide (a = c.bright)) then (decide (c.end_ ≤ b)) else false)) then true else false) = true := by
 rw [bet_iff] at h
 simp only at h
 by_cases h1 : a < c.bright
 ·rw [decide_eq_true h1]; rfl
 ·have h2 : a = c.bright := by omega
  rw [decide_eq_false h1, decide_eq_true h2, decide_eq_true (h.2 h2)]; rfl
end Go.Lens.Tb
end
section
namespace Go.Lens.Tb
set_option linter.unusedSectionVars false
open Go.Proofs
variable [Lz]
noncomputable def fn7 : FnI := ⟨291, 3420619375024126586585221944706161541946826761511016355490057232966853066703, Tryz.f7.results, Tryz.f7.body⟩
theorem qf7 : QF 7 fn7 := ⟨Tryz.f7, Tryz.func7, rfl, rfl, rfl, dstB_ok (by kernel_rfl), Tryz.call7⟩
noncomputable def fn52 : FnI := ⟨52, 2251817010331871, Tryz.f52.results, Tryz.f52.body⟩
theorem qf52 : QF 52 fn52 := ⟨Tryz.f52, Tryz.func52, rfl, rfl, rfl, dstB_ok (by kernel_rfl), Tryz.call52⟩
end Go.Lens.Tb
end
section
namespace Go.Lens.Tb
open Go.Proofs
variable [Lz]
set_option linter.unusedSectionVars false
set_option maxRecDepth 100000
attribute [local irreducible] TK PK T RG EfR Body
set_option maxHeartbeats 4000000 in
theorem w52 (start : Int) (W : List Int) (t : Tgt) (b : Int) (ht : VT t) (h : -1 ≤ b ∧ b ≤ 1440 ∧ W.length ≤ 1000) : CallOk Tryz.prog 52 [.pv (.agg [pI start, pL eI W]), .pv (.agg [pS (Tgt.name t), pI (Tgt.bright t), pI (Tgt.place t), pI (Tgt.length t), pI (Tgt.from_ t), pI (Tgt.to t), pI (Tgt.limit t)]), vI b] (lookM []) (vB (canF W t b)) [] := by
 haveI := tab_ok
 obtain ⟨fn, f1, f2, f3, f4, _, f6⟩ := qf52
 refine callOk_of (Y := tab) (F := fn52) f1 (f2.trans rfl) f3 f4 f6 (Nat.le_of_ble_eq_true rfl) rfl ?_
 clear f1 f2 f3 f4 f6
 show TK _ _ _ _ _ _ ⟨[(0, .pv (.agg [pI start, pL eI W])), (1, .pv (.agg [pS (Tgt.name t), pI (Tgt.bright t), pI (Tgt.place t), pI (Tgt.length t), pI (Tgt.from_ t), pI (Tgt.to t), pI (Tgt.limit t)])), (2, vI b)], []⟩
 refine At rfl ?_
 refine NR ⟨[(0, .pv (.agg [pI start, pL eI W])), (1, .pv (.agg [pS (Tgt.name t), pI (Tgt.bright t), pI (Tgt.place t), pI (Tgt.length t), pI (Tgt.from_ t), pI (Tgt.to t), pI (Tgt.limit t)])), (2, vI b)], []⟩ (sb rfl rfl rfl) rfl ?_
 refine rn rfl ?_
 refine rn rfl ?_
 refine ag rfl ?_
 refine RN ?_
 refine Ap rfl ?_
 refine NR ⟨[(2, vI b), (3, .bref 4 0), (4, .bref 5 0)], [(4, .box 24 [vI start, vL eI W]), (5, .box 46 [vS (Tgt.name t), vI (Tgt.bright t), vI (Tgt.place t), vI (Tgt.length t), vI (Tgt.from_ t), vI (Tgt.to t), vI (Tgt.limit t)])]⟩ (sb rfl rfl rfl) rfl ?_
 refine mv rfl ?_
 refine RO (Body.fadB rfl fa46_4 rfl) ?_
 refine RO (Body.loadB rfl rfl rfl ag3 sz3 rfl) ?_
 refine RO (Body.lss rfl rfl) ?_
 refine mv rfl ?_
 refine RG.cons (EfR.sym rfl (fun hc => Body.move rfl) rfl) ?_
 refine RG.cons (EfR.sym rfl (fun hc => Body.fadB rfl fa46_3 rfl) rfl) ?_
 refine RG.cons (EfR.sym rfl (fun hc => Body.loadB (ev1_gd rfl hc) rfl rfl ag3 sz3 rfl) rfl) ?_
 refine RG.cons (EfR.sym rfl (fun hc => Body.add (ev1_gd rfl hc) (ev1_gd rfl hc) (by unfold R64; omega)) rfl) ?_
 refine RG.cons (EfR.sym rfl (fun hc => Body.fadB rfl fa46_5 rfl) rfl) ?_
 refine RG.cons (EfR.sym rfl (fun hc => Body.loadB (ev1_gd rfl hc) rfl rfl ag3 sz3 rfl) rfl) ?_
 refine RG.cons (EfR.sym rfl (fun hc => Body.gtr (ev1_gd rfl hc) (ev1_gd rfl hc)) rfl) ?_
 refine RO (Body.pick rfl rfl rfl rfl (gdB rfl) (pick_or _)) ?_
 refine mv rfl ?_
 refine RG.cons (EfR.sym rfl (fun hc => Body.move rfl) rfl) ?_
 refine RG.cons (EfR.sym rfl (fun hc => Body.lss (ev1_gd rfl hc) rfl) rfl) ?_
 refine RO (Body.pick rfl rfl rfl rfl (gdB rfl) (pick_or _)) ?_
 refine RN ?_
 refine Ap rfl ?_
 refine TK.norm ⟨[(2, vI b), (3, .bref 4 0), (4, .bref 5 0), (24, vB (bif (bif (decide (b < (Tgt.from_ t))) then true else (decide ((Tgt.to t) < (b + (Tgt.length t))))) then true else (decide (b < 0))))], [(4, .box 24 [vI start, vL eI W]), (5, .box 46 [vS (Tgt.name t), vI (Tgt.bright t), vI (Tgt.place t), vI (Tgt.length t), vI (Tgt.from_ t), vI (Tgt.to t), vI (Tgt.limit t)])]⟩ (sb rfl rfl rfl) ?_
 refine TK.cond rfl (fun h1 => ?_) (fun h1 => ?_)
 ·
  refine At rfl ?_
  refine NR ⟨[], []⟩ (sb rfl rfl rfl) rfl ?_
  refine ag rfl ?_
  refine RN ?_
  refine Ap rfl ?_
  refine TK.ret ?_
  refine PK.ret ?_
  refine leaf (val0 := vB false) (by kernel_rfl) ?_
  exact lb (by first
          | exact (cal_no1 h1 ht).symm
          | exact (cal_no2 (by omega) ht.2.2.2.2.1 (by omega) (by omega) (by omega) (by omega) h3).symm
          | exact ((canF_hours (by omega) ht.2.2.2.2.1 (by omega) (by omega)).2 fun i hi hi2 => hI0.2.2 i hi (by omega)).symm)
 ·
  refine At rfl ?_
  refine TK.norm ⟨[(2, vI b), (3, .bref 4 0), (4, .bref 5 0)], [(4, .box 24 [vI start, vL eI W]), (5, .box 46 [vS (Tgt.name t), vI (Tgt.bright t), vI (Tgt.place t), vI (Tgt.length t), vI (Tgt.from_ t), vI (Tgt.to t), vI (Tgt.limit t)])]⟩ (sb rfl rfl rfl) ?_
  simp only [bif_or, Bool.or_eq_false_iff, decide_eq_false_iff_not] at h1
  refine TK.rg (Y := tab) mixed rfl ?_
  refine mv rfl ?_
  refine RO (Body.quoN rfl rfl (by first | omega | (have hc2 := hc; simp at hc2; omega)) (by decide) (by unfold R64; omega)) ?_
  refine ag rfl ?_
  refine RN ?_
  refine Ap rfl ?_
  refine TK.loop (α := Int) (fun x => ⟨[(2, vI b), (3, .bref 4 0), (4, .bref 5 0), (7, vI x)], [(4, .box 24 [vI start, vL eI W]), (5, .box 46 [vS (Tgt.name t), vI (Tgt.bright t), vI (Tgt.place t), vI (Tgt.length t), vI (Tgt.from_ t), vI (Tgt.to t), vI (Tgt.limit t)])]⟩) (fun x => b / 60 ≤ x ∧ x ≤ (b + t.length - 1) / 60 + 1 ∧ ∀ i : Int, b / 60 ≤ i → i < x → i < (W.length : Int) ∧ W.getD i.toNat 0 ≤ t.limit) (fun x => ((b + t.length - 1) / 60 + 1 - x).toNat) (b / 60) ?_ (sb rfl rfl rfl) ?_
  · show b / 60 ≤ (b / 60) ∧ (b / 60) ≤ (b + t.length - 1) / 60 + 1 ∧ ∀ i : Int, b / 60 ≤ i → i < (b / 60) → i < (W.length : Int) ∧ W.getD i.toNat 0 ≤ t.limit
    exact ⟨by omega, by omega, fun i hi hi2 => by omega⟩
  rintro hh hI0
  replace hI0 : b / 60 ≤ hh ∧ hh ≤ (b + t.length - 1) / 60 + 1 ∧ ∀ i : Int, b / 60 ≤ i → i < hh → i < (W.length : Int) ∧ W.getD i.toNat 0 ≤ t.limit := hI0
  show TK _ _ _ _ _ _ ⟨[(2, vI b), (3, .bref 4 0), (4, .bref 5 0), (7, vI hh)], [(4, .box 24 [vI start, vL eI W]), (5, .box 46 [vS (Tgt.name t), vI (Tgt.bright t), vI (Tgt.place t), vI (Tgt.length t), vI (Tgt.from_ t), vI (Tgt.to t), vI (Tgt.limit t)])]⟩
  refine At rfl ?_
  refine NR ⟨[(2, vI b), (3, .bref 4 0), (4, .bref 5 0), (7, vI hh)], [(4, .box 24 [vI start, vL eI W]), (5, .box 46 [vS (Tgt.name t), vI (Tgt.bright t), vI (Tgt.place t), vI (Tgt.length t), vI (Tgt.from_ t), vI (Tgt.to t), vI (Tgt.limit t)])]⟩ (sb rfl rfl rfl) rfl ?_
  refine mv rfl ?_
  refine mv rfl ?_
  refine RO (Body.fadB rfl fa46_3 rfl) ?_
  refine RO (Body.loadB rfl rfl rfl ag3 sz3 rfl) ?_
  refine RO (Body.add rfl rfl (by unfold R64; omega)) ?_
  refine RO (Body.sub rfl rfl (by unfold R64; omega)) ?_
  refine RO (Body.quoN rfl rfl (by first | omega | (have hc2 := hc; simp at hc2; omega)) (by decide) (by unfold R64; omega)) ?_
  refine RO (Body.leq rfl rfl) ?_
  refine RN ?_
  refine Ap rfl ?_
  refine TK.norm ⟨[(2, vI b), (3, .bref 4 0), (4, .bref 5 0), (7, vI hh), (34, vB (decide (hh ≤ (((b + (Tgt.length t)) - 1) / 60))))], [(4, .box 24 [vI start, vL eI W]), (5, .box 46 [vS (Tgt.name t), vI (Tgt.bright t), vI (Tgt.place t), vI (Tgt.length t), vI (Tgt.from_ t), vI (Tgt.to t), vI (Tgt.limit t)])]⟩ (sb rfl rfl rfl) ?_
  refine TK.condP rfl (fun h2 => ?_) (fun h2 => ?_)
  ·
   refine At rfl ?_
   refine NR ⟨[(2, vI b), (3, .bref 4 0), (4, .bref 5 0), (7, vI hh)], [(4, .box 24 [vI start, vL eI W]), (5, .box 46 [vS (Tgt.name t), vI (Tgt.bright t), vI (Tgt.place t), vI (Tgt.length t), vI (Tgt.from_ t), vI (Tgt.to t), vI (Tgt.limit t)])]⟩ (sb rfl rfl rfl) rfl ?_
   refine mv rfl ?_
   refine RO (Body.fadB rfl fa24_1 rfl) ?_
   refine RO (Body.loadB rfl rfl rfl ag22 sz22 rfl) ?_
   refine RO (Body.lenL rfl un22) ?_
   refine RO (Body.geq rfl rfl) ?_
   refine mv rfl ?_
   refine RG.cons (EfR.sym rfl (fun hc => Body.fadB rfl fa24_1 rfl) rfl) ?_
   refine RG.cons (EfR.sym rfl (fun hc => Body.loadB (ev1_gd rfl hc) rfl rfl ag22 sz22 rfl) rfl) ?_
   refine RG.cons (EfR.sym rfl (fun hc => Body.move rfl) rfl) ?_
   refine RG.cons (EfR.sym rfl (fun hc => Body.idx (z := 0) (i := (Int.toNat hh)) (ev1_gd rfl hc) (ev1_gd rfl hc) un22 sz3 (fun _ => rfl) (Int.toNat_of_nonneg (by first | omega | (have hc2 := hc; simp at hc2; omega))).symm (by first | omega | (have hc2 := hc; simp at hc2; omega))) rfl) ?_
   refine RG.cons (EfR.sym rfl (fun hc => Body.loadP (ev1_gd rfl hc) ag3 sz3) rfl) ?_
   refine RG.cons (EfR.sym rfl (fun hc => Body.fadB rfl fa46_6 rfl) rfl) ?_
   refine RG.cons (EfR.sym rfl (fun hc => Body.loadB (ev1_gd rfl hc) rfl rfl ag3 sz3 rfl) rfl) ?_
   refine RG.cons (EfR.sym rfl (fun hc => Body.gtr (ev1_gd rfl hc) (ev1_gd rfl hc)) rfl) ?_
   refine RO (Body.pick rfl rfl rfl rfl (gdB rfl) (pick_or _)) ?_
   refine RG.nil (fun _ => by kernel_rfl) ?_
   refine Ap rfl ?_
   refine TK.norm ⟨[(2, vI b), (3, .bref 4 0), (4, .bref 5 0), (7, vI hh), (51, vB (bif (decide (((List.length W : Nat) : Int) ≤ hh)) then true else (decide ((Tgt.limit t) < (List.getD W (Int.toNat hh) 0)))))], [(4, .box 24 [vI start, vL eI W]), (5, .box 46 [vS (Tgt.name t), vI (Tgt.bright t), vI (Tgt.place t), vI (Tgt.length t), vI (Tgt.from_ t), vI (Tgt.to t), vI (Tgt.limit t)])]⟩ (sb rfl rfl rfl) ?_
   refine TK.cond rfl (fun h3 => ?_) (fun h3 => ?_)
   ·
    refine At rfl ?_
    refine NR ⟨[], []⟩ (sb rfl rfl rfl) rfl ?_
    refine ag rfl ?_
    refine RN ?_
    refine Ap rfl ?_
    refine TK.ret ?_
    refine PK.ret ?_
    refine leaf (val0 := vB false) (by kernel_rfl) ?_
    exact lb (by first
          | exact (cal_no1 h1 ht).symm
          | exact (cal_no2 (by omega) ht.2.2.2.2.1 (by omega) (by omega) (by omega) (by omega) h3).symm
          | exact ((canF_hours (by omega) ht.2.2.2.2.1 (by omega) (by omega)).2 fun i hi hi2 => hI0.2.2 i hi (by omega)).symm)
   ·
    refine At rfl ?_
    refine NR ⟨[(2, vI b), (3, .bref 4 0), (4, .bref 5 0), (7, vI hh)], [(4, .box 24 [vI start, vL eI W]), (5, .box 46 [vS (Tgt.name t), vI (Tgt.bright t), vI (Tgt.place t), vI (Tgt.length t), vI (Tgt.from_ t), vI (Tgt.to t), vI (Tgt.limit t)])]⟩ (sb rfl rfl rfl) rfl ?_
    refine mv rfl ?_
    refine RO (Body.add rfl rfl (by unfold R64; omega)) ?_
    refine ag rfl ?_
    refine RN ?_
    refine Aq rfl ?_
    refine PK.lp ?_
    refine LP.mk (hh + 1) ?_ ?_ (sb rfl rfl rfl)
    · show b / 60 ≤ (hh + 1) ∧ (hh + 1) ≤ (b + t.length - 1) / 60 + 1 ∧ ∀ i : Int, b / 60 ≤ i → i < (hh + 1) → i < (W.length : Int) ∧ W.getD i.toNat 0 ≤ t.limit
      refine ⟨by omega, by omega, fun i hi hi2 => ?_⟩; simp only [bif_or, Bool.or_eq_false_iff, decide_eq_false_iff_not] at h3; rcases Int.lt_or_eq_of_le (Int.le_of_lt_add_one hi2) with h9 | h9; exact hI0.2.2 i hi h9; subst h9; omega
    · show ((b + t.length - 1) / 60 + 1 - (hh + 1)).toNat < ((b + t.length - 1) / 60 + 1 - hh).toNat
      omega
  ·
   refine At rfl ?_
   refine TK.exit ?_
   refine PK.exit rfl ?_
   refine Ap rfl ?_
   refine NR ⟨[], []⟩ (sb rfl rfl rfl) rfl ?_
   refine ag rfl ?_
   refine RN ?_
   refine Ap rfl ?_
   refine TK.ret ?_
   refine PK.ret ?_
   refine leaf (val0 := vB true) (by kernel_rfl) ?_
   exact lb (by first
          | exact (cal_no1 h1 ht).symm
          | exact (cal_no2 (by omega) ht.2.2.2.2.1 (by omega) (by omega) (by omega) (by omega) h3).symm
          | exact ((canF_hours (by omega) ht.2.2.2.2.1 (by omega) (by omega)).2 fun i hi hi2 => hI0.2.2 i hi (by omega)).symm)
set_option maxHeartbeats 4000000 in
theorem w7 (ha : CallOk Tryz.prog 19 [] (lookM []) (.pv (.lit (.bool true))) []) (start : Int) (W : List Int) (l : List Tgt) (o : List Int) (hl : l.length * 64 ≤ 140737488355328) (hlo : o.length * 8 ≤ 140737488355328) : CallOk Tryz.prog 7 [.pv (.agg [pI start, pL eI W]), vL eT l, vL eI o] (lookM []) (vB true) [] := by
 haveI := tab_ok
 obtain ⟨fn, f1, f2, f3, f4, _, f6⟩ := qf7
 refine callOk_of (Y := tab) (F := fn7) f1 (f2.trans rfl) f3 f4 f6 (Nat.le_of_ble_eq_true rfl) rfl ?_
 clear f1 f2 f3 f4 f6
 show TK _ _ _ _ _ _ ⟨[(0, .pv (.agg [pI start, pL eI W])), (1, vL eT l), (2, vL eI o)], []⟩
 refine At rfl ?_
 refine NR ⟨[(0, .pv (.agg [pI start, pL eI W])), (1, vL eT l), (2, vL eI o)], []⟩ (sb rfl rfl rfl) rfl ?_
 refine rn rfl ?_
 refine ag rfl ?_
 refine RN ?_
 refine Ap rfl ?_
 refine TK.norm ⟨[(1, vL eT l), (2, vL eI o), (3, .bref 4 0)], [(4, .box 24 [vI start, vL eI W])]⟩ (sb rfl rfl rfl) ?_
 have hlx : l.length ≤ 2199023255552 := by omega
 refine TK.rg (Y := tab) mixed rfl ?_
 refine RO (Body.loadBA rfl rfl rfl ag24 sz24 rfl rfl) ?_
 refine mv rfl ?_
 refine RO (Body.call (w16 l (by omega)) rfl rfl rfl) ?_
 refine RO (Body.runZ rfl (fun l => Frz.boxN l rfl) rfl) ?_
 refine rn rfl ?_
 refine ag rfl ?_
 refine RG.nil (fun _ => by kernel_rfl) ?_
 refine Ap rfl ?_
 refine TK.norm ⟨[(1, vL eT l), (2, vL eI o), (3, .bref 4 0), (7, .bref 8 0), (8, vL eT l)], [(4, .box 24 [vI start, vL eI W]), (8, .box 26 [vI start, vL eI W])]⟩ (sb rfl rfl rfl) ?_
 have hcW : shortN W = true → W.length ≤ 26 := shortN_le
 have hcn := chkN_le start W
 have hcn0 := chkN_nn start W
 have hct := chkT_le l
 have hct0 := chkT_nn l
 refine TK.rg (Y := tab) mixed rfl ?_
 refine RO (Body.loadBA rfl rfl rfl ag26 sz26 rfl rfl) ?_
 refine RO (Body.call (w17 start W) rfl rfl rfl) ?_
 refine RO (Body.not rfl) ?_
 refine mv rfl ?_
 refine RG.cons (EfR.sym rfl (fun hc => Body.move rfl) rfl) ?_
 refine RG.cons (EfR.sym rfl (fun hc => Body.call (w18 l 5 8 (by first | omega | exact Nat.le_of_ble_eq_true rfl | (simp only [List.length_take, List.length_drop]; omega))) rfl (ds3 (ev1_gd rfl hc) rfl rfl) rfl) rfl) ?_
 refine RG.cons (EfR.sym rfl (fun hc => Body.not (ev1_gd rfl hc)) rfl) ?_
 refine RO (Body.pick rfl rfl rfl rfl (gdB rfl) (pick_or _)) ?_
 refine mv rfl ?_
 refine RG.cons (EfR.sym rfl (fun hc => Body.move rfl) rfl) ?_
 refine RG.cons (EfR.sym rfl (fun hc => Body.lenL (ev1_gd rfl hc) un25) rfl) ?_
 refine RG.cons (EfR.sym rfl (fun hc => Body.gtr (ev1_gd rfl hc) rfl) rfl) ?_
 refine RO (Body.pick rfl rfl rfl rfl (gdB rfl) (pick_or _)) ?_
 refine mv rfl ?_
 refine RG.cons (EfR.sym rfl (fun hc => Body.loadBA rfl rfl rfl ag26 sz26 rfl rfl) rfl) ?_
 refine RG.cons (EfR.sym rfl (fun hc => Body.call (w20 start W (Nat.le_trans (nbW hc) (by omega))) rfl (ds1 (ev1_gd rfl hc)) rfl) rfl) ?_
 refine RG.cons (EfR.sym rfl (fun hc => Body.move rfl) rfl) ?_
 refine RG.cons (EfR.sym rfl (fun hc => Body.call (w21 l (by omega)) rfl (ds1 (ev1_gd rfl hc)) rfl) rfl) ?_
 refine RG.cons (EfR.sym rfl (fun hc => Body.add (ev1_gd rfl hc) (ev1_gd rfl hc) (by unfold R64; omega)) rfl) ?_
 refine RG.cons (EfR.sym rfl (fun hc => Body.neq (ev1_gd rfl hc) rfl) rfl) ?_
 refine RO (Body.pick rfl rfl rfl rfl (gdB rfl) (pick_or _)) ?_
 refine mv rfl ?_
 refine RG.cons (EfR.sym rfl (fun hc => Body.move rfl) rfl) ?_
 refine RG.cons (EfR.sym rfl (fun hc => Body.lenL (ev1_gd rfl hc) un22) rfl) ?_
 refine RG.cons (EfR.sym rfl (fun hc => Body.gtr (ev1_gd rfl hc) rfl) rfl) ?_
 refine RO (Body.pick rfl rfl rfl rfl (gdB rfl) (pick_or _)) ?_
 refine RN ?_
 refine Ap rfl ?_
 refine TK.norm ⟨[(1, vL eT l), (2, vL eI o), (3, .bref 4 0), (55, vB (bif (bif (bif (bif (!(shortN W)) then true else (!(shortT l 5 8))) then true else (decide (5 < ((List.length l : Nat) : Int)))) then true else (decide (((chkNightF start W) + (chkTgtsF l)) ≠ 0))) then true else (decide (8 < ((List.length o : Nat) : Int)))))], [(4, .box 24 [vI start, vL eI W])]⟩ (sb rfl rfl rfl) ?_
 refine TK.cond rfl (fun h1 => ?_) (fun h1 => ?_)
 ·
  refine At rfl ?_
  refine NR ⟨[], []⟩ (sb rfl rfl rfl) rfl ?_
  refine RO (Body.call (ha) rfl rfl rfl) ?_
  refine ag rfl ?_
  refine RN ?_
  refine Ap rfl ?_
  refine TK.ret ?_
  refine PK.ret ?_
  refine leaf (val0 := vB true) (by kernel_rfl) ?_
  exact rfl
 ·
  refine At rfl ?_
  refine TK.norm ⟨[(1, vL eT l), (2, vL eI o), (3, .bref 4 0)], [(4, .box 24 [vI start, vL eI W])]⟩ (sb rfl rfl rfl) ?_
  have h1b := nb_early h1
  obtain ⟨hsn, hst, hl5, hck, ho8⟩ := h1b
  have hW := shortN_le hsn
  have hn0 := chkN_nn start W
  have ht0 := chkT_nn l
  have hp0 : badP start W l = 0 := badP_zero (by omega) (by omega) (by omega)
  have hp := badP_parts hp0
  have hX : planX start W l = planC start W l := planX_ok (fun e => e hp0)
  have hwf := plan_wf (S := start) (W := W) (l := l)
  have hbest := fun (o r : List Int) (hg : gdO l o) (hr : tlF start W l o = some r) => plan_best (S := start) (W := W) (l := l) hg hr
  have hbt : badP start W (l.take (l.length - 1)) = 0 := badP_zero (by omega) (chkTgts_take _ (by omega)) (by rw [List.length_take]; omega)
  have hless := plan_less (S := start) (W := W) (l := l) (l.length - 1)
  refine TK.rg (Y := tab) mixed rfl ?_
  refine RO (Body.loadBA rfl rfl rfl ag24 sz24 rfl rfl) ?_
  refine mv rfl ?_
  refine RO (Body.call (w32 start W l (by first | omega | (simp only [List.length_take]; omega))) rfl rfl rfl) ?_
  refine rn rfl ?_
  refine rn rfl ?_
  refine rn rfl ?_
  refine RO (Body.runZ rfl (fun l => Frz.boxN l rfl) rfl) ?_
  refine rn rfl ?_
  refine ag rfl ?_
  refine RN ?_
  refine Ap rfl ?_
  refine TK.norm ⟨[(1, vL eT l), (2, vL eI o), (3, .bref 4 0), (9, .bref 10 0), (10, vI (badP start W l))], [(4, .box 24 [vI start, vL eI W]), (10, .box 53 [vL eI (Ch.order (planX start W l)), vI (Ch.bright (planX start W l)), vI (Ch.end_ (planX start W l))])]⟩ (sb rfl rfl rfl) ?_
  rw [hX]
  generalize planC start W l = c at *
  obtain ⟨hg, r, hr, hb, he⟩ := hwf
  have hv := gd_VI hp.2 hg
  have hrl := tlGo_len hr
  have hol := gd_len hg
  rw [hp0]
  refine TK.rg (Y := tab) mixed rfl ?_
  refine mv rfl ?_
  refine RO (Body.neq rfl rfl) ?_
  refine mv rfl ?_
  refine RG.cons (EfR.sym rfl (fun hc => Body.move rfl) rfl) ?_
  refine RG.cons (EfR.sym rfl (fun hc => Body.lenL (ev1_gd rfl hc) un25) rfl) ?_
  refine RG.cons (EfR.sym rfl (fun hc => Body.fadB rfl fa53_0 rfl) rfl) ?_
  refine RG.cons (EfR.sym rfl (fun hc => Body.loadB (ev1_gd rfl hc) rfl rfl ag22 sz22 rfl) rfl) ?_
  refine RG.cons (EfR.sym rfl (fun hc => Body.call (w26 ((List.length l : Nat) : Int) (Ch.order c) (by first | omega | exact Nat.le_trans (planX_len _ _ _) (by omega)) (by omega)) rfl (ds2 (ev1_gd rfl hc) (ev1_gd rfl hc)) rfl) rfl) ?_
  refine RG.cons (EfR.sym rfl (fun hc => Body.neq (ev1_gd rfl hc) rfl) rfl) ?_
  refine RO (Body.pick rfl rfl rfl rfl (gdB rfl) (pick_or _)) ?_
  refine RN ?_
  refine Ap rfl ?_
  refine TK.norm ⟨[(1, vL eT l), (2, vL eI o), (3, .bref 4 0), (9, .bref 10 0), (72, vB (bif (decide (0 ≠ 0)) then true else (decide ((chkOrdF ((List.length l : Nat) : Int) (Ch.order c)) ≠ 0))))], [(4, .box 24 [vI start, vL eI W]), (10, .box 53 [vL eI (Ch.order c), vI (Ch.bright c), vI (Ch.end_ c)])]⟩ (sb rfl rfl rfl) ?_
  refine TK.cond rfl (fun h2 => ?_) (fun h2 => ?_)
  ·
   refine At rfl ?_
   refine NR ⟨[], []⟩ (sb rfl rfl rfl) rfl ?_
   refine ag rfl ?_
   refine RN ?_
   refine Ap rfl ?_
   refine TK.ret ?_
   refine PK.ret ?_
   refine leaf (val0 := vB false) (by kernel_rfl) ?_
   exact lb (by first
          | rfl
          | exact nb_leaf (hbest o r2 hg2 hr2)
          | exact absurd ((h6 : _ = true).symm.trans (nb6 hlo)) (by decide)
          | exact absurd (h2 : _ = true) (by simp [show chkOrdF ((List.length l : Nat) : Int) (Ch.order c) = 0 from ordGo_gd _ [] hg])
          | exact absurd (h3 : _ = true) (by simp [hrl])
          | exact absurd (h7 : _ = true) (by simp)
          | exact absurd (h9 : _ = true) (by simp; omega)
          | exact absurd (h11 : _ = true) (by simp [hrl2, hor]))
  ·
   refine At rfl ?_
   refine NR ⟨[(1, vL eT l), (2, vL eI o), (3, .bref 4 0), (9, .bref 10 0)], [(4, .box 24 [vI start, vL eI W]), (10, .box 53 [vL eI (Ch.order c), vI (Ch.bright c), vI (Ch.end_ c)])]⟩ (sb rfl rfl rfl) rfl ?_
   refine RO (Body.loadBA rfl rfl rfl ag24 sz24 rfl rfl) ?_
   refine mv rfl ?_
   refine RO (Body.fadB rfl fa53_0 rfl) ?_
   refine RO (Body.loadB rfl rfl rfl ag22 sz22 rfl) ?_
   refine RO (Body.call (w24 start W l (Ch.order c) (by omega)) rfl rfl rfl) ?_
   refine rn rfl ?_
   refine rn rfl ?_
   refine rn rfl ?_
   refine ag rfl ?_
   refine ag rfl ?_
   refine RN ?_
   refine Ap rfl ?_
   refine TK.norm ⟨[(1, vL eT l), (2, vL eI o), (3, .bref 4 0), (9, .bref 10 0), (11, vL eI (tlT start W l (Ch.order c))), (12, vI (tlE start W l (Ch.order c)))], [(4, .box 24 [vI start, vL eI W]), (10, .box 53 [vL eI (Ch.order c), vI (Ch.bright c), vI (Ch.end_ c)])]⟩ (sb rfl rfl rfl) ?_
   obtain ⟨et, ee⟩ := tl_of hp0 hg hr
   rw [et, ee]
   refine TK.rg (Y := tab) mixed rfl ?_
   refine mv rfl ?_
   refine RO (Body.neq rfl rfl) ?_
   refine mv rfl ?_
   refine RG.cons (EfR.sym rfl (fun hc => Body.move rfl) rfl) ?_
   refine RG.cons (EfR.sym rfl (fun hc => Body.lenL (ev1_gd rfl hc) un22) rfl) ?_
   refine RG.cons (EfR.sym rfl (fun hc => Body.fadB rfl fa53_0 rfl) rfl) ?_
   refine RG.cons (EfR.sym rfl (fun hc => Body.loadB (ev1_gd rfl hc) rfl rfl ag22 sz22 rfl) rfl) ?_
   refine RG.cons (EfR.sym rfl (fun hc => Body.lenL (ev1_gd rfl hc) un22) rfl) ?_
   refine RG.cons (EfR.sym rfl (fun hc => Body.neq (ev1_gd rfl hc) (ev1_gd rfl hc)) rfl) ?_
   refine RO (Body.pick rfl rfl rfl rfl (gdB rfl) (pick_or _)) ?_
   refine RN ?_
   refine Ap rfl ?_
   refine TK.norm ⟨[(1, vL eT l), (2, vL eI o), (3, .bref 4 0), (9, .bref 10 0), (11, vL eI r), (90, vB (bif (decide (0 ≠ 0)) then true else (decide (((List.length r : Nat) : Int) ≠ ((List.length (Ch.order c) : Nat) : Int)))))], [(4, .box 24 [vI start, vL eI W]), (10, .box 53 [vL eI (Ch.order c), vI (Ch.bright c), vI (Ch.end_ c)])]⟩ (sb rfl rfl rfl) ?_
   refine TK.cond rfl (fun h3 => ?_) (fun h3 => ?_)
   ·
    refine At rfl ?_
    refine NR ⟨[], []⟩ (sb rfl rfl rfl) rfl ?_
    refine ag rfl ?_
    refine RN ?_
    refine Ap rfl ?_
    refine TK.ret ?_
    refine PK.ret ?_
    refine leaf (val0 := vB false) (by kernel_rfl) ?_
    exact lb (by first
          | rfl
          | exact nb_leaf (hbest o r2 hg2 hr2)
          | exact absurd ((h6 : _ = true).symm.trans (nb6 hlo)) (by decide)
          | exact absurd (h2 : _ = true) (by simp [show chkOrdF ((List.length l : Nat) : Int) (Ch.order c) = 0 from ordGo_gd _ [] hg])
          | exact absurd (h3 : _ = true) (by simp [hrl])
          | exact absurd (h7 : _ = true) (by simp)
          | exact absurd (h9 : _ = true) (by simp; omega)
          | exact absurd (h11 : _ = true) (by simp [hrl2, hor]))
   ·
    refine At rfl ?_
    refine NR ⟨[(1, vL eT l), (2, vL eI o), (3, .bref 4 0), (9, .bref 10 0), (11, vL eI r)], [(4, .box 24 [vI start, vL eI W]), (10, .box 53 [vL eI (Ch.order c), vI (Ch.bright c), vI (Ch.end_ c)])]⟩ (sb rfl rfl rfl) rfl ?_
    refine RO (Body.fadB rfl fa24_0 rfl) ?_
    refine RO (Body.loadB rfl rfl rfl ag3 sz3 rfl) ?_
    refine ag rfl ?_
    refine ag rfl ?_
    refine RG.nil (fun _ => by kernel_rfl) ?_
    refine Ap rfl ?_
    refine NR ⟨[(1, vL eT l), (2, vL eI o), (3, .bref 4 0), (9, .bref 10 0), (11, vL eI r), (13, vI 0), (14, vI start)], [(4, .box 24 [vI start, vL eI W]), (10, .box 53 [vL eI (Ch.order c), vI (Ch.bright c), vI (Ch.end_ c)])]⟩ (sb rfl rfl rfl) rfl ?_
    refine RO (Body.fadB rfl fa53_0 rfl) ?_
    refine RO (Body.loadB rfl rfl rfl ag22 sz22 rfl) ?_
    refine RO (Body.lenL rfl un22) ?_
    refine mv rfl ?_
    refine RN ?_
    refine Ap rfl ?_
    refine TK.loop (α := Nat × Int × Int) (fun x => ⟨[(1, vL eT l), (2, vL eI o), (3, .bref 4 0), (9, .bref 10 0), (11, vL eI r), (13, vI x.2.1), (14, vI x.2.2), (94, vL eI (Ch.order c)), (95, vI ((List.length (Ch.order c) : Nat) : Int)), (96, vI ((x.1 : Nat) : Int))], [(4, .box 24 [vI start, vL eI W]), (10, .box 53 [vL eI (Ch.order c), vI (Ch.bright c), vI (Ch.end_ c)])]⟩) (fun x => x.1 ≤ List.length (Ch.order c) ∧ x.2.1 = brightS l (List.take x.1 (Ch.order c)) ∧ x.2.2 = endK start l (Ch.order c) r x.1) (fun x => List.length (Ch.order c) - x.1) (0, 0, start) ?_ (sb rfl rfl rfl) ?_
    · show 0 ≤ List.length (Ch.order c) ∧ 0 = brightS l (List.take 0 (Ch.order c)) ∧ start = endK start l (Ch.order c) r 0
      exact ⟨Nat.zero_le _, rfl, rfl⟩
    rintro ⟨k, br, e⟩ hI0
    replace hI0 : k ≤ List.length (Ch.order c) ∧ br = brightS l (List.take k (Ch.order c)) ∧ e = endK start l (Ch.order c) r k := hI0
    show TK _ _ _ _ _ _ ⟨[(1, vL eT l), (2, vL eI o), (3, .bref 4 0), (9, .bref 10 0), (11, vL eI r), (13, vI br), (14, vI e), (94, vL eI (Ch.order c)), (95, vI ((List.length (Ch.order c) : Nat) : Int)), (96, vI ((k : Nat) : Int))], [(4, .box 24 [vI start, vL eI W]), (10, .box 53 [vL eI (Ch.order c), vI (Ch.bright c), vI (Ch.end_ c)])]⟩
    refine At rfl ?_
    refine NR ⟨[(1, vL eT l), (2, vL eI o), (3, .bref 4 0), (9, .bref 10 0), (11, vL eI r), (13, vI br), (14, vI e), (94, vL eI (Ch.order c)), (95, vI ((List.length (Ch.order c) : Nat) : Int)), (96, vI ((k : Nat) : Int))], [(4, .box 24 [vI start, vL eI W]), (10, .box 53 [vL eI (Ch.order c), vI (Ch.bright c), vI (Ch.end_ c)])]⟩ (sb rfl rfl rfl) rfl ?_
    refine RO (Body.lss rfl rfl) ?_
    refine RN ?_
    refine Ap rfl ?_
    refine TK.norm ⟨[(1, vL eT l), (2, vL eI o), (3, .bref 4 0), (9, .bref 10 0), (11, vL eI r), (13, vI br), (14, vI e), (94, vL eI (Ch.order c)), (95, vI ((List.length (Ch.order c) : Nat) : Int)), (96, vI ((k : Nat) : Int)), (97, vB (decide (((k : Nat) : Int) < ((List.length (Ch.order c) : Nat) : Int))))], [(4, .box 24 [vI start, vL eI W]), (10, .box 53 [vL eI (Ch.order c), vI (Ch.bright c), vI (Ch.end_ c)])]⟩ (sb rfl rfl rfl) ?_
    refine TK.condP rfl (fun h4 => ?_) (fun h4 => ?_)
    ·
     refine At rfl ?_
     refine NR ⟨[(1, vL eT l), (2, vL eI o), (3, .bref 4 0), (9, .bref 10 0), (11, vL eI r), (13, vI br), (14, vI e), (94, vL eI (Ch.order c)), (95, vI ((List.length (Ch.order c) : Nat) : Int)), (96, vI ((k : Nat) : Int))], [(4, .box 24 [vI start, vL eI W]), (10, .box 53 [vL eI (Ch.order c), vI (Ch.bright c), vI (Ch.end_ c)])]⟩ (sb rfl rfl rfl) rfl ?_
     refine mv rfl ?_
     refine RO (Body.idx (z := 0) (i := k) rfl rfl un22 sz3 (fun _ => rfl) rfl (by omega)) ?_
     refine RO (Body.loadP rfl ag3 sz3) ?_
     refine ag rfl ?_
     refine ag rfl ?_
     refine RN ?_
     refine Ap rfl ?_
     refine TK.norm ⟨[(1, vL eT l), (2, vL eI o), (3, .bref 4 0), (9, .bref 10 0), (11, vL eI r), (13, vI br), (14, vI e), (15, vI ((k : Nat) : Int)), (16, vI (List.getD (Ch.order c) k 0)), (94, vL eI (Ch.order c)), (95, vI ((List.length (Ch.order c) : Nat) : Int)), (96, vI ((k : Nat) : Int))], [(4, .box 24 [vI start, vL eI W]), (10, .box 53 [vL eI (Ch.order c), vI (Ch.bright c), vI (Ch.end_ c)])]⟩ (sb rfl rfl rfl) ?_
     have hi := hv k (by omega)
     have hk := tl_rng hr (k := k) (by omega)
     have hlo := least_ok hr (i := k) (by omega)
     have hbr := bright_rng (l := l) hp.2 (o := (Ch.order c).take k) (fun i hi => hg.2 i (List.mem_of_mem_take hi))
     rw [List.length_take] at hbr
     have hen := endK_rng (S := start) hp hg hr (k := k) (by omega)
     refine TK.rg (Y := tab) mixed rfl ?_
     refine mv rfl ?_
     refine ag rfl ?_
     refine RN ?_
     refine Ap rfl ?_
     refine NR ⟨[(1, vL eT l), (2, vL eI o), (3, .bref 4 0), (9, .bref 10 0), (11, vL eI r), (13, vI br), (15, vI ((k : Nat) : Int)), (16, vI (List.getD (Ch.order c) k 0)), (17, vI e), (94, vL eI (Ch.order c)), (95, vI ((List.length (Ch.order c) : Nat) : Int)), (96, vI ((k : Nat) : Int))], [(4, .box 24 [vI start, vL eI W]), (10, .box 53 [vL eI (Ch.order c), vI (Ch.bright c), vI (Ch.end_ c)])]⟩ (sb rfl rfl rfl) rfl ?_
     refine mv rfl ?_
     refine RO (Body.gtr rfl rfl) ?_
     refine RN ?_
     refine Ap rfl ?_
     refine TK.norm ⟨[(1, vL eT l), (2, vL eI o), (3, .bref 4 0), (9, .bref 10 0), (11, vL eI r), (13, vI br), (15, vI ((k : Nat) : Int)), (16, vI (List.getD (Ch.order c) k 0)), (17, vI e), (94, vL eI (Ch.order c)), (95, vI ((List.length (Ch.order c) : Nat) : Int)), (96, vI ((k : Nat) : Int)), (103, vB (decide (0 < ((k : Nat) : Int))))], [(4, .box 24 [vI start, vL eI W]), (10, .box 53 [vL eI (Ch.order c), vI (Ch.bright c), vI (Ch.end_ c)])]⟩ (sb rfl rfl rfl) ?_
     refine TK.condJ ⟨[(1, vL eT l), (2, vL eI o), (3, .bref 4 0), (9, .bref 10 0), (11, vL eI r), (13, vI br), (15, vI ((k : Nat) : Int)), (16, vI (List.getD (Ch.order c) k 0)), (17, vI (leastF start l (Ch.order c) r k)), (94, vL eI (Ch.order c)), (95, vI ((List.length (Ch.order c) : Nat) : Int)), (96, vI ((k : Nat) : Int))], [(4, .box 24 [vI start, vL eI W]), (10, .box 53 [vL eI (Ch.order c), vI (Ch.bright c), vI (Ch.end_ c)])]⟩ rfl rfl (fun h5 => ?_) (fun h5 => ?_) ?_
     ·
      replace h5 := of_decide_eq_true h5
      refine At rfl ?_
      refine TK.norm ⟨[(1, vL eT l), (2, vL eI o), (3, .bref 4 0), (9, .bref 10 0), (11, vL eI r), (13, vI br), (15, vI ((k : Nat) : Int)), (16, vI (List.getD (Ch.order c) k 0)), (17, vI e), (94, vL eI (Ch.order c)), (95, vI ((List.length (Ch.order c) : Nat) : Int)), (96, vI ((k : Nat) : Int))], [(4, .box 24 [vI start, vL eI W]), (10, .box 53 [vL eI (Ch.order c), vI (Ch.bright c), vI (Ch.end_ c)])]⟩ (sb rfl rfl rfl) ?_
      have hi1 := hv (k - 1) (by omega)
      refine TK.rg (Y := tab) mixed rfl ?_
      refine mv rfl ?_
      refine mv rfl ?_
      refine RO (Body.idx (z := default) (i := (Int.toNat (List.getD (Ch.order c) k 0))) rfl rfl un25 sz46 (fun _ => rfl) (Int.toNat_of_nonneg (by omega)).symm (by omega)) ?_
      refine RO (Body.fadP rfl fa46_2 rfl) ?_
      refine RO (Body.loadP rfl ag3 sz3) ?_
      refine mv rfl ?_
      refine RO (Body.fadB rfl fa53_0 rfl) ?_
      refine RO (Body.loadB rfl rfl rfl ag22 sz22 rfl) ?_
      refine mv rfl ?_
      refine RO (Body.sub rfl rfl (by unfold R64; omega)) ?_
      refine RO (Body.idx (z := 0) (i := (k - 1)) rfl rfl un22 sz3 (fun _ => rfl) (by omega) (by omega)) ?_
      refine RO (Body.loadP rfl ag3 sz3) ?_
      refine RO (Body.idx (z := default) (i := (Int.toNat (List.getD (Ch.order c) (k - 1) 0))) rfl rfl un25 sz46 (fun _ => rfl) (Int.toNat_of_nonneg (by omega)).symm (by omega)) ?_
      refine RO (Body.fadP rfl fa46_2 rfl) ?_
      refine RO (Body.loadP rfl ag3 sz3) ?_
      refine RO (Body.sub rfl rfl (by unfold R64; omega)) ?_
      refine ag rfl ?_
      refine RG.nil (fun _ => by kernel_rfl) ?_
      refine Ap rfl ?_
      refine NR ⟨[(1, vL eT l), (2, vL eI o), (3, .bref 4 0), (9, .bref 10 0), (11, vL eI r), (13, vI br), (15, vI ((k : Nat) : Int)), (16, vI (List.getD (Ch.order c) k 0)), (17, vI e), (18, vI ((Tgt.place (List.getD l (Int.toNat (List.getD (Ch.order c) k 0)) default)) - (Tgt.place (List.getD l (Int.toNat (List.getD (Ch.order c) (k - 1) 0)) default)))), (94, vL eI (Ch.order c)), (95, vI ((List.length (Ch.order c) : Nat) : Int)), (96, vI ((k : Nat) : Int))], [(4, .box 24 [vI start, vL eI W]), (10, .box 53 [vL eI (Ch.order c), vI (Ch.bright c), vI (Ch.end_ c)])]⟩ (sb rfl rfl rfl) rfl ?_
      refine mv rfl ?_
      refine mv rfl ?_
      refine mv rfl ?_
      refine RO (Body.neg rfl (by unfold R64; omega)) ?_
      refine RO (Body.max rfl rfl) ?_
      refine RO (Body.add rfl rfl (by unfold R64; omega)) ?_
      refine ag rfl ?_
      refine RN ?_
      refine Aq rfl ?_
      refine PK.lp ?_
      first | rw [least_pos hI0.2.2 h5] | rw [least_zero hI0.2.2 h5]
      exact sb rfl rfl rfl
     ·
      replace h5 := of_decide_eq_false h5
      refine Au rfl ?_
      refine PK.lp ?_
      first | rw [least_pos hI0.2.2 h5] | rw [least_zero hI0.2.2 h5]
      exact sb rfl rfl rfl
     ·
      refine At rfl ?_
      refine NR ⟨[(1, vL eT l), (2, vL eI o), (3, .bref 4 0), (9, .bref 10 0), (11, vL eI r), (13, vI br), (15, vI ((k : Nat) : Int)), (16, vI (List.getD (Ch.order c) k 0)), (17, vI (leastF start l (Ch.order c) r k)), (94, vL eI (Ch.order c)), (95, vI ((List.length (Ch.order c) : Nat) : Int)), (96, vI ((k : Nat) : Int))], [(4, .box 24 [vI start, vL eI W]), (10, .box 53 [vL eI (Ch.order c), vI (Ch.bright c), vI (Ch.end_ c)])]⟩ (sb rfl rfl rfl) rfl ?_
      refine mv rfl ?_
      refine mv rfl ?_
      refine RO (Body.idx (z := 0) (i := k) rfl rfl un22 sz3 (fun _ => rfl) rfl (by omega)) ?_
      refine RO (Body.loadP rfl ag3 sz3) ?_
      refine mv rfl ?_
      refine RO (Body.lss rfl rfl) ?_
      refine mv rfl ?_
      refine RG.cons (EfR.sym rfl (fun hc => Body.move rfl) rfl) ?_
      refine RG.cons (EfR.sym rfl (fun hc => Body.move rfl) rfl) ?_
      refine RG.cons (EfR.sym rfl (fun hc => Body.idx (z := 0) (i := k) (ev1_gd rfl hc) (ev1_gd rfl hc) un22 sz3 (fun _ => rfl) rfl (by omega)) rfl) ?_
      refine RG.cons (EfR.sym rfl (fun hc => Body.loadP (ev1_gd rfl hc) ag3 sz3) rfl) ?_
      refine RG.cons (EfR.sym rfl (fun hc => Body.gtr (ev1_gd rfl hc) rfl) rfl) ?_
      refine RO (Body.pick rfl rfl rfl rfl (gdB rfl) (pick_or _)) ?_
      refine mv rfl ?_
      refine RG.cons (EfR.sym rfl (fun hc => Body.loadBA rfl rfl rfl ag24 sz24 rfl rfl) rfl) ?_
      refine RG.cons (EfR.sym rfl (fun hc => Body.move rfl) rfl) ?_
      refine RG.cons (EfR.sym rfl (fun hc => Body.move rfl) rfl) ?_
      refine RG.cons (EfR.sym rfl (fun hc => Body.idx (z := default) (i := (Int.toNat (List.getD (Ch.order c) k 0))) (ev1_gd rfl hc) (ev1_gd rfl hc) un25 sz46 (fun _ => rfl) (Int.toNat_of_nonneg (by omega)).symm (by omega)) rfl) ?_
      refine RG.cons (EfR.sym rfl (fun hc => Body.loadA (ds := [pS (Tgt.name (List.getD l (Int.toNat (List.getD (Ch.order c) k 0)) default)), pI (Tgt.bright (List.getD l (Int.toNat (List.getD (Ch.order c) k 0)) default)), pI (Tgt.place (List.getD l (Int.toNat (List.getD (Ch.order c) k 0)) default)), pI (Tgt.length (List.getD l (Int.toNat (List.getD (Ch.order c) k 0)) default)), pI (Tgt.from_ (List.getD l (Int.toNat (List.getD (Ch.order c) k 0)) default)), pI (Tgt.to (List.getD l (Int.toNat (List.getD (Ch.order c) k 0)) default)), pI (Tgt.limit (List.getD l (Int.toNat (List.getD (Ch.order c) k 0)) default))]) (ev1_gd rfl hc) ag46 sz46 (Nat.le_of_ble_eq_true rfl) rfl) rfl) ?_
      refine RG.cons (EfR.sym rfl (fun hc => Body.move rfl) rfl) ?_
      refine RG.cons (EfR.sym rfl (fun hc => Body.move rfl) rfl) ?_
      refine RG.cons (EfR.sym rfl (fun hc => Body.idx (z := 0) (i := k) (ev1_gd rfl hc) (ev1_gd rfl hc) un22 sz3 (fun _ => rfl) rfl (by omega)) rfl) ?_
      refine RG.cons (EfR.sym rfl (fun hc => Body.loadP (ev1_gd rfl hc) ag3 sz3) rfl) ?_
      refine RG.cons (EfR.sym rfl (fun hc => Body.call (w52 start W (List.getD l (Int.toNat (List.getD (Ch.order c) k 0)) default) (List.getD r k 0) hi.2.2 (by omega)) rfl (ds3 (ev1_gd rfl hc) (ev1_gd rfl hc) (ev1_gd rfl hc)) rfl) rfl) ?_
      refine RG.cons (EfR.sym rfl (fun hc => Body.not (ev1_gd rfl hc)) rfl) ?_
      refine RO (Body.pick rfl rfl rfl rfl (gdB rfl) (pick_or _)) ?_
      refine mv rfl ?_
      refine RG.cons (EfR.sym rfl (fun hc => Body.move rfl) rfl) ?_
      refine RG.cons (EfR.sym rfl (fun hc => Body.move rfl) rfl) ?_
      refine RG.cons (EfR.sym rfl (fun hc => Body.idx (z := 0) (i := k) (ev1_gd rfl hc) (ev1_gd rfl hc) un22 sz3 (fun _ => rfl) rfl (by omega)) rfl) ?_
      refine RG.cons (EfR.sym rfl (fun hc => Body.loadP (ev1_gd rfl hc) ag3 sz3) rfl) ?_
      refine RG.cons (EfR.sym rfl (fun hc => Body.move rfl) rfl) ?_
      refine RG.cons (EfR.sym rfl (fun hc => Body.gtr (ev1_gd rfl hc) (ev1_gd rfl hc)) rfl) ?_
      refine RG.cons (EfR.sym rfl (fun hc => Body.move (ev1_gd rfl hc)) rfl) ?_
      refine RG.cons (EfR.sym rfl (fun hc => Body.loadBA rfl rfl rfl ag24 sz24 rfl rfl) rfl) ?_
      refine RG.cons (EfR.sym rfl (fun hc => Body.move rfl) rfl) ?_
      refine RG.cons (EfR.sym rfl (fun hc => Body.move rfl) rfl) ?_
      refine RG.cons (EfR.sym rfl (fun hc => Body.idx (z := default) (i := (Int.toNat (List.getD (Ch.order c) k 0))) (ev1_gd rfl hc) (ev1_gd rfl hc) un25 sz46 (fun _ => rfl) (Int.toNat_of_nonneg (by omega)).symm (by omega)) rfl) ?_
      refine RG.cons (EfR.sym rfl (fun hc => Body.loadA (ds := [pS (Tgt.name (List.getD l (Int.toNat (List.getD (Ch.order c) k 0)) default)), pI (Tgt.bright (List.getD l (Int.toNat (List.getD (Ch.order c) k 0)) default)), pI (Tgt.place (List.getD l (Int.toNat (List.getD (Ch.order c) k 0)) default)), pI (Tgt.length (List.getD l (Int.toNat (List.getD (Ch.order c) k 0)) default)), pI (Tgt.from_ (List.getD l (Int.toNat (List.getD (Ch.order c) k 0)) default)), pI (Tgt.to (List.getD l (Int.toNat (List.getD (Ch.order c) k 0)) default)), pI (Tgt.limit (List.getD l (Int.toNat (List.getD (Ch.order c) k 0)) default))]) (ev1_gd rfl hc) ag46 sz46 (Nat.le_of_ble_eq_true rfl) rfl) rfl) ?_
      refine RG.cons (EfR.sym rfl (fun hc => Body.move rfl) rfl) ?_
      refine RG.cons (EfR.sym rfl (fun hc => Body.move rfl) rfl) ?_
      refine RG.cons (EfR.sym rfl (fun hc => Body.idx (z := 0) (i := k) (ev1_gd rfl hc) (ev1_gd rfl hc) un22 sz3 (fun _ => rfl) rfl (by omega)) rfl) ?_
      refine RG.cons (EfR.sym rfl (fun hc => Body.loadP (ev1_gd rfl hc) ag3 sz3) rfl) ?_
      refine RG.cons (EfR.sym rfl (fun hc => Body.sub (ev1_gd rfl hc) rfl (by unfold R64; omega)) rfl) ?_
      refine RG.cons (EfR.sym rfl (fun hc => Body.call (w52 start W (List.getD l (Int.toNat (List.getD (Ch.order c) k 0)) default) ((List.getD r k 0) - 1) hi.2.2 (by omega)) rfl (ds3 (ev1_gd rfl hc) (ev1_gd rfl hc) (ev1_gd rfl hc)) rfl) rfl) ?_
      refine RG.cons (EfR.sym rfl (fun hc => Body.pick (ev1_gd rfl hc) rfl rfl (gdB rfl) rfl (pick_and2 hc)) rfl) ?_
      refine RO (Body.pick rfl rfl rfl rfl (gdB rfl) (pick_or _)) ?_
      refine RG.nil (fun _ => by kernel_rfl) ?_
      refine Ap rfl ?_
      refine TK.norm ⟨[(1, vL eT l), (2, vL eI o), (3, .bref 4 0), (9, .bref 10 0), (11, vL eI r), (13, vI br), (15, vI ((k : Nat) : Int)), (16, vI (List.getD (Ch.order c) k 0)), (94, vL eI (Ch.order c)), (95, vI ((List.length (Ch.order c) : Nat) : Int)), (96, vI ((k : Nat) : Int)), (172, vB (bif (bif (bif (decide ((List.getD r k 0) < (leastF start l (Ch.order c) r k))) then true else (decide (1440 < (List.getD r k 0)))) then true else (!(canF W (List.getD l (Int.toNat (List.getD (Ch.order c) k 0)) default) (List.getD r k 0)))) then true else (bif (decide ((leastF start l (Ch.order c) r k) < (List.getD r k 0))) then (canF W (List.getD l (Int.toNat (List.getD (Ch.order c) k 0)) default) ((List.getD r k 0) - 1)) else false)))], [(4, .box 24 [vI start, vL eI W]), (10, .box 53 [vL eI (Ch.order c), vI (Ch.bright c), vI (Ch.end_ c)])]⟩ (sb rfl rfl rfl) ?_
      refine TK.cond rfl (fun h6 => ?_) (fun h6 => ?_)
      ·
       refine At rfl ?_
       refine NR ⟨[], []⟩ (sb rfl rfl rfl) rfl ?_
       refine ag rfl ?_
       refine RN ?_
       refine Ap rfl ?_
       refine TK.ret ?_
       refine PK.ret ?_
       refine leaf (val0 := vB false) (by kernel_rfl) ?_
       exact lb (by first
          | rfl
          | exact nb_leaf (hbest o r2 hg2 hr2)
          | exact absurd ((h6 : _ = true).symm.trans (nb6 hlo)) (by decide)
          | exact absurd (h2 : _ = true) (by simp [show chkOrdF ((List.length l : Nat) : Int) (Ch.order c) = 0 from ordGo_gd _ [] hg])
          | exact absurd (h3 : _ = true) (by simp [hrl])
          | exact absurd (h7 : _ = true) (by simp)
          | exact absurd (h9 : _ = true) (by simp; omega)
          | exact absurd (h11 : _ = true) (by simp [hrl2, hor]))
      ·
       refine At rfl ?_
       refine NR ⟨[(1, vL eT l), (2, vL eI o), (3, .bref 4 0), (9, .bref 10 0), (11, vL eI r), (13, vI br), (15, vI ((k : Nat) : Int)), (16, vI (List.getD (Ch.order c) k 0)), (94, vL eI (Ch.order c)), (95, vI ((List.length (Ch.order c) : Nat) : Int)), (96, vI ((k : Nat) : Int))], [(4, .box 24 [vI start, vL eI W]), (10, .box 53 [vL eI (Ch.order c), vI (Ch.bright c), vI (Ch.end_ c)])]⟩ (sb rfl rfl rfl) rfl ?_
       refine mv rfl ?_
       refine mv rfl ?_
       refine mv rfl ?_
       refine RO (Body.idx (z := default) (i := (Int.toNat (List.getD (Ch.order c) k 0))) rfl rfl un25 sz46 (fun _ => rfl) (Int.toNat_of_nonneg (by omega)).symm (by omega)) ?_
       refine RO (Body.fadP rfl fa46_1 rfl) ?_
       refine RO (Body.loadP rfl ag3 sz3) ?_
       refine RO (Body.add rfl rfl (by unfold R64; omega)) ?_
       refine mv rfl ?_
       refine mv rfl ?_
       refine RO (Body.idx (z := 0) (i := k) rfl rfl un22 sz3 (fun _ => rfl) rfl (by omega)) ?_
       refine RO (Body.loadP rfl ag3 sz3) ?_
       refine mv rfl ?_
       refine mv rfl ?_
       refine RO (Body.idx (z := default) (i := (Int.toNat (List.getD (Ch.order c) k 0))) rfl rfl un25 sz46 (fun _ => rfl) (Int.toNat_of_nonneg (by omega)).symm (by omega)) ?_
       refine RO (Body.fadP rfl fa46_3 rfl) ?_
       refine RO (Body.loadP rfl ag3 sz3) ?_
       refine RO (Body.add rfl rfl (by unfold R64; omega)) ?_
       refine ag rfl ?_
       refine ag rfl ?_
       refine RG.nil (fun _ => by kernel_rfl) ?_
       refine Ap rfl ?_
       refine NR ⟨[(1, vL eT l), (2, vL eI o), (3, .bref 4 0), (9, .bref 10 0), (11, vL eI r), (13, vI (br + (Tgt.bright (List.getD l (Int.toNat (List.getD (Ch.order c) k 0)) default)))), (14, vI ((List.getD r k 0) + (Tgt.length (List.getD l (Int.toNat (List.getD (Ch.order c) k 0)) default)))), (94, vL eI (Ch.order c)), (95, vI ((List.length (Ch.order c) : Nat) : Int)), (96, vI ((k : Nat) : Int))], [(4, .box 24 [vI start, vL eI W]), (10, .box 53 [vL eI (Ch.order c), vI (Ch.bright c), vI (Ch.end_ c)])]⟩ (sb rfl rfl rfl) rfl ?_
       refine RO (Body.add rfl rfl (by unfold R64; omega)) ?_
       refine mv rfl ?_
       refine RN ?_
       refine Aq rfl ?_
       refine PK.lp ?_
       refine LP.mk ((k + 1), (br + (Tgt.bright (List.getD l (Int.toNat (List.getD (Ch.order c) k 0)) default))), ((List.getD r k 0) + (Tgt.length (List.getD l (Int.toNat (List.getD (Ch.order c) k 0)) default)))) ?_ ?_ (sb rfl rfl rfl)
       · show (k + 1) ≤ List.length (Ch.order c) ∧ (br + (Tgt.bright (List.getD l (Int.toNat (List.getD (Ch.order c) k 0)) default))) = brightS l (List.take (k + 1) (Ch.order c)) ∧ ((List.getD r k 0) + (Tgt.length (List.getD l (Int.toNat (List.getD (Ch.order c) k 0)) default))) = endK start l (Ch.order c) r (k + 1)
         exact ⟨by omega, by rw [bright_take l (Ch.order c) k (by omega)]; omega, by unfold endK; rw [if_neg (by omega)]; rfl⟩
       · show List.length (Ch.order c) - (k + 1) < List.length (Ch.order c) - k
         omega
    ·
     refine At rfl ?_
     refine TK.exit ?_
     refine PK.exit rfl ?_
     refine Ap rfl ?_
     refine TK.norm ⟨[(1, vL eT l), (2, vL eI o), (3, .bref 4 0), (9, .bref 10 0), (13, vI br), (14, vI e)], [(4, .box 24 [vI start, vL eI W]), (10, .box 53 [vL eI (Ch.order c), vI (Ch.bright c), vI (Ch.end_ c)])]⟩ (sb rfl rfl rfl) ?_
     have hk1 : k = (Ch.order c).length := by omega
     have eb : br = Ch.bright c := by rw [hI0.2.1, hk1, List.take_of_length_le (by omega), hb]
     have een : e = Ch.end_ c := by rw [hI0.2.2, hk1, endK_all (by omega), he]
     rw [eb, een]
     refine TK.rg (Y := tab) mixed rfl ?_
     refine mv rfl ?_
     refine RO (Body.fadB rfl fa53_1 rfl) ?_
     refine RO (Body.loadB rfl rfl rfl ag3 sz3 rfl) ?_
     refine RO (Body.neq rfl rfl) ?_
     refine mv rfl ?_
     refine RG.cons (EfR.sym rfl (fun hc => Body.move rfl) rfl) ?_
     refine RG.cons (EfR.sym rfl (fun hc => Body.fadB rfl fa53_2 rfl) rfl) ?_
     refine RG.cons (EfR.sym rfl (fun hc => Body.loadB (ev1_gd rfl hc) rfl rfl ag3 sz3 rfl) rfl) ?_
     refine RG.cons (EfR.sym rfl (fun hc => Body.neq (ev1_gd rfl hc) (ev1_gd rfl hc)) rfl) ?_
     refine RO (Body.pick rfl rfl rfl rfl (gdB rfl) (pick_or _)) ?_
     refine RN ?_
     refine Ap rfl ?_
     refine TK.norm ⟨[(1, vL eT l), (2, vL eI o), (3, .bref 4 0), (9, .bref 10 0), (200, vB (bif (decide ((Ch.bright c) ≠ (Ch.bright c))) then true else (decide ((Ch.end_ c) ≠ (Ch.end_ c)))))], [(4, .box 24 [vI start, vL eI W]), (10, .box 53 [vL eI (Ch.order c), vI (Ch.bright c), vI (Ch.end_ c)])]⟩ (sb rfl rfl rfl) ?_
     refine TK.cond rfl (fun h7 => ?_) (fun h7 => ?_)
     ·
      refine At rfl ?_
      refine NR ⟨[], []⟩ (sb rfl rfl rfl) rfl ?_
      refine ag rfl ?_
      refine RN ?_
      refine Ap rfl ?_
      refine TK.ret ?_
      refine PK.ret ?_
      refine leaf (val0 := vB false) (by kernel_rfl) ?_
      exact lb (by first
          | rfl
          | exact nb_leaf (hbest o r2 hg2 hr2)
          | exact absurd ((h6 : _ = true).symm.trans (nb6 hlo)) (by decide)
          | exact absurd (h2 : _ = true) (by simp [show chkOrdF ((List.length l : Nat) : Int) (Ch.order c) = 0 from ordGo_gd _ [] hg])
          | exact absurd (h3 : _ = true) (by simp [hrl])
          | exact absurd (h7 : _ = true) (by simp)
          | exact absurd (h9 : _ = true) (by simp; omega)
          | exact absurd (h11 : _ = true) (by simp [hrl2, hor]))
     ·
      refine At rfl ?_
      refine NR ⟨[(1, vL eT l), (2, vL eI o), (3, .bref 4 0), (9, .bref 10 0)], [(4, .box 24 [vI start, vL eI W]), (10, .box 53 [vL eI (Ch.order c), vI (Ch.bright c), vI (Ch.end_ c)])]⟩ (sb rfl rfl rfl) rfl ?_
      refine mv rfl ?_
      refine RO (Body.lenL rfl un25) ?_
      refine RO (Body.gtr rfl rfl) ?_
      refine RN ?_
      refine Ap rfl ?_
      refine TK.norm ⟨[(1, vL eT l), (2, vL eI o), (3, .bref 4 0), (9, .bref 10 0), (203, vB (decide (0 < ((List.length l : Nat) : Int))))], [(4, .box 24 [vI start, vL eI W]), (10, .box 53 [vL eI (Ch.order c), vI (Ch.bright c), vI (Ch.end_ c)])]⟩ (sb rfl rfl rfl) ?_
      refine TK.condJ ⟨[(1, vL eT l), (2, vL eI o), (3, .bref 4 0), (9, .bref 10 0)], [(4, .box 24 [vI start, vL eI W]), (10, .box 53 [vL eI (Ch.order c), vI (Ch.bright c), vI (Ch.end_ c)])]⟩ rfl rfl (fun h8 => ?_) (fun h8 => ?_) ?_
      ·
       replace h8 := of_decide_eq_true h8
       refine At rfl ?_
       refine NR ⟨[(1, vL eT l), (2, vL eI o), (3, .bref 4 0), (9, .bref 10 0)], [(4, .box 24 [vI start, vL eI W]), (10, .box 53 [vL eI (Ch.order c), vI (Ch.bright c), vI (Ch.end_ c)])]⟩ (sb rfl rfl rfl) rfl ?_
       refine RO (Body.loadBA rfl rfl rfl ag24 sz24 rfl rfl) ?_
       refine mv rfl ?_
       refine mv rfl ?_
       refine RO (Body.lenL rfl un25) ?_
       refine RO (Body.sub rfl rfl (by unfold R64; omega)) ?_
       refine RO (Body.slT (j := (List.length l - 1)) rfl rfl un25 sz46 (by omega) (by omega)) ?_
       refine RO (Body.call (w32 start W (List.take (List.length l - 1) l) (by first | omega | (simp only [List.length_take]; omega))) rfl rfl rfl) ?_
       refine rn rfl ?_
       refine rn rfl ?_
       refine rn rfl ?_
       refine RO (Body.runZ rfl (fun l => Frz.boxN l rfl) rfl) ?_
       refine rn rfl ?_
       refine ag rfl ?_
       refine RG.nil (fun _ => by kernel_rfl) ?_
       refine Ap rfl ?_
       refine TK.norm ⟨[(1, vL eT l), (2, vL eI o), (3, .bref 4 0), (9, .bref 10 0), (19, .bref 20 0), (20, vI (badP start W (List.take (List.length l - 1) l)))], [(4, .box 24 [vI start, vL eI W]), (10, .box 53 [vL eI (Ch.order c), vI (Ch.bright c), vI (Ch.end_ c)]), (20, .box 53 [vL eI (Ch.order (planX start W (List.take (List.length l - 1) l))), vI (Ch.bright (planX start W (List.take (List.length l - 1) l))), vI (Ch.end_ (planX start W (List.take (List.length l - 1) l)))])]⟩ (sb rfl rfl rfl) ?_
       rw [hbt, planX_ok (fun e => e hbt)]
       refine TK.rg (Y := tab) mixed rfl ?_
       refine mv rfl ?_
       refine RO (Body.neq rfl rfl) ?_
       refine mv rfl ?_
       refine RG.cons (EfR.sym rfl (fun hc => Body.fadB rfl fa53_1 rfl) rfl) ?_
       refine RG.cons (EfR.sym rfl (fun hc => Body.loadB (ev1_gd rfl hc) rfl rfl ag3 sz3 rfl) rfl) ?_
       refine RG.cons (EfR.sym rfl (fun hc => Body.fadB rfl fa53_1 rfl) rfl) ?_
       refine RG.cons (EfR.sym rfl (fun hc => Body.loadB (ev1_gd rfl hc) rfl rfl ag3 sz3 rfl) rfl) ?_
       refine RG.cons (EfR.sym rfl (fun hc => Body.gtr (ev1_gd rfl hc) (ev1_gd rfl hc)) rfl) ?_
       refine RO (Body.pick rfl rfl rfl rfl (gdB rfl) (pick_or _)) ?_
       refine RN ?_
       refine Ap rfl ?_
       refine TK.norm ⟨[(1, vL eT l), (2, vL eI o), (3, .bref 4 0), (9, .bref 10 0), (222, vB (bif (decide (0 ≠ 0)) then true else (decide ((Ch.bright c) < (Ch.bright (planC start W (List.take (List.length l - 1) l)))))))], [(4, .box 24 [vI start, vL eI W]), (10, .box 53 [vL eI (Ch.order c), vI (Ch.bright c), vI (Ch.end_ c)])]⟩ (sb rfl rfl rfl) ?_
       refine TK.cond rfl (fun h9 => ?_) (fun h9 => ?_)
       ·
        refine At rfl ?_
        refine NR ⟨[], []⟩ (sb rfl rfl rfl) rfl ?_
        refine ag rfl ?_
        refine RN ?_
        refine Ap rfl ?_
        refine TK.ret ?_
        refine PK.ret ?_
        refine leaf (val0 := vB false) (by kernel_rfl) ?_
        exact lb (by first
          | rfl
          | exact nb_leaf (hbest o r2 hg2 hr2)
          | exact absurd ((h6 : _ = true).symm.trans (nb6 hlo)) (by decide)
          | exact absurd (h2 : _ = true) (by simp [show chkOrdF ((List.length l : Nat) : Int) (Ch.order c) = 0 from ordGo_gd _ [] hg])
          | exact absurd (h3 : _ = true) (by simp [hrl])
          | exact absurd (h7 : _ = true) (by simp)
          | exact absurd (h9 : _ = true) (by simp; omega)
          | exact absurd (h11 : _ = true) (by simp [hrl2, hor]))
       ·
        refine Au rfl ?_
        refine PK.lp ?_
        exact sb rfl rfl rfl
      ·
       replace h8 := of_decide_eq_false h8
       refine Au rfl ?_
       refine PK.lp ?_
       exact sb rfl rfl rfl
      ·
       refine At rfl ?_
       refine NR ⟨[(1, vL eT l), (2, vL eI o), (3, .bref 4 0), (9, .bref 10 0)], [(4, .box 24 [vI start, vL eI W]), (10, .box 53 [vL eI (Ch.order c), vI (Ch.bright c), vI (Ch.end_ c)])]⟩ (sb rfl rfl rfl) rfl ?_
       refine RO (Body.loadBA rfl rfl rfl ag24 sz24 rfl rfl) ?_
       refine mv rfl ?_
       refine mv rfl ?_
       refine RO (Body.call (w24 start W l o (by omega)) rfl rfl rfl) ?_
       refine rn rfl ?_
       refine rn rfl ?_
       refine rn rfl ?_
       refine ag rfl ?_
       refine ag rfl ?_
       refine RN ?_
       refine Ap rfl ?_
       refine NR ⟨[(1, vL eT l), (2, vL eI o), (3, .bref 4 0), (9, .bref 10 0), (21, vL eI (tlT start W l o)), (22, vI (tlE start W l o))], [(4, .box 24 [vI start, vL eI W]), (10, .box 53 [vL eI (Ch.order c), vI (Ch.bright c), vI (Ch.end_ c)])]⟩ (sb rfl rfl rfl) rfl ?_
       refine mv rfl ?_
       refine RO (Body.neq rfl rfl) ?_
       refine RN ?_
       refine Ap rfl ?_
       refine TK.norm ⟨[(1, vL eT l), (2, vL eI o), (3, .bref 4 0), (9, .bref 10 0), (21, vL eI (tlT start W l o)), (231, vB (decide ((tlE start W l o) ≠ 0)))], [(4, .box 24 [vI start, vL eI W]), (10, .box 53 [vL eI (Ch.order c), vI (Ch.bright c), vI (Ch.end_ c)])]⟩ (sb rfl rfl rfl) ?_
       refine TK.condP rfl (fun h10 => ?_) (fun h10 => ?_)
       ·
        refine At rfl ?_
        refine NR ⟨[], []⟩ (sb rfl rfl rfl) rfl ?_
        refine RO (Body.call (ha) rfl rfl rfl) ?_
        refine ag rfl ?_
        refine RN ?_
        refine Ap rfl ?_
        refine TK.ret ?_
        refine PK.ret ?_
        refine leaf (val0 := vB true) (by kernel_rfl) ?_
        exact rfl
       ·
        refine At rfl ?_
        refine TK.norm ⟨[(1, vL eT l), (2, vL eI o), (3, .bref 4 0), (9, .bref 10 0), (21, vL eI (tlT start W l o))], [(4, .box 24 [vI start, vL eI W]), (10, .box 53 [vL eI (Ch.order c), vI (Ch.bright c), vI (Ch.end_ c)])]⟩ (sb rfl rfl rfl) ?_
        obtain ⟨hor, r2, hr2, et2⟩ := tlE_zero (Decidable.not_not.1 h10)
        have hg2 := ord_gd hor
        have hv2 := gd_VI hp.2 hg2
        have hrl2 := tlGo_len hr2
        have hol2 := gd_len hg2
        rw [et2]
        refine TK.rg (Y := tab) mixed rfl ?_
        refine mv rfl ?_
        refine RO (Body.lenL rfl un22) ?_
        refine mv rfl ?_
        refine RO (Body.lenL rfl un22) ?_
        refine RO (Body.neq rfl rfl) ?_
        refine mv rfl ?_
        refine RG.cons (EfR.sym rfl (fun hc => Body.move rfl) rfl) ?_
        refine RG.cons (EfR.sym rfl (fun hc => Body.lenL (ev1_gd rfl hc) un25) rfl) ?_
        refine RG.cons (EfR.sym rfl (fun hc => Body.move rfl) rfl) ?_
        refine RG.cons (EfR.sym rfl (fun hc => Body.call (w26 ((List.length l : Nat) : Int) o (by first | omega | exact Nat.le_trans (planX_len _ _ _) (by omega)) (by omega)) rfl (ds2 (ev1_gd rfl hc) (ev1_gd rfl hc)) rfl) rfl) ?_
        refine RG.cons (EfR.sym rfl (fun hc => Body.neq (ev1_gd rfl hc) rfl) rfl) ?_
        refine RO (Body.pick rfl rfl rfl rfl (gdB rfl) (pick_or _)) ?_
        refine RN ?_
        refine Ap rfl ?_
        refine TK.norm ⟨[(1, vL eT l), (2, vL eI o), (3, .bref 4 0), (9, .bref 10 0), (21, vL eI r2), (244, vB (bif (decide (((List.length r2 : Nat) : Int) ≠ ((List.length o : Nat) : Int))) then true else (decide ((chkOrdF ((List.length l : Nat) : Int) o) ≠ 0))))], [(4, .box 24 [vI start, vL eI W]), (10, .box 53 [vL eI (Ch.order c), vI (Ch.bright c), vI (Ch.end_ c)])]⟩ (sb rfl rfl rfl) ?_
        refine TK.cond rfl (fun h11 => ?_) (fun h11 => ?_)
        ·
         refine At rfl ?_
         refine NR ⟨[], []⟩ (sb rfl rfl rfl) rfl ?_
         refine ag rfl ?_
         refine RN ?_
         refine Ap rfl ?_
         refine TK.ret ?_
         refine PK.ret ?_
         refine leaf (val0 := vB false) (by kernel_rfl) ?_
         exact lb (by first
          | rfl
          | exact nb_leaf (hbest o r2 hg2 hr2)
          | exact absurd ((h6 : _ = true).symm.trans (nb6 hlo)) (by decide)
          | exact absurd (h2 : _ = true) (by simp [show chkOrdF ((List.length l : Nat) : Int) (Ch.order c) = 0 from ordGo_gd _ [] hg])
          | exact absurd (h3 : _ = true) (by simp [hrl])
          | exact absurd (h7 : _ = true) (by simp)
          | exact absurd (h9 : _ = true) (by simp; omega)
          | exact absurd (h11 : _ = true) (by simp [hrl2, hor]))
        ·
         refine At rfl ?_
         refine NR ⟨[(1, vL eT l), (2, vL eI o), (3, .bref 4 0), (9, .bref 10 0), (21, vL eI r2)], [(4, .box 24 [vI start, vL eI W]), (10, .box 53 [vL eI (Ch.order c), vI (Ch.bright c), vI (Ch.end_ c)])]⟩ (sb rfl rfl rfl) rfl ?_
         refine RO (Body.fadB rfl fa24_0 rfl) ?_
         refine RO (Body.loadB rfl rfl rfl ag3 sz3 rfl) ?_
         refine ag rfl ?_
         refine ag rfl ?_
         refine RG.nil (fun _ => by kernel_rfl) ?_
         refine Ap rfl ?_
         refine NR ⟨[(1, vL eT l), (2, vL eI o), (9, .bref 10 0), (21, vL eI r2), (23, vI 0), (24, vI start)], [(10, .box 53 [vL eI (Ch.order c), vI (Ch.bright c), vI (Ch.end_ c)])]⟩ (sb rfl rfl rfl) rfl ?_
         refine mv rfl ?_
         refine RO (Body.lenL rfl un22) ?_
         refine mv rfl ?_
         refine RN ?_
         refine Ap rfl ?_
         refine TK.loop (α := Nat × Int × Int) (fun x => ⟨[(1, vL eT l), (9, .bref 10 0), (21, vL eI r2), (23, vI x.2.1), (24, vI x.2.2), (247, vL eI o), (248, vI ((List.length o : Nat) : Int)), (249, vI ((x.1 : Nat) : Int))], [(10, .box 53 [vL eI (Ch.order c), vI (Ch.bright c), vI (Ch.end_ c)])]⟩) (fun x => x.1 ≤ List.length o ∧ x.2.1 = brightS l (List.take x.1 o) ∧ x.2.2 = endK start l o r2 x.1) (fun x => List.length o - x.1) (0, 0, start) ?_ (sb rfl rfl rfl) ?_
         · show 0 ≤ List.length o ∧ 0 = brightS l (List.take 0 o) ∧ start = endK start l o r2 0
           exact ⟨Nat.zero_le _, rfl, rfl⟩
         rintro ⟨k, br, e⟩ hI1
         replace hI1 : k ≤ List.length o ∧ br = brightS l (List.take k o) ∧ e = endK start l o r2 k := hI1
         show TK _ _ _ _ _ _ ⟨[(1, vL eT l), (9, .bref 10 0), (21, vL eI r2), (23, vI br), (24, vI e), (247, vL eI o), (248, vI ((List.length o : Nat) : Int)), (249, vI ((k : Nat) : Int))], [(10, .box 53 [vL eI (Ch.order c), vI (Ch.bright c), vI (Ch.end_ c)])]⟩
         refine At rfl ?_
         refine NR ⟨[(1, vL eT l), (9, .bref 10 0), (21, vL eI r2), (23, vI br), (24, vI e), (247, vL eI o), (248, vI ((List.length o : Nat) : Int)), (249, vI ((k : Nat) : Int))], [(10, .box 53 [vL eI (Ch.order c), vI (Ch.bright c), vI (Ch.end_ c)])]⟩ (sb rfl rfl rfl) rfl ?_
         refine RO (Body.lss rfl rfl) ?_
         refine RN ?_
         refine Ap rfl ?_
         refine TK.norm ⟨[(1, vL eT l), (9, .bref 10 0), (21, vL eI r2), (23, vI br), (24, vI e), (247, vL eI o), (248, vI ((List.length o : Nat) : Int)), (249, vI ((k : Nat) : Int)), (250, vB (decide (((k : Nat) : Int) < ((List.length o : Nat) : Int))))], [(10, .box 53 [vL eI (Ch.order c), vI (Ch.bright c), vI (Ch.end_ c)])]⟩ (sb rfl rfl rfl) ?_
         refine TK.condP rfl (fun h12 => ?_) (fun h12 => ?_)
         ·
          refine At rfl ?_
          refine NR ⟨[(1, vL eT l), (9, .bref 10 0), (21, vL eI r2), (23, vI br), (247, vL eI o), (248, vI ((List.length o : Nat) : Int)), (249, vI ((k : Nat) : Int))], [(10, .box 53 [vL eI (Ch.order c), vI (Ch.bright c), vI (Ch.end_ c)])]⟩ (sb rfl rfl rfl) rfl ?_
          refine mv rfl ?_
          refine RO (Body.idx (z := 0) (i := k) rfl rfl un22 sz3 (fun _ => rfl) rfl (by omega)) ?_
          refine RO (Body.loadP rfl ag3 sz3) ?_
          refine ag rfl ?_
          refine ag rfl ?_
          refine RN ?_
          refine Ap rfl ?_
          refine TK.norm ⟨[(1, vL eT l), (9, .bref 10 0), (21, vL eI r2), (23, vI br), (25, vI ((k : Nat) : Int)), (26, vI (List.getD o k 0)), (247, vL eI o), (248, vI ((List.length o : Nat) : Int)), (249, vI ((k : Nat) : Int))], [(10, .box 53 [vL eI (Ch.order c), vI (Ch.bright c), vI (Ch.end_ c)])]⟩ (sb rfl rfl rfl) ?_
          have hi := hv2 k (by omega)
          have hk := tl_rng hr2 (k := k) (by omega)
          have hbr := bright_rng (l := l) hp.2 (o := o.take k) (fun i hi => hg2.2 i (List.mem_of_mem_take hi))
          rw [List.length_take] at hbr
          refine TK.rg (Y := tab) mixed rfl ?_
          refine mv rfl ?_
          refine mv rfl ?_
          refine mv rfl ?_
          refine RO (Body.idx (z := default) (i := (Int.toNat (List.getD o k 0))) rfl rfl un25 sz46 (fun _ => rfl) (Int.toNat_of_nonneg (by omega)).symm (by omega)) ?_
          refine RO (Body.fadP rfl fa46_1 rfl) ?_
          refine RO (Body.loadP rfl ag3 sz3) ?_
          refine RO (Body.add rfl rfl (by unfold R64; omega)) ?_
          refine mv rfl ?_
          refine mv rfl ?_
          refine RO (Body.idx (z := 0) (i := k) rfl rfl un22 sz3 (fun _ => rfl) rfl (by omega)) ?_
          refine RO (Body.loadP rfl ag3 sz3) ?_
          refine mv rfl ?_
          refine mv rfl ?_
          refine RO (Body.idx (z := default) (i := (Int.toNat (List.getD o k 0))) rfl rfl un25 sz46 (fun _ => rfl) (Int.toNat_of_nonneg (by omega)).symm (by omega)) ?_
          refine RO (Body.fadP rfl fa46_3 rfl) ?_
          refine RO (Body.loadP rfl ag3 sz3) ?_
          refine RO (Body.add rfl rfl (by unfold R64; omega)) ?_
          refine ag rfl ?_
          refine ag rfl ?_
          refine RG.nil (fun _ => by kernel_rfl) ?_
          refine Ap rfl ?_
          refine NR ⟨[(1, vL eT l), (9, .bref 10 0), (21, vL eI r2), (23, vI (br + (Tgt.bright (List.getD l (Int.toNat (List.getD o k 0)) default)))), (24, vI ((List.getD r2 k 0) + (Tgt.length (List.getD l (Int.toNat (List.getD o k 0)) default)))), (247, vL eI o), (248, vI ((List.length o : Nat) : Int)), (249, vI ((k : Nat) : Int))], [(10, .box 53 [vL eI (Ch.order c), vI (Ch.bright c), vI (Ch.end_ c)])]⟩ (sb rfl rfl rfl) rfl ?_
          refine RO (Body.add rfl rfl (by unfold R64; omega)) ?_
          refine mv rfl ?_
          refine RN ?_
          refine Aq rfl ?_
          refine PK.lp ?_
          refine LP.mk ((k + 1), (br + (Tgt.bright (List.getD l (Int.toNat (List.getD o k 0)) default))), ((List.getD r2 k 0) + (Tgt.length (List.getD l (Int.toNat (List.getD o k 0)) default)))) ?_ ?_ (sb rfl rfl rfl)
          · show (k + 1) ≤ List.length o ∧ (br + (Tgt.bright (List.getD l (Int.toNat (List.getD o k 0)) default))) = brightS l (List.take (k + 1) o) ∧ ((List.getD r2 k 0) + (Tgt.length (List.getD l (Int.toNat (List.getD o k 0)) default))) = endK start l o r2 (k + 1)
            exact ⟨by omega, by rw [bright_take l o k (by omega)]; omega, by unfold endK; rw [if_neg (by omega)]; rfl⟩
          · show List.length o - (k + 1) < List.length o - k
            omega
         ·
          refine At rfl ?_
          refine TK.exit ?_
          refine PK.exit rfl ?_
          refine Ap rfl ?_
          refine TK.norm ⟨[(9, .bref 10 0), (23, vI br), (24, vI e)], [(10, .box 53 [vL eI (Ch.order c), vI (Ch.bright c), vI (Ch.end_ c)])]⟩ (sb rfl rfl rfl) ?_
          have hk1 : k = o.length := by omega
          have eb : br = brightS l o := by rw [hI1.2.1, hk1, List.take_of_length_le (by omega)]
          have een : e = endF start l o (lastD r2) := by rw [hI1.2.2, hk1, endK_all (by omega)]
          rw [eb, een]
          refine TK.rg (Y := tab) mixed rfl ?_
          refine mv rfl ?_
          refine RO (Body.fadB rfl fa53_1 rfl) ?_
          refine RO (Body.loadB rfl rfl rfl ag3 sz3 rfl) ?_
          refine RO (Body.lss rfl rfl) ?_
          refine mv rfl ?_
          refine RG.cons (EfR.sym rfl (fun hc => Body.move rfl) rfl) ?_
          refine RG.cons (EfR.sym rfl (fun hc => Body.fadB rfl fa53_1 rfl) rfl) ?_
          refine RG.cons (EfR.sym rfl (fun hc => Body.loadB (ev1_gd rfl hc) rfl rfl ag3 sz3 rfl) rfl) ?_
          refine RG.cons (EfR.sym rfl (fun hc => Body.eql (ev1_gd rfl hc) (ev1_gd rfl hc)) rfl) ?_
          refine RG.cons (EfR.sym rfl (fun hc => Body.move (ev1_gd rfl hc)) rfl) ?_
          refine RG.cons (EfR.sym rfl (fun hc => Body.move rfl) rfl) ?_
          refine RG.cons (EfR.sym rfl (fun hc => Body.fadB rfl fa53_2 rfl) rfl) ?_
          refine RG.cons (EfR.sym rfl (fun hc => Body.loadB (ev1_gd rfl hc) rfl rfl ag3 sz3 rfl) rfl) ?_
          refine RG.cons (EfR.sym rfl (fun hc => Body.geq (ev1_gd rfl hc) (ev1_gd rfl hc)) rfl) ?_
          refine RG.cons (EfR.sym rfl (fun hc => Body.pick (ev1_gd rfl hc) rfl rfl (gdB rfl) rfl (pick_and2 hc)) rfl) ?_
          refine RO (Body.pick rfl rfl rfl rfl (gdB rfl) (pick_or _)) ?_
          refine mv rfl ?_
          refine RG.cons (EfR.sym rfl (fun hc => Body.call (ha) rfl rfl rfl) rfl) ?_
          refine RO (Body.pick rfl rfl rfl (gdB rfl) rfl (pick_and _)) ?_
          refine ag rfl ?_
          refine RN ?_
          refine Ap rfl ?_
          refine TK.ret ?_
          refine PK.ret ?_
          refine leaf (val0 := vB (bif (bif (decide ((brightS l o) < (Ch.bright c))) then true else (bif (decide ((brightS l o) = (Ch.bright c))) then (decide ((Ch.end_ c) ≤ (endF start l o (lastD r2)))) else false)) then true else false)) (by kernel_rfl) ?_
          exact lb (by first
          | rfl
          | exact nb_leaf (hbest o r2 hg2 hr2)
          | exact absurd ((h6 : _ = true).symm.trans (nb6 hlo)) (by decide)
          | exact absurd (h2 : _ = true) (by simp [show chkOrdF ((List.length l : Nat) : Int) (Ch.order c) = 0 from ordGo_gd _ [] hg])
          | exact absurd (h3 : _ = true) (by simp [hrl])
          | exact absurd (h7 : _ = true) (by simp)
          | exact absurd (h9 : _ = true) (by simp; omega)
          | exact absurd (h11 : _ = true) (by simp [hrl2, hor]))
end Go.Lens.Tb
end
section
namespace Go.Lens.Tb
open Go.Proofs Go.Proofs.YtomghboflcafbaaGreatDoor Go.RowKit Go.ChangeShapes
set_option linter.unusedSectionVars false
set_option maxRecDepth 100000
theorem gPow : Tryz.prog.globalNamed "internal/strconv.uint64pow10" = some 3 := by kernel_rfl
theorem tPow : (Tryz.prog.globals[3]?).map (·.type) = some 434 := by kernel_rfl
theorem plainLaid : (Rows.nightBestRow.laid.all fun x => x.2.handleName?.isNone) = true := by kernel_rfl
theorem powDatum : (Rows.laid_internal_strconv_uint64pow10 : DataW Unit) = Lib.tabData .u64 Lib.pow10Tab := by kernel_rfl
theorem pow_of {W : World} (h : laidMetH Tryz.prog Rows.nightBestRow.laid W) : ∃ T fr, W.heap[3]? = some (.cells (Lib.pow10Tab.map fun z => Value.int .u64 z).toArray T fr) := by
  rw [MakeChecks.laidMetH_plain _ _ _ plainLaid] at h
  obtain ⟨ps, ⟨g0, t0, cs0, f0, p0, q0, _, _, _, _, ⟨g1, t1, cs1, f1, p1, q1, _, _, _, _, ⟨g2, t2, cs2, f2, p2, q2, hg, ht, hv, hd, _, _⟩, _⟩, _⟩, _, _⟩ := h
  obtain rfl := Option.some.inj (gPow.symm.trans hg)
  obtain rfl := Option.some.inj (tPow.symm.trans ht)
  have hd' : DataW.trod (fun _ => ()) Tryz.prog W 0 (fun _ => true) false f2 434 cs2.toList = some (Rows.laid_internal_strconv_uint64pow10, p2) := hd
  rw [powDatum] at hd'
  have hc := Lib.cells_of_tab Tryz.underlying434 Tryz.underlying406 (by kernel_rfl) (by kernel_rfl) hd'
  have hv' : (Tryz.prog.globalNamed "internal/strconv.uint64pow10").bind (fun g => match W.heap[g]? with | some (.cells cs _ _) => some cs | _ => none) = some cs2 := hv
  rw [gPow] at hv'
  simp only [Option.bind_some] at hv'
  split at hv'
  · rename_i cs T fr hb
    cases hv'
    refine ⟨T, fr, ?_⟩
    rw [hb, ← hc, Array.toArray_toList]
  · cases hv'
@[reducible] def lzOf (W : World) : Lz := ⟨fun b => if b = 3 then W.heap[3]? else none⟩
theorem lzOf_laid (W : World) : ∀ b o, (lzOf W).L b = some o → W.heap[b]? = some o := by
  intro b o h
  change (if b = 3 then W.heap[3]? else none) = some o at h
  split at h
  · rename_i e; subst e; exact h
  · cases h
theorem powLaid_of {W : World} (h : laidMetH Tryz.prog Rows.nightBestRow.laid W) : @PowLaid (lzOf W) := by
  obtain ⟨T, fr, hb⟩ := pow_of h
  exact ⟨3, T, fr, gPow, hb⟩
section
variable {H : Type} {enc : TypeId × Value → H} {w : World} {base : Nat} {spare : Nat → Bool} {held : Bool}
theorem read_ints {fuel : Nat} {cs : List Value} {x : DataW H × List MemPlace} (h : DataW.trod enc Tryz.prog w base spare held fuel 22 cs = some x) :
    ∃ (l : List Int) (v : Value), cs = [v] ∧ RelPV (gh0.rd w) (.slice (l.map eI)) v ∧ ((l = [] ∧ x.1 = .nil) ∨ ∃ es rest, x.1 = .slice es rest ∧ es.length = l.length) :=
  read_slice (encE := eI) (vals := fun n => [.int .i64 n]) Tryz.underlying22 (show Tryz.prog.cellsOf 3 = 1 by kernel_rfl) (by omega)
    (fun n c y hy => by obtain ⟨m, e, _⟩ := DataW.trod_int Tryz.underlying3 hy; exact ⟨m, e⟩) (fun _ => rfl) (fun _ => rfl)
    (fun a b off hc => relCells_lits (vs := [.int .i64 a]) (by simp [isLit]) hc) h
theorem read_tgt {n : Nat} {c : List Value} {y : DataW H × List MemPlace} (h : DataW.trod enc Tryz.prog w base spare held n 46 c = some y) :
    ∃ t : Tgt, c = [.string t.name, .int .i64 t.bright, .int .i64 t.place, .int .i64 t.length, .int .i64 t.from_, .int .i64 t.to, .int .i64 t.limit] := by
  obtain ⟨xs, m, rfl, rfl, hl, hx, hf⟩ := DataW.trod_struct Tryz.underlying46 h
  have hl7 : c.length = 7 := hl.trans (by kernel_rfl)
  have hx7 : xs.length = 7 := hx
  match c, hl7, xs, hx7, hf with
  | [c0, c1, c2, c3', c4, c5, c6], _, [x0, x1, x2, x3, x4, x5, x6], _, hf =>
    have f0 := hf 0 _ rfl
    have f1 := hf 1 _ rfl
    have f2 := hf 2 _ rfl
    have f3 := hf 3 _ rfl
    have f4 := hf 4 _ rfl
    have f5 := hf 5 _ rfl
    have f6 := hf 6 _ rfl
    obtain ⟨s, e0, _⟩ := DataW.trod_string Tryz.underlying9 f0
    obtain ⟨n1, e1, _⟩ := DataW.trod_int Tryz.underlying3 f1
    obtain ⟨n2, e2, _⟩ := DataW.trod_int Tryz.underlying3 f2
    obtain ⟨n3, e3, _⟩ := DataW.trod_int Tryz.underlying3 f3
    obtain ⟨n4, e4, _⟩ := DataW.trod_int Tryz.underlying3 f4
    obtain ⟨n5, e5, _⟩ := DataW.trod_int Tryz.underlying3 f5
    obtain ⟨n6, e6, _⟩ := DataW.trod_int Tryz.underlying3 f6
    cases e0; cases e1; cases e2; cases e3; cases e4; cases e5; cases e6
    exact ⟨⟨s, n1, n2, n3, n4, n5, n6⟩, rfl⟩
theorem read_tgts {fuel : Nat} {cs : List Value} {x : DataW H × List MemPlace} (h : DataW.trod enc Tryz.prog w base spare held fuel 25 cs = some x) :
    ∃ (l : List Tgt) (v : Value), cs = [v] ∧ RelPV (gh0.rd w) (.slice (l.map eT)) v ∧ ((l = [] ∧ x.1 = .nil) ∨ ∃ es rest, x.1 = .slice es rest ∧ es.length = l.length) :=
  read_slice (encE := eT) (vals := fun t => [.string t.name, .int .i64 t.bright, .int .i64 t.place, .int .i64 t.length, .int .i64 t.from_, .int .i64 t.to, .int .i64 t.limit]) Tryz.underlying25 (show Tryz.prog.cellsOf 46 = 7 by kernel_rfl) (by omega)
    (fun n c y hy => read_tgt hy) (fun _ => rfl) (fun _ => rfl)
    (fun a b off hc => relCells_lits (vs := [.string a.name, .int .i64 a.bright, .int .i64 a.place, .int .i64 a.length, .int .i64 a.from_, .int .i64 a.to, .int .i64 a.limit]) (by simp [isLit]) hc) h
theorem read_night {n : Nat} {c : List Value} {y : DataW H × List MemPlace} (h : DataW.trod enc Tryz.prog w base spare held n 24 c = some y) :
    ∃ (start : Int) (W : List Int) (v : Value), c = [.int .i64 start, v] ∧ RelPV (gh0.rd w) (.slice (W.map eI)) v := by
  obtain ⟨xs, m, rfl, rfl, hl, hx, hf⟩ := DataW.trod_struct Tryz.underlying24 h
  have hl2 : c.length = 2 := hl.trans (by kernel_rfl)
  have hx2 : xs.length = 2 := hx
  match c, hl2, xs, hx2, hf with
  | [c0, c1], _, [x0, x1], _, hf =>
    have f0 := hf 0 _ rfl
    have f1 := hf 1 _ rfl
    obtain ⟨n0, e0, _⟩ := DataW.trod_int Tryz.underlying3 f0
    obtain ⟨l, v, e1, hr, _⟩ := read_ints f1
    cases e0; cases e1
    exact ⟨n0, l, _, rfl, hr⟩
end
end Go.Lens.Tb
end
