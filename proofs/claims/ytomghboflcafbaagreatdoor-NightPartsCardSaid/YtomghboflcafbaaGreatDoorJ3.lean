/- A part of the proof that NightPartsCardSaid holds, without conditions. -/
import Derived.Test.YtomghboflcafbaaGreatDoorJ2
import Derived.Test.YtomghboflcafbaaGreatDoorS4
import Derived.Test.YtomghboflcafbaaGreatDoorS10
import Derived.Stop.LaidErr
import Derived.Stop.ErrReads
import Derived.Test.YtomghboflcafbaaGreatDoorRows
import Derived.MakeChecks
import Derived.Lib.LaidTab
import Derived.LaidLaws
import Derived.Stop.Joined
import Derived.RowKit
set_option linter.unusedVariables false
set_option linter.unusedSimpArgs false
section
namespace Go.Lens.Tm
open Go.Lens.Tb Go.Proofs
variable [Lz]
set_option linter.unusedSectionVars false
set_option maxHeartbeats 4000000
set_option maxRecDepth 100000
attribute [local irreducible] TK PK T RG EfR Body
theorem w64 (l : List Cmd) (d : Nat) (hw : Wf d l) (hc : ∀ c ∈ l, chkC c = 0) (hl : l.length ≤ 64) (hd : d ≤ 4)
 (hrec : ∀ (b : List Cmd) (d1 : Nat), b.length < l.length → Wf d1 b → (∀ c ∈ b, chkC c = 0) → d1 ≤ 4 → CallOk Tryz.prog 64 [vL eC b] (lookM []) (vL eC (unrP b)) []) : CallOk Tryz.prog 64 [vL eC l] (lookM []) (vL eC (unrP l)) [] := by
 refine cO qf64 rfl (nB rfl) rfl ?_
 have hsl := wf_small hw hd hc hl
 have hul := (wf_unr_len hw hc).1
 refine na ⟨[(0, vL eC l)], []⟩ rfl rfl rfl rfl rfl ?_
 refine RO (B.nilS (enc := eC) rfl) ?_
 refine zn ⟨[(0, vL eC l)], []⟩ rfl rfl rfl rfl rfl ?_
 refine RO (B.adopt 4 3 115 rfl rfl) ?_
 refine zn ⟨[(0, vL eC l), (3, .aref 4 0)], [(4, .arr 0 3 115 (List.map eC []))]⟩ rfl rfl rfl rfl rfl ?_
 refine ag rfl ?_
 refine ra rfl ?_
 refine TK.loop (α := Nat × Nat × List Cmd) (fun x => ⟨[(0, vL eC l), (3, .aref 4 x.2.1), (4, vI ((x.1 : Nat) : Int))], [(4, .arr x.2.1 3 115 (List.map eC x.2.2))]⟩) (fun x => x.1 ≤ l.length ∧ Wf d (List.drop x.1 l) ∧ x.2.2 ++ unrP (List.drop x.1 l) = unrP l) (fun x => l.length - x.1) (0, 0, []) ?_ (sb rfl rfl rfl) ?_
 · show 0 ≤ l.length ∧ Wf d (List.drop 0 l) ∧ [] ++ unrP (List.drop 0 l) = unrP l
   exact ⟨Nat.zero_le _, hw, rfl⟩
 rintro ⟨i, v, out⟩ hI0
 replace hI0 : i ≤ l.length ∧ Wf d (List.drop i l) ∧ out ++ unrP (List.drop i l) = unrP l := hI0
 have hol : out.length ≤ (unrP l).length := by rw [← hI0.2.2, List.length_append]; omega
 show TK _ _ _ _ _ _ ⟨[(0, vL eC l), (3, .aref 4 v), (4, vI i)], [(4, .arr v 3 115 (List.map eC out))]⟩
 refine na ⟨[(0, vL eC l), (3, .aref 4 v), (4, vI i)], [(4, .arr v 3 115 (List.map eC out))]⟩ rfl rfl rfl rfl rfl ?_
 refine mv rfl ?_
 refine mv rfl ?_
 refine RO (B.lenL rfl un83) ?_
 refine RO (B.lss rfl rfl) ?_
 refine tz ⟨[(0, vL eC l), (3, .aref 4 v), (4, vI i), (11, vB (decide ((i : Int) < (l.length : Int))))], [(4, .arr v 3 115 (List.map eC out))]⟩ rfl rfl rfl rfl ?_
 refine TK.condP rfl (fun h1 => ?_) (fun h1 => ?_)
 ·
  refine na ⟨[(0, vL eC l), (3, .aref 4 v), (4, vI i)], [(4, .arr v 3 115 (List.map eC out))]⟩ rfl rfl rfl rfl rfl ?_
  refine mv rfl ?_
  refine mv rfl ?_
  refine RO (B.idx (z := z3) (i := i) rfl rfl un83 sz115 (fun _ => rfl) rfl (by omega)) ?_
  refine RO (B.fadP rfl fa115_0 rfl) ?_
  refine RO (B.loadP rfl ag9 sz9) ?_
  refine RO (B.sneB (a := (List.getD l i z3).1) (b := [114, 101, 112, 101, 97, 116]) rfl rfl) ?_
  refine tz ⟨[(0, vL eC l), (3, .aref 4 v), (4, vI i), (19, vB (decide ((List.getD l i z3).1 ≠ [114, 101, 112, 101, 97, 116])))], [(4, .arr v 3 115 (List.map eC out))]⟩ rfl rfl rfl rfl ?_
  refine TK.condP rfl (fun h2 => ?_) (fun h2 => ?_)
  ·
   refine na ⟨[(0, vL eC l), (3, .aref 4 v), (4, vI i)], [(4, .arr v 3 115 (List.map eC out))]⟩ rfl rfl rfl rfl rfl ?_
   refine rn rfl ?_
   refine mv rfl ?_
   refine mv rfl ?_
   refine RO (B.idx (z := z3) (i := i) rfl rfl un83 sz115 (fun _ => rfl) rfl (by omega)) ?_
   refine RO (B.loadA (ds := [pS (bsO (List.getD l i z3).1), pS (bsO (List.getD l i z3).2.1), pI (List.getD l i z3).2.2]) rfl ag115 sz115 (nB rfl) rfl) ?_
   refine RO (B.runZ (val := .pv (.slice (List.map eC [(List.getD l i z3)]))) rfl (fun l => Frz.arr l _ _ _ _ _) rfl) ?_
   refine RO (B.append rfl rfl rfl un83 in115 rfl (fun _ => rfl) by115 (by (simp only [List.length_append, List.length_cons, List.length_nil]; omega))) ?_
   refine rn rfl ?_
   refine ra rfl ?_
   refine TK.exit ?_
   refine PK.exit rfl ?_
   refine Ap rfl ?_
   refine nr ⟨[(0, vL eC l), (3, .aref 4 (v + 1)), (4, vI i)], [(4, .arr (v + 1) 3 115 (List.map eC (out ++ [(List.getD l i z3)])))]⟩ rfl rfl rfl rfl ?_
   refine mv rfl ?_
   refine RO (B.add rfl rfl (by unfold R64; omega)) ?_
   refine ag rfl ?_
   refine RN ?_
   refine Aq rfl ?_
   refine PK.lp ?_
   refine LP.mk ((i + 1), (v + 1), (out ++ [(List.getD l i z3)])) ?_ ?_ (sb rfl rfl rfl)
   · show (i + 1) ≤ l.length ∧ Wf d (List.drop (i + 1) l) ∧ (out ++ [(List.getD l i z3)]) ++ unrP (List.drop (i + 1) l) = unrP l
     exact ⟨by omega, (wf_next hI0.2.1 (by omega) h2).2.1, by rw [← hI0.2.2, wf_next_unr hI0.2.1 (by omega) h2]; simp⟩
   · show l.length - (i + 1) < l.length - i
     omega
  ·
   refine na ⟨[(0, vL eC l), (3, .aref 4 v), (4, vI i)], [(4, .arr v 3 115 (List.map eC out))]⟩ rfl rfl rfl rfl rfl ?_
   refine mv rfl ?_
   refine mv rfl ?_
   refine RO (B.call (w138 l i (by omega) (by omega)) rfl rfl rfl) ?_
   refine ag rfl ?_
   refine tz ⟨[(0, vL eC l), (3, .aref 4 v), (4, vI i), (5, vI ((matGo 0 i (List.drop i l) : Nat) : Int))], [(4, .arr v 3 115 (List.map eC out))]⟩ rfl rfl rfl rfl ?_
   have hrp := Decidable.not_not.1 h2
   obtain ⟨d1, e, hde, he, he1, he2, hwb, hwr, hle⟩ := wf_at hI0.2.1 (by omega) hrp
   have hue := wf_at_unr hI0.2.1 (by omega) hrp
   rw [← he] at hue
   rw [← he]
   have hcb : ∀ c ∈ List.drop (i + 1) (List.take e l), chkC c = 0 := fun c h => hc c (List.mem_of_mem_take (List.mem_of_mem_drop h))
   have hbl : (List.drop (i + 1) (List.take e l)).length < l.length := by rw [List.length_drop, List.length_take]; omega
   have hcn := cnt_rep (hc _ (getD_mem (z := z3) (k := i) (by omega))) hrp
   refine TK.rg (Y := tab) mixed rfl ?_
   refine mv rfl ?_
   refine mv rfl ?_
   refine RO (B.add rfl rfl (by unfold R64; omega)) ?_
   refine mv rfl ?_
   refine RO (B.slTD (i := (i + 1)) (j := e) rfl rfl rfl un83 sz115 (fun _ => rfl) (by omega) rfl (by omega) (by omega)) ?_
   refine RO (B.call (hrec _ d1 hbl hwb hcb (by omega)) rfl rfl rfl) ?_
   refine ag rfl ?_
   refine zn ⟨[(0, vL eC l), (3, .aref 4 v), (4, vI i), (5, vI e), (6, vL eC (unrP (List.drop (i + 1) (List.take e l))))], [(4, .arr v 3 115 (List.map eC out))]⟩ rfl rfl rfl rfl rfl ?_
   refine ag rfl ?_
   refine ra rfl ?_
   refine TK.loop (α := Nat × Nat × List Cmd) (fun x => ⟨[(0, vL eC l), (3, .aref 4 x.2.1), (4, vI i), (5, vI e), (6, vL eC (unrP (List.drop (i + 1) (List.take e l)))), (7, vI ((x.1 : Nat) : Int))], [(4, .arr x.2.1 3 115 (List.map eC x.2.2))]⟩) (fun x => x.1 ≤ (List.getD l i z3).2.2.toNat ∧ x.2.2 = out ++ tms x.1 (unrP (List.drop (i + 1) (List.take e l)))) (fun x => (List.getD l i z3).2.2.toNat - x.1) (0, v, out) ?_ (sb rfl rfl rfl) ?_
   · show 0 ≤ (List.getD l i z3).2.2.toNat ∧ out = out ++ tms 0 (unrP (List.drop (i + 1) (List.take e l)))
     exact ⟨Nat.zero_le _, by rw [tms_zero, List.append_nil]⟩
   rintro ⟨j, u, o2⟩ hI1
   replace hI1 : j ≤ (List.getD l i z3).2.2.toNat ∧ o2 = out ++ tms j (unrP (List.drop (i + 1) (List.take e l))) := hI1
   show TK _ _ _ _ _ _ ⟨[(0, vL eC l), (3, .aref 4 u), (4, vI i), (5, vI e), (6, vL eC (unrP (List.drop (i + 1) (List.take e l)))), (7, vI j)], [(4, .arr u 3 115 (List.map eC o2))]⟩
   refine na ⟨[(0, vL eC l), (3, .aref 4 u), (4, vI i), (5, vI e), (6, vL eC (unrP (List.drop (i + 1) (List.take e l)))), (7, vI j)], [(4, .arr u 3 115 (List.map eC o2))]⟩ rfl rfl rfl rfl rfl ?_
   refine mv rfl ?_
   refine mv rfl ?_
   refine mv rfl ?_
   refine RO (B.idx (z := z3) (i := i) rfl rfl un83 sz115 (fun _ => rfl) rfl (by omega)) ?_
   refine RO (B.fadP rfl fa115_2 rfl) ?_
   refine RO (B.loadP rfl ag3 sz3) ?_
   refine RO (B.lss rfl rfl) ?_
   refine tz ⟨[(0, vL eC l), (3, .aref 4 u), (4, vI i), (5, vI e), (6, vL eC (unrP (List.drop (i + 1) (List.take e l)))), (7, vI j), (42, vB (decide ((j : Int) < (List.getD l i z3).2.2)))], [(4, .arr u 3 115 (List.map eC o2))]⟩ rfl rfl rfl rfl ?_
   refine TK.condP rfl (fun h3 => ?_) (fun h3 => ?_)
   ·
    refine ta ⟨[(0, vL eC l), (3, .aref 4 u), (4, vI i), (5, vI e), (6, vL eC (unrP (List.drop (i + 1) (List.take e l)))), (7, vI j)], [(4, .arr u 3 115 (List.map eC o2))]⟩ rfl rfl rfl rfl ?_
    have hbd := unr_bd hI0.2.2 hue hI1.2 (by omega)
    refine TK.rg (Y := tab) mixed rfl ?_
    refine rn rfl ?_
    refine mv rfl ?_
    refine RO (B.append rfl rfl rfl un83 in115 rfl (fun _ => rfl) by115 (by omega)) ?_
    refine rn rfl ?_
    refine zn ⟨[(0, vL eC l), (3, .aref 4 (u + 1)), (4, vI i), (5, vI e), (6, vL eC (unrP (List.drop (i + 1) (List.take e l)))), (7, vI j)], [(4, .arr (u + 1) 3 115 (List.map eC (o2 ++ (unrP (List.drop (i + 1) (List.take e l))))))]⟩ rfl rfl rfl rfl rfl ?_
    refine mv rfl ?_
    refine RO (B.add rfl rfl (by unfold R64; omega)) ?_
    refine ag rfl ?_
    refine RN ?_
    refine Aq rfl ?_
    refine PK.lp ?_
    refine LP.mk ((j + 1), (u + 1), (o2 ++ (unrP (List.drop (i + 1) (List.take e l))))) ?_ ?_ (sb rfl rfl rfl)
    · show (j + 1) ≤ (List.getD l i z3).2.2.toNat ∧ (o2 ++ (unrP (List.drop (i + 1) (List.take e l)))) = out ++ tms (j + 1) (unrP (List.drop (i + 1) (List.take e l)))
      exact ⟨by omega, by rw [hI1.2, tms_succ, List.append_assoc]⟩
    · show (List.getD l i z3).2.2.toNat - (j + 1) < (List.getD l i z3).2.2.toNat - j
      omega
   ·
    refine At rfl ?_
    refine TK.exit ?_
    refine PK.exit rfl ?_
    refine Ap rfl ?_
    refine nr ⟨[(0, vL eC l), (3, .aref 4 u), (5, vI e)], [(4, .arr u 3 115 (List.map eC o2))]⟩ rfl rfl rfl rfl ?_
    refine mv rfl ?_
    refine ag rfl ?_
    refine zn ⟨[(0, vL eC l), (3, .aref 4 u), (4, vI e)], [(4, .arr u 3 115 (List.map eC o2))]⟩ rfl rfl rfl rfl rfl ?_
    refine mv rfl ?_
    refine RO (B.add rfl rfl (by unfold R64; omega)) ?_
    refine ag rfl ?_
    refine RN ?_
    refine Aq rfl ?_
    refine PK.lp ?_
    refine LP.mk ((e + 1), u, o2) ?_ ?_ (sb rfl rfl rfl)
    · show (e + 1) ≤ l.length ∧ Wf d (List.drop (e + 1) l) ∧ o2 ++ unrP (List.drop (e + 1) l) = unrP l
      exact ⟨by omega, hwr, by rw [← hI0.2.2, hue, hI1.2, show j = (List.getD l i z3).2.2.toNat by omega, List.append_assoc]⟩
    · show l.length - (e + 1) < l.length - i
      omega
 ·
  refine At rfl ?_
  refine TK.exit ?_
  refine PK.exit rfl ?_
  refine Ap rfl ?_
  refine tn ⟨[(3, .aref 4 v)], [(4, .arr v 3 115 (List.map eC out))]⟩ rfl rfl rfl ?_
  refine TK.frz (t := 3) rfl rfl ?_
  refine nr ⟨[(3, vL eC out)], []⟩ rfl rfl rfl rfl ?_
  refine mv rfl ?_
  refine ag rfl ?_
  refine ra rfl ?_
  refine lf ?_
  refine leaf (val0 := vL eC out) (by kernel_rfl) ?_
  exact lsl (by have hz := hI0.2.2; rw [List.drop_of_length_le (by omega), unrP_nil, List.append_nil] at hz; exact hz)
theorem w64r : ∀ (n : Nat) (l : List Cmd) (d : Nat), l.length ≤ n → Wf d l → (∀ c ∈ l, chkC c = 0) → l.length ≤ 64 → d ≤ 4 → CallOk Tryz.prog 64 [vL eC l] (lookM []) (vL eC (unrP l)) []
 | 0, l, d, hn, hw, hc, hl, hd => w64 l d hw hc hl hd fun b d1 hb => absurd hb (by omega)
 | n + 1, l, d, hn, hw, hc, hl, hd => w64 l d hw hc hl hd fun b d1 hb hw1 hc1 hd1 => w64r n b d1 (by omega) hw1 hc1 (by omega) hd1
theorem w124r (hp : PowLaid) (hm : OrcOk Tryz.prog (mergeO 121)) : ∀ (n : Nat) (m : Mc) (l : List Cmd) (d : Nat), l.length ≤ n → OkM m → Wf d l → (∀ c ∈ l, chkC c = 0) → l.length ≤ 64 → d ≤ 4 → CallOk Tryz.prog 124 [.bref 11 0, vL eC l] (lookM (xS m)) (vI (takes m (unrP l)).2) (xO (takes m (unrP l)).1)
 | 0, m, l, d, hn, hok, hw, hc, hl, hd => w124 hp hm m l d hok hw hc hl hd fun b d1 m1 hb => absurd hb (by omega)
 | n + 1, m, l, d, hn, hok, hw, hc, hl, hd => w124 hp hm m l d hok hw hc hl hd fun b d1 m1 hb hw1 hc1 hd1 hok1 => w124r hp hm n m1 b d1 (by omega) hok1 hw1 hc1 (by omega) hd1
theorem w48 (hp : PowLaid) (hm : OrcOk Tryz.prog (mergeO 121)) (s : LSt) (t : Int) (l : List Cmd) (hl : l.length ≤ 10000000000000) : CallOk Tryz.prog 48 [.pv (gS s), vI t, vL eC l] (lookM []) (.tup [.pv (gS (runP s t l).1.1), vL eP (runP s t l).1.2.2, vI (runP s t l).2]) [] := by
 refine cO qf48 rfl (nB rfl) rfl ?_
 refine na ⟨[(0, .pv (gS s)), (1, vI t), (2, vL eC l)], []⟩ rfl rfl rfl rfl rfl ?_
 refine rn rfl ?_
 refine rn rfl ?_
 refine RO (B.nilS (enc := eP) rfl) ?_
 refine ag rfl ?_
 refine zn ⟨[(1, vI t), (2, vL eC l), (3, .bref 4 0), (6, .bref 7 0)], [(4, bS s), (7, .box 81 [vS ⟨#[]⟩, vI 0, vB false, vB false])]⟩ rfl rfl rfl rfl rfl ?_
 refine RO (B.loadBA rfl rfl rfl ag81 sz81 rfl rfl) ?_
 refine RO (B.call (w123 s) rfl rfl rfl) ?_
 refine mv rfl ?_
 refine RO (B.call (w99 t 0 999999999) rfl rfl rfl) ?_
 refine mv rfl ?_
 refine RO (B.call (w59 l (by omega)) rfl rfl rfl) ?_
 refine RO (B.runZ (val := .pv (.slice (List.map eI [(chkSt s), (withinF t 0 999999999), (chkS l)]))) rfl (fun l => Frz.arr l _ _ _ _ _) rfl) ?_
 refine RO (B.call (w100 [(chkSt s), (withinF t 0 999999999), (chkS l)] (nB rfl)) rfl rfl rfl) ?_
 refine ag rfl ?_
 refine zn ⟨[(1, vI t), (2, vL eC l), (3, .bref 4 0), (6, .bref 7 0), (9, vI (firstF [(chkSt s), (withinF t 0 999999999), (chkS l)]))], [(4, bS s), (7, .box 81 [vS ⟨#[]⟩, vI 0, vB false, vB false])]⟩ rfl rfl rfl rfl rfl ?_
 refine mv rfl ?_
 refine RO (B.neq rfl rfl) ?_
 refine tz ⟨[(1, vI t), (2, vL eC l), (3, .bref 4 0), (6, .bref 7 0), (9, vI (firstF [(chkSt s), (withinF t 0 999999999), (chkS l)])), (21, vB (decide ((firstF [(chkSt s), (withinF t 0 999999999), (chkS l)]) ≠ 0)))], [(4, bS s), (7, .box 81 [vS ⟨#[]⟩, vI 0, vB false, vB false])]⟩ rfl rfl rfl rfl ?_
 refine TK.condP rfl (fun h1 => ?_) (fun h1 => ?_)
 ·
  refine na ⟨[(6, .bref 7 0), (9, vI (firstF [(chkSt s), (withinF t 0 999999999), (chkS l)]))], [(7, .box 81 [vS ⟨#[]⟩, vI 0, vB false, vB false])]⟩ rfl rfl rfl rfl rfl ?_
  refine rn rfl ?_
  refine mv rfl ?_
  refine rn rfl ?_
  refine RO (B.nilS (enc := eP) rfl) ?_
  refine ag rfl ?_
  refine ra rfl ?_
  refine lf ?_
  refine leaf (val0 := .tup [.pv (.agg [pS ⟨#[]⟩, pI 0, pB false, pB false]), vL eP [], vI (firstF [(chkSt s), (withinF t 0 999999999), (chkS l)])]) (by kernel_rfl) ?_
  exact tup3 (lag (lcons (pls (by (rw [runP_bad h1]; rfl))) (lcons (pli (by (rw [runP_bad h1]; rfl))) (lcons (plb (by (rw [runP_bad h1]; rfl))) (lcons (plb (by (rw [runP_bad h1]; rfl))) rfl))))) (lsl (by (rw [runP_bad h1]))) (li (by (rw [runP_bad h1]; rfl)))
 ·
  refine ta ⟨[(1, vI t), (2, vL eC l), (3, .bref 4 0), (6, .bref 7 0)], [(4, bS s), (7, .box 81 [vS ⟨#[]⟩, vI 0, vB false, vB false])]⟩ rfl rfl rfl rfl ?_
  have hz : runX s t l = 0 := Decidable.not_not.1 h1
  obtain ⟨hst, htr, hcs⟩ := runX_ok hz
  obtain ⟨hl64, hc, hd, hlp⟩ := chkS_ok hcs
  have hw := wf_of hd
  have hok : OkM (s, t, ([] : List Stp)) := ⟨st_valid hst, htr.1, htr.2, Nat.zero_le _⟩
  refine TK.rg (Y := tab) mixed rfl ?_
  refine RO (B.loadBA rfl rfl rfl ag81 sz81 rfl rfl) ?_
  refine mv rfl ?_
  refine RO (B.of0 (val0 := .agg (List.map .pv [pS (bsO s.1), pI s.2.1, pB s.2.2.1, pB s.2.2.2, pI t, pI 0] ++ [.nils])) (m0 := []) (lo := 0) (nm := 0) (O0_ok _) (by intro z hz; have hz2 : z ∈ [Operand.tmp 24, Operand.tmp 25] := hz; simp only [List.mem_cons, List.not_mem_nil, or_false] at hz2; rcases hz2 with rfl | rfl <;> rfl) rfl (Frz.aggNil (h := 900) (sz := 2) (T := 164) [pS (bsO s.1), pI s.2.1, pB s.2.2.1, pB s.2.2.2, pI t, pI 0] rfl) rfl) ?_
  refine RO (B.runZ rfl (fun l => Frz.boxN l rfl) rfl) ?_
  refine rn rfl ?_
  refine zn ⟨[(2, vL eC l), (6, .bref 7 0), (10, .bref 11 0)], [(7, .box 81 [vS ⟨#[]⟩, vI 0, vB false, vB false]), (11, .box 217 [vS (bsO s.1), vI s.2.1, vB s.2.2.1, vB s.2.2.2, vI t, vI 0, .aref 900 0]), (900, .arr 0 2 164 (List.map eP []))]⟩ rfl rfl rfl rfl rfl ?_
  refine mv rfl ?_
  refine RO (B.callS (l := xS (s, t, [])) (w124r hp hm l.length (s, t, []) l 4 (Nat.le_refl _) hok hw hc hl64 (by omega)) rfl rfl ⟨rfl, rfl, trivial⟩ rfl rfl) ?_
  refine ag rfl ?_
  refine zn ⟨[(6, .bref 7 0), (10, .bref 11 0), (11, vI (takes (s, t, []) (unrP l)).2)], [(7, .box 81 [vS ⟨#[]⟩, vI 0, vB false, vB false]), (11, bM (takes (s, t, []) (unrP l)).1), (900, aM (takes (s, t, []) (unrP l)).1)]⟩ rfl rfl rfl rfl rfl ?_
  refine RO (B.fadB rfl fa217_0 rfl) ?_
  refine rn rfl ?_
  refine RO (B.fadB rfl fa217_3 rfl) ?_
  refine rn rfl ?_
  refine mv rfl ?_
  refine rn rfl ?_
  refine rn rfl ?_
  refine ag rfl ?_
  refine RG.nil (fun _ => by kernel_rfl) ?_
  refine Ap rfl ?_
  refine TK.frz (t := 7) rfl rfl ?_
  refine tn ⟨[(6, .bref 7 0), (7, vL eP (takes (s, t, []) (unrP l)).1.2.2), (8, vI (takes (s, t, []) (unrP l)).2)], [(7, bS (takes (s, t, []) (unrP l)).1.1)]⟩ rfl rfl rfl ?_
  refine lf ?_
  refine leaf (val0 := .tup [.pv (gS (takes (s, t, []) (unrP l)).1.1), vL eP (takes (s, t, []) (unrP l)).1.2.2, vI (takes (s, t, []) (unrP l)).2]) (by kernel_rfl) ?_
  exact tup3 (lag (lcons (pls (by (rw [runP_ok hz]))) (lcons (pli (by (rw [runP_ok hz]))) (lcons (plb (by (rw [runP_ok hz]))) (lcons (plb (by (rw [runP_ok hz]))) rfl))))) (lsl (by (rw [runP_ok hz]))) (li (by (rw [runP_ok hz])))
end Go.Lens.Tm
end
section
namespace Go.Lens.Tm
open Go.Lens.Tb Go.Proofs
set_option linter.unusedSectionVars false
variable [Lz]
theorem chkC_rng (c : Cmd) : 0 ≤ chkC c ∧ chkC c ≤ 40 := by
 have key : ∀ (b d : Bool) (e : Int), (0 ≤ e ∧ e ≤ 40) → 0 ≤ firstF [whenF b e, whenF d 3] ∧ firstF [whenF b e, whenF d 3] ≤ 40 := by
  intro b d e he
  cases b <;> cases d <;> simp only [whenF, cond_true, cond_false, firstF] <;> (try split) <;> omega
 have w : ∀ n lo hi : Int, withinF n lo hi = whenF (outF n lo hi) 3 := fun _ _ _ => rfl
 unfold chkC
 simp only [w]
 split
 ·exact key _ _ _ (by omega)
 ·split
  ·exact key _ _ _ (by omega)
  ·split
   ·exact key _ _ _ (by omega)
   ·split
    ·exact key _ _ _ (by omega)
    ·omega
theorem badC_rng : ∀ l : List Cmd, 0 ≤ badC l ∧ badC l ≤ 40
 | [] => by simp [badC]
 | c :: l => by
  rw [badC]
  split
  ·exact badC_rng l
  ·exact chkC_rng c
theorem depC_rng : ∀ (l : List Cmd) (d : Nat), 0 ≤ depC d l ∧ depC d l ≤ 40
 | [], d => by rw [depC]; split <;> omega
 | c :: l, d => by
  rw [depC]
  split
  ·split
   ·omega
   ·exact depC_rng l _
  ·split
   ·split
    ·omega
    ·exact depC_rng l _
   ·exact depC_rng l _
theorem chkS_rng (l : List Cmd) : 0 ≤ chkS l ∧ chkS l ≤ 40 := by
 have h1 := badC_rng l
 have h2 := depC_rng l 0
 unfold chkS
 split
 ·omega
 ·split
  ·exact h1
  ·split
   ·exact h2
   ·cases decide (10000 < lenP l) <;> simp only [whenF, cond_true, cond_false] <;> omega
theorem np_c1 {x : Bool} {a b : List Cmd} (h : (bif x then true else decide (chkS a + chkS b ≠ 0)) = false) : chkS a = 0 ∧ chkS b = 0 := by
 have h1 := chkS_rng a
 have h2 := chkS_rng b
 rw [bif_or, Bool.or_eq_false_iff] at h
 have := of_decide_eq_false h.2
 omega
theorem np_c2 {x y : Bool} {a b : List Cmd} (h : (bif (bif x then true else decide (chkS a + chkS b ≠ 0)) then true else y) = false) : chkS a = 0 ∧ chkS b = 0 := by
 rw [bif_or, Bool.or_eq_false_iff] at h
 exact np_c1 h.1
theorem np_early {a b : List Cmd} {t : Int} (h : (bif (bif (bif (bif (bif (bif (bif (bif (!(shortS a 8)) then true else (!(shortS b 8))) then true else (decide (8 < ((List.length a : Nat) : Int)))) then true else (decide (8 < ((List.length b : Nat) : Int)))) then true else (decide (((chkS a) + (chkS b)) ≠ 0))) then true else (decide (150 < (lenP a)))) then true else (decide (150 < (lenP b)))) then true else (decide (t < 0))) then true else (decide (100000 < t))) = false) :
  a.length ≤ 8 ∧ b.length ≤ 8 ∧ chkS a = 0 ∧ chkS b = 0 ∧ lenP a ≤ 150 ∧ lenP b ≤ 150 ∧ 0 ≤ t ∧ t ≤ 100000 := by
 have h1 := chkS_rng a
 have h2 := chkS_rng b
 simp only [bif_or, Bool.or_eq_false_iff, decide_eq_false_iff_not] at h
 omega
theorem w61z {l : List Cmd} (h : chkS l = 0) : CallOk Tryz.prog 61 [vL eC l] (lookM []) (vI (lenP l)) [] := by
 obtain ⟨h1, h2, h3, _⟩ := chkS_ok h
 exact w61s h1 h2 h3
theorem w54z (hp : PowLaid) (hj2 : Join2Ok) (a : List Cmd) (h : chkS a = 0) : CallOk Tryz.prog 54 [vL eC a] (lookM []) (.tup [vS (bsO (prtS a)), vI 0]) [] := by
 have := w54 hp hj2 a (by have := (chkS_ok h).1; omega)
 rwa [srcX_ok h, h] at this
theorem w55z (hp : PowLaid) (he : ErrLaid) (a : List Cmd) (h : chkS a = 0) : CallOk Tryz.prog 55 [vS (bsO (prtS a))] (lookM []) (.tup [vL eC a, vI 0, vI 0]) [] := by
 obtain ⟨h1, h2, _, _⟩ := chkS_ok h
 have := w55 hp he (prtS a) (by have := prtS_len h2; omega)
 rwa [par_prtS h] at this
abbrev idl : LSt := ([105, 100, 108, 101], 0, false, false)
theorem runX_0 {s : LSt} {t : Int} {l : List Cmd} (h1 : chkSt s = 0) (h2 : 0 ≤ t ∧ t ≤ 999999999) (h3 : chkS l = 0) : runX s t l = 0 := by
 rw [runX, h1, h3]
 have : withinF t 0 999999999 = 0 := by
  have : outF t 0 999999999 = false := by
   unfold outF
   rw [Bool.or_eq_false_iff]
   exact ⟨decide_eq_false (by omega), decide_eq_false (by omega)⟩
  unfold withinF
  rw [this]; rfl
 rw [this]; rfl
theorem idl_chk : chkSt idl = 0 := by decide
theorem run_idl {t : Int} {l : List Cmd} (h0 : 0 ≤ t) (h1 : t ≤ 100000) (h : chkS l = 0) : runP idl t l = takes (idl, t, []) (unrP l) := runP_ok (runX_0 idl_chk ⟨h0, by omega⟩ h)
theorem np_fold {a : List Cmd} {t : Int} (h : chkS a = 0) (h0 : 0 ≤ t) (h1 : t ≤ 100000) : foldA idl (runP idl t a).1.2.2 = ((runP idl t a).1.1, true) := by
 rw [run_idl h0 h1 h]
 obtain ⟨q, e1, e2⟩ := takes_fold (u := unrP a) (s := idl) (t := t) (p := [])
 rw [e1, List.nil_append, e2]
theorem np_bad {a b : List Cmd} {t : Int} (ha : chkS a = 0) (hb : chkS b = 0) (hab : chkS (a ++ b) = 0) (h0 : 0 ≤ t) (h1 : t ≤ 100000) (h : (runP idl t a).2 ≠ 0) : runP idl t (a ++ b) = runP idl t a := by
 rw [run_idl h0 h1 ha] at h ⊢
 rw [run_idl h0 h1 hab, unrP_app (wf_of (chkS_ok ha).2.2.1) (wf_of (chkS_ok hb).2.2.1), takes_app, if_pos h]
theorem takes_len : ∀ {u : List Cmd} {m : Mc}, (takes m u).1.2.2.length ≤ m.2.2.length + u.length
 | [], m => by simp [takes]
 | c :: u, (s, t, q) => by
  have h1 := take1_len (s := s) (t := t) (q := q) (c := c)
  by_cases h0 : (take1 (s, t, q) c).2 = 0
  ·rw [takes_ok h0]
   have := takes_len (u := u) (m := (take1 (s, t, q) c).1)
   simp only [List.length_cons]
   omega
  ·rw [takes_bad h0]
   simp only [List.length_cons]
   omega
theorem sumC_rng : ∀ {u : List Cmd}, (∀ c ∈ u, chkC c = 0) → 0 ≤ sumC u ∧ sumC u ≤ u.length * 100000
 | [], _ => by simp [sumC]
 | c :: u, h => by
  have h1 := cmd_sz (h c (List.mem_cons_self ..))
  have h2 := sumC_rng (u := u) fun x hx => h x (List.mem_cons_of_mem _ hx)
  rw [sumC]
  simp only [List.length_cons]
  omega
theorem np_two {a b : List Cmd} {t : Int} (ha : chkS a = 0) (hb : chkS b = 0) (hab : chkS (a ++ b) = 0) (hna : lenP a ≤ 150) (hnb : lenP b ≤ 150) (h0 : 0 ≤ t) (h1 : t ≤ 100000) (h : (runP idl t a).2 = 0) :
  runP idl t (a ++ b) = (((runP (runP idl t a).1.1 (t + sumC (unrP a)) b).1.1, (runP (runP idl t a).1.1 (t + sumC (unrP a)) b).1.2.1, (runP idl t a).1.2.2 ++ (runP (runP idl t a).1.1 (t + sumC (unrP a)) b).1.2.2), (runP (runP idl t a).1.1 (t + sumC (unrP a)) b).2) := by
 obtain ⟨_, a2, a3, _⟩ := chkS_ok ha
 obtain ⟨_, b2, b3, _⟩ := chkS_ok hb
 obtain ⟨la, ca⟩ := wf_unr_len (wf_of a3) a2
 obtain ⟨lb, cb⟩ := wf_unr_len (wf_of b3) b2
 have hs := sumC_rng (unr_chk (wf_of a3) a2)
 rw [run_idl h0 h1 ha] at h ⊢
 rw [run_idl h0 h1 hab, unrP_app (wf_of a3) (wf_of b3), takes_app, if_neg (by rw [h]; simp)]
 have ht := takes_time (u := unrP a) (m := (idl, t, [])) (fun c hc => ⟨unr_chk (wf_of a3) a2 c hc, (ca c hc).2⟩) h
 have hok := takes_okM (m := (idl, t, ([] : List Stp))) (l := unrP a) ⟨st_valid idl_chk, h0, by show t ≤ 999999999; omega, Nat.zero_le _⟩ (unr_chk (wf_of a3) a2)
 have hln := takes_len (u := unrP a) (m := (idl, t, []))
 generalize takes (idl, t, []) (unrP a) = r at h ht hok hln
 obtain ⟨⟨s, t2, p⟩, e⟩ := r
 simp only at h ht hok hln ⊢
 subst ht
 rw [runP_ok (runX_0 (st_chk s hok.1) ⟨by omega, by omega⟩ hb)]
 have := takes_pre (u := unrP b) (s := s) (t := t + sumC (unrP a)) (p := p) (q := []) (by simp only [List.length_nil] at hln ⊢; omega)
 rw [List.append_nil] at this
 exact this
theorem np_loop {a : List Cmd} {t : Int} (ha : chkS a = 0) (hl : chkS (loopC a) = 0) (haa : chkS (a ++ a) = 0) (h0 : 0 ≤ t) (h1 : t ≤ 100000) : runP idl t (loopC a) = runP idl t (a ++ a) := by
 have hw := wf_of (chkS_ok ha).2.2.1
 rw [run_idl h0 h1 hl, run_idl h0 h1 haa, unr_loop hw, unrP_app hw hw]
theorem sumC_app : ∀ (a b : List Cmd), sumC (a ++ b) = sumC a + sumC b
 | [], b => by simp [sumC]
 | c :: a, b => by rw [List.cons_append, sumC, sumC, sumC_app a b, Int.add_assoc]
theorem sumC_take {l : List Cmd} {k : Nat} (h : k < l.length) : sumC (List.take (k + 1) l) = sumC (List.take k l) + (l.getD k z3).2.2 := by
 rw [take_cmd l k h, sumC_app]
 simp [sumC]
section
variable {l : List Stp} {k : Nat} {a : LSt}
theorem dropP (h : k < l.length) : l.drop k = l.getD k (0, []) :: l.drop (k + 1) := by
 rw [List.getD_eq_getElem?_getD, List.getElem?_eq_getElem h, Option.getD_some]
 exact List.drop_eq_getElem_cons h
theorem fold_next (h : k < l.length) (h2 : ¬ (actP a (l.getD k (0, [])).2).2 ≠ 0) : foldA a (l.drop k) = foldA (actP a (l.getD k (0, [])).2).1 (l.drop (k + 1)) := by
 rw [dropP h, foldA, if_neg h2]
theorem fold_bad (h : k < l.length) (h2 : (actP a (l.getD k (0, [])).2).2 ≠ 0) : foldA a (l.drop k) = (a, false) := by
 rw [dropP h, foldA, if_pos h2]
theorem fold_end (h : ¬ k < l.length) : foldA a (l.drop k) = (a, true) := by
 rw [List.drop_of_length_le (by omega), foldA]
end
end Go.Lens.Tm
end
section
namespace Go.Lens.Tm
open Go.Lens.Tb Go.Proofs
variable [Lz]
set_option linter.unusedSectionVars false
set_option maxHeartbeats 8000000
set_option maxRecDepth 100000
attribute [local irreducible] TK PK T RG EfR Body
theorem fa164_1 : fadQ tab 164 1 = some 1 := by kernel_rfl
theorem fq81 : flatEq tab 81 = some [.string, .int (.i64), .bool, .bool] := by kernel_rfl
theorem w51o (l : List Stp) (hl : l.length * 24 ≤ 140737488355328) : CallOk Tryz.prog 51 [vL eP l] (lookM ([])) ((.aref 3004 (l.length))) ([(3004, .arr (l.length) 2 176 (List.map eP l))]) := by
 refine cL 3001 ([]) qf51 rfl (nB rfl) rfl rfl ?_
 refine na ⟨[(0, vL eP l)], []⟩ rfl rfl rfl rfl rfl ?_
 refine RO (B.nilS (enc := eP) rfl) ?_
 refine zn ⟨[(0, vL eP l)], []⟩ rfl rfl rfl rfl rfl ?_
 refine RO (B.adopt 3004 2 176 rfl rfl) ?_
 refine zn ⟨[(0, vL eP l), (3, .aref 3004 0)], [(3004, .arr 0 2 176 (List.map eP []))]⟩ rfl rfl rfl rfl rfl ?_
 refine mv rfl ?_
 refine RO (B.lenL rfl un86) ?_
 refine mv rfl ?_
 refine ra rfl ?_
 refine TK.loop (α := Nat × Nat × List Stp) (fun x => ⟨[(0, vL eP l), (3, .aref 3004 x.2.1), (6, vL eP l), (7, vI l.length), (8, vI ((x.1 : Nat) : Int))], [(3004, .arr x.2.1 2 176 (List.map eP x.2.2))]⟩) (fun x => x.1 ≤ l.length ∧ x.2.1 = x.1 ∧ x.2.2 = List.take x.1 l) (fun x => l.length - x.1) (0, 0, []) ?_ (sb rfl rfl rfl) ?_
 · show 0 ≤ l.length ∧ 0 = 0 ∧ [] = List.take 0 l
   exact ⟨Nat.zero_le _, rfl, rfl⟩
 rintro ⟨k, v, out⟩ hI0
 replace hI0 : k ≤ l.length ∧ v = k ∧ out = List.take k l := hI0
 have hol : out.length ≤ k := by rw [hI0.2.2, List.length_take]; omega
 show TK _ _ _ _ _ _ ⟨[(0, vL eP l), (3, .aref 3004 v), (6, vL eP l), (7, vI l.length), (8, vI k)], [(3004, .arr v 2 176 (List.map eP out))]⟩
 refine na ⟨[(0, vL eP l), (3, .aref 3004 v), (6, vL eP l), (7, vI l.length), (8, vI k)], [(3004, .arr v 2 176 (List.map eP out))]⟩ rfl rfl rfl rfl rfl ?_
 refine RO (B.lss rfl rfl) ?_
 refine tz ⟨[(0, vL eP l), (3, .aref 3004 v), (6, vL eP l), (7, vI l.length), (8, vI k), (9, vB (decide ((k : Int) < (l.length : Int))))], [(3004, .arr v 2 176 (List.map eP out))]⟩ rfl rfl rfl rfl ?_
 refine TK.condP rfl (fun h1 => ?_) (fun h1 => ?_)
 ·
  refine na ⟨[(0, vL eP l), (3, .aref 3004 v), (6, vL eP l), (7, vI l.length), (8, vI k)], [(3004, .arr v 2 176 (List.map eP out))]⟩ rfl rfl rfl rfl rfl ?_
  refine RO (B.idx (z := (0, [])) (i := k) rfl rfl un86 sz164 (fun _ => rfl) rfl (by omega)) ?_
  refine RO (B.loadA (ds := [pI (List.getD l k (0, [])).1, pS (bsO (List.getD l k (0, [])).2)]) rfl ag164 sz164 (nB rfl) rfl) ?_
  refine rn rfl ?_
  refine rn rfl ?_
  refine zn ⟨[(0, vL eP l), (3, .aref 3004 v), (5, .bref 3006 0), (6, vL eP l), (7, vI l.length), (8, vI k)], [(3004, .arr v 2 176 (List.map eP out)), (3006, .box 164 [vI (List.getD l k (0, [])).1, vS (bsO (List.getD l k (0, [])).2)])]⟩ rfl rfl rfl rfl rfl ?_
  refine rn rfl ?_
  refine RO (B.loadBA rfl rfl rfl ag164 sz164 rfl rfl) ?_
  refine RO (B.runZ (val := .pv (.slice (List.map eP [(List.getD l k (0, []))]))) (val0 := .aref 3015 0) (m0 := [(3015, .arr 0 2 176 [[pI (List.getD l k (0, [])).1, pS (bsO (List.getD l k (0, [])).2)]])]) (rd := []) (by kernel_rfl) (fun l => Frz.arr l _ _ _ _ _) rfl) ?_
  refine RO (B.append rfl rfl rfl un90 in176 rfl (fun _ => rfl) by176 (by (simp only [List.length_append, List.length_cons, List.length_nil, List.length_take]; omega))) ?_
  refine rn rfl ?_
  refine zn ⟨[(0, vL eP l), (3, .aref 3004 (v + 1)), (6, vL eP l), (7, vI l.length), (8, vI k)], [(3004, .arr (v + 1) 2 176 (List.map eP (out ++ [(List.getD l k (0, []))])))]⟩ rfl rfl rfl rfl rfl ?_
  refine RO (B.add rfl rfl (by unfold R64; omega)) ?_
  refine mv rfl ?_
  refine RN ?_
  refine Aq rfl ?_
  refine PK.lp ?_
  refine LP.mk ((k + 1), (v + 1), (out ++ [(List.getD l k (0, []))])) ?_ ?_ (sb rfl rfl rfl)
  · show (k + 1) ≤ l.length ∧ (v + 1) = (k + 1) ∧ (out ++ [(List.getD l k (0, []))]) = List.take (k + 1) l
    refine ⟨by omega, by omega, ?_⟩; rw [hI0.2.2]; exact (take_stp l k (by omega)).symm
  · show l.length - (k + 1) < l.length - k
    omega
 ·
  refine At rfl ?_
  refine TK.exit ?_
  refine PK.exit rfl ?_
  refine Ap rfl ?_
  refine nr ⟨[(0, vL eP l), (3, .aref 3004 v)], [(3004, .arr v 2 176 (List.map eP out))]⟩ rfl rfl rfl rfl ?_
  refine rn rfl ?_
  refine rn rfl ?_
  refine ra rfl ?_
  refine lf ?_
  have hkl : k = l.length := by omega
  have hvl : v = l.length := by omega
  have hou : out = l := by rw [hI0.2.2, hkl, List.take_length]
  exact leafL (val0 := .aref 3004 v) (out0 := [(3004, .arr v 2 176 (List.map eP out))]) (.inr rfl) (by kernel_rfl) (by rw [hvl]) (by rw [hvl, hou])
theorem w62  : CallOk Tryz.prog 62 [] (lookM []) (.pv (.agg [pS (bsO [105, 100, 108, 101]), pI 0, pB false, pB false])) [] := by
 refine cO qf62 rfl (nB rfl) rfl ?_
 refine na ⟨[], []⟩ rfl rfl rfl rfl rfl ?_
 refine rn rfl ?_
 refine zn ⟨[(0, .bref 1 0)], [(1, .box 81 [vS (bsO []), vI 0, vB false, vB false])]⟩ rfl rfl rfl rfl rfl ?_
 refine rn rfl ?_
 refine rn rfl ?_
 refine ra rfl ?_
 refine lf ?_
 refine leaf (val0 := .pv (.agg [pS (bsO [105, 100, 108, 101]), pI 0, pB false, pB false])) (by kernel_rfl) ?_
 exact rfl
theorem w63 (hp : PowLaid) (hm : OrcOk Tryz.prog (mergeO 121)) (s : LSt) (l : List Stp) (hs : s ∈ sts) (hl : l.length ≤ 1000000000) : CallOk Tryz.prog 63 [.pv (gS s), vL eP l] (lookM []) (.tup [.pv (gS (foldA s l).1), vB (foldA s l).2]) [] := by
 refine cO qf63 rfl (nB rfl) rfl ?_
 refine na ⟨[(0, .pv (gS s)), (1, vL eP l)], []⟩ rfl rfl rfl rfl rfl ?_
 refine rn rfl ?_
 refine rn rfl ?_
 refine ag rfl ?_
 refine zn ⟨[(1, vL eP l), (2, .bref 3 0), (4, .bref 5 0)], [(3, bS s), (5, .box 81 [vS (bsO []), vI 0, vB false, vB false])]⟩ rfl rfl rfl rfl rfl ?_
 refine mv rfl ?_
 refine RO (B.lenL rfl un86) ?_
 refine mv rfl ?_
 refine ra rfl ?_
 refine TK.loop (α := Nat × LSt) (fun x => ⟨[(2, .bref 3 0), (4, .bref 5 0), (10, vL eP l), (11, vI l.length), (12, vI ((x.1 : Nat) : Int))], [(3, bS x.2), (5, .box 81 [vS (bsO []), vI 0, vB false, vB false])]⟩) (fun x => x.1 ≤ l.length ∧ x.2 ∈ sts ∧ foldA s l = foldA x.2 (List.drop x.1 l)) (fun x => l.length - x.1) (0, s) ?_ (sb rfl rfl rfl) ?_
 · show 0 ≤ l.length ∧ s ∈ sts ∧ foldA s l = foldA s (List.drop 0 l)
   exact ⟨Nat.zero_le _, hs, rfl⟩
 rintro ⟨k, a⟩ hI0
 replace hI0 : k ≤ l.length ∧ a ∈ sts ∧ foldA s l = foldA a (List.drop k l) := hI0
 show TK _ _ _ _ _ _ ⟨[(2, .bref 3 0), (4, .bref 5 0), (10, vL eP l), (11, vI l.length), (12, vI k)], [(3, bS a), (5, .box 81 [vS (bsO []), vI 0, vB false, vB false])]⟩
 refine na ⟨[(2, .bref 3 0), (4, .bref 5 0), (10, vL eP l), (11, vI l.length), (12, vI k)], [(3, bS a), (5, .box 81 [vS (bsO []), vI 0, vB false, vB false])]⟩ rfl rfl rfl rfl rfl ?_
 refine RO (B.lss rfl rfl) ?_
 refine tz ⟨[(2, .bref 3 0), (4, .bref 5 0), (10, vL eP l), (11, vI l.length), (12, vI k), (13, vB (decide ((k : Int) < (l.length : Int))))], [(3, bS a), (5, .box 81 [vS (bsO []), vI 0, vB false, vB false])]⟩ rfl rfl rfl rfl ?_
 refine TK.condP rfl (fun h1 => ?_) (fun h1 => ?_)
 ·
  refine na ⟨[(2, .bref 3 0), (4, .bref 5 0), (10, vL eP l), (11, vI l.length), (12, vI k)], [(3, bS a), (5, .box 81 [vS (bsO []), vI 0, vB false, vB false])]⟩ rfl rfl rfl rfl rfl ?_
  refine RO (B.idx (z := (0, [])) (i := k) rfl rfl un86 sz164 (fun _ => rfl) rfl (by omega)) ?_
  refine RO (B.loadA (ds := [pI (List.getD l k (0, [])).1, pS (bsO (List.getD l k (0, [])).2)]) rfl ag164 sz164 (nB rfl) rfl) ?_
  refine rn rfl ?_
  refine rn rfl ?_
  refine zn ⟨[(2, .bref 3 0), (4, .bref 5 0), (7, .bref 8 0), (10, vL eP l), (11, vI l.length), (12, vI k)], [(3, bS a), (5, .box 81 [vS (bsO []), vI 0, vB false, vB false]), (8, .box 164 [vI (List.getD l k (0, [])).1, vS (bsO (List.getD l k (0, [])).2)])]⟩ rfl rfl rfl rfl rfl ?_
  refine RO (B.loadBA rfl rfl rfl ag81 sz81 rfl rfl) ?_
  refine RO (B.fadB rfl fa164_1 rfl) ?_
  refine RO (B.loadB rfl rfl rfl ag9 sz9 rfl) ?_
  refine RO (B.call (w139 hp hm hI0.2.1 (List.getD l k (0, [])).2) rfl rfl rfl) ?_
  refine rn rfl ?_
  refine rn rfl ?_
  refine rn rfl ?_
  refine rn rfl ?_
  refine rn rfl ?_
  refine ag rfl ?_
  refine zn ⟨[(2, .bref 3 0), (4, .bref 5 0), (8, .bref 9 0), (9, vI (actP a (List.getD l k (0, [])).2).2), (10, vL eP l), (11, vI l.length), (12, vI k)], [(3, bS a), (5, .box 81 [vS (bsO []), vI 0, vB false, vB false]), (9, bS (actP a (List.getD l k (0, [])).2).1)]⟩ rfl rfl rfl rfl rfl ?_
  refine mv rfl ?_
  refine RO (B.neq rfl rfl) ?_
  refine tz ⟨[(2, .bref 3 0), (4, .bref 5 0), (8, .bref 9 0), (10, vL eP l), (11, vI l.length), (12, vI k), (24, vB (decide ((actP a (List.getD l k (0, [])).2).2 ≠ 0)))], [(3, bS a), (5, .box 81 [vS (bsO []), vI 0, vB false, vB false]), (9, bS (actP a (List.getD l k (0, [])).2).1)]⟩ rfl rfl rfl rfl ?_
  refine TK.condP rfl (fun h2 => ?_) (fun h2 => ?_)
  ·
   refine na ⟨[(2, .bref 3 0), (4, .bref 5 0)], [(3, bS a), (5, .box 81 [vS (bsO []), vI 0, vB false, vB false])]⟩ rfl rfl rfl rfl rfl ?_
   refine RO (B.loadBA rfl rfl rfl ag81 sz81 rfl rfl) ?_
   refine rn rfl ?_
   refine ag rfl ?_
   refine ra rfl ?_
   refine lf ?_
   refine leaf (val0 := .tup [.pv (gS a), vB false]) (by kernel_rfl) ?_
   exact tup2 (lag (lcons (pls (by rw [hI0.2.2, fold_bad (by omega) h2])) (lcons (pli (by rw [hI0.2.2, fold_bad (by omega) h2])) (lcons (plb (by rw [hI0.2.2, fold_bad (by omega) h2])) (lcons (plb (by rw [hI0.2.2, fold_bad (by omega) h2])) rfl))))) (lb (by rw [hI0.2.2, fold_bad (by omega) h2]))
  ·
   refine na ⟨[(2, .bref 3 0), (4, .bref 5 0), (8, .bref 9 0), (10, vL eP l), (11, vI l.length), (12, vI k)], [(3, bS a), (5, .box 81 [vS (bsO []), vI 0, vB false, vB false]), (9, bS (actP a (List.getD l k (0, [])).2).1)]⟩ rfl rfl rfl rfl rfl ?_
   refine RO (B.loadBA rfl rfl rfl ag81 sz81 rfl rfl) ?_
   refine rn rfl ?_
   refine zn ⟨[(2, .bref 3 0), (4, .bref 5 0), (10, vL eP l), (11, vI l.length), (12, vI k)], [(3, bS (actP a (List.getD l k (0, [])).2).1), (5, .box 81 [vS (bsO []), vI 0, vB false, vB false])]⟩ rfl rfl rfl rfl rfl ?_
   refine RO (B.add rfl rfl (by unfold R64; omega)) ?_
   refine mv rfl ?_
   refine RN ?_
   refine Aq rfl ?_
   refine PK.lp ?_
   refine LP.mk ((k + 1), (actP a (List.getD l k (0, [])).2).1) ?_ ?_ (sb rfl rfl rfl)
   · show (k + 1) ≤ l.length ∧ (actP a (List.getD l k (0, [])).2).1 ∈ sts ∧ foldA s l = foldA (actP a (List.getD l k (0, [])).2).1 (List.drop (k + 1) l)
     exact ⟨by omega, act_valid hI0.2.1 (Decidable.not_not.1 h2), by rw [hI0.2.2, fold_next (by omega) h2]⟩
   · show l.length - (k + 1) < l.length - k
     omega
 ·
  refine At rfl ?_
  refine TK.exit ?_
  refine PK.exit rfl ?_
  refine Ap rfl ?_
  refine nr ⟨[(2, .bref 3 0), (4, .bref 5 0)], [(3, bS a), (5, .box 81 [vS (bsO []), vI 0, vB false, vB false])]⟩ rfl rfl rfl rfl ?_
  refine RO (B.loadBA rfl rfl rfl ag81 sz81 rfl rfl) ?_
  refine rn rfl ?_
  refine ag rfl ?_
  refine ra rfl ?_
  refine lf ?_
  refine leaf (val0 := .tup [.pv (gS a), vB true]) (by kernel_rfl) ?_
  exact tup2 (lag (lcons (pls (by rw [hI0.2.2, fold_end (by omega)])) (lcons (pli (by rw [hI0.2.2, fold_end (by omega)])) (lcons (plb (by rw [hI0.2.2, fold_end (by omega)])) (lcons (plb (by rw [hI0.2.2, fold_end (by omega)])) rfl))))) (lb (by rw [hI0.2.2, fold_end (by omega)]))
theorem w10 (ha : CallOk Tryz.prog 19 [] (lookM []) (.pv (.lit (.bool true))) []) (hp : PowLaid) (he : ErrLaid) (hm : OrcOk Tryz.prog (mergeO 121)) (hj2 : Join2Ok) (a b : List Cmd) (t : Int) (hl1 : a.length * 40 ≤ 140737488355328) (hl2 : b.length * 40 ≤ 140737488355328) : CallOk Tryz.prog 10 [vL eC a, vL eC b, vI t] (lookM []) (vB true) [] := by
 refine cO qf10 rfl (nB rfl) rfl ?_
 refine na ⟨[(0, vL eC a), (1, vL eC b), (2, vI t)], []⟩ rfl rfl rfl rfl rfl ?_
 refine ag rfl ?_
 refine zn ⟨[(0, vL eC a), (1, vL eC b), (2, vI t)], []⟩ rfl rfl rfl rfl rfl ?_
 refine mv rfl ?_
 refine RO (B.call (w46 a (by omega)) rfl rfl rfl) ?_
 refine mv rfl ?_
 refine RO (B.call (w46 b (by omega)) rfl rfl rfl) ?_
 refine ag rfl ?_
 refine ag rfl ?_
 refine zn ⟨[(0, vL eC a), (1, vL eC b), (2, vI t), (7, vL eC a), (8, vL eC b)], []⟩ rfl rfl rfl rfl rfl ?_
 refine mv rfl ?_
 refine RO (B.call (w47 a 8 (by omega)) rfl rfl rfl) ?_
 refine RO (B.not rfl) ?_
 refine mv rfl ?_
 refine RS rfl (fun hc => B.move rfl) rfl ?_
 refine RS rfl (fun hc => B.call (w47 b 8 (by omega)) rfl (ds2 (ev1_gd rfl hc) rfl) rfl) rfl ?_
 refine RS rfl (fun hc => B.not (ev1_gd rfl hc)) rfl ?_
 refine RO (B.pick rfl rfl rfl rfl (gdB rfl) (pick_or _)) ?_
 refine mv rfl ?_
 refine RS rfl (fun hc => B.move rfl) rfl ?_
 refine RS rfl (fun hc => B.lenL (ev1_gd rfl hc) un82) rfl ?_
 refine RS rfl (fun hc => B.gtr (ev1_gd rfl hc) rfl) rfl ?_
 refine RO (B.pick rfl rfl rfl rfl (gdB rfl) (pick_or _)) ?_
 refine mv rfl ?_
 refine RS rfl (fun hc => B.move rfl) rfl ?_
 refine RS rfl (fun hc => B.lenL (ev1_gd rfl hc) un82) rfl ?_
 refine RS rfl (fun hc => B.gtr (ev1_gd rfl hc) rfl) rfl ?_
 refine RO (B.pick rfl rfl rfl rfl (gdB rfl) (pick_or _)) ?_
 refine mv rfl ?_
 refine RS rfl (fun hc => B.move rfl) rfl ?_
 refine RS rfl (fun hc => B.call (w56 a (by omega)) rfl (ds1 (ev1_gd rfl hc)) rfl) rfl ?_
 refine RS rfl (fun hc => B.move rfl) rfl ?_
 refine RS rfl (fun hc => B.call (w56 b (by omega)) rfl (ds1 (ev1_gd rfl hc)) rfl) rfl ?_
 refine RS rfl (fun hc => B.add (ev1_gd rfl hc) (ev1_gd rfl hc) (by unfold R64; (have hq1 := chkS_rng a; have hq2 := chkS_rng b; omega))) rfl ?_
 refine RS rfl (fun hc => B.neq (ev1_gd rfl hc) rfl) rfl ?_
 refine RO (B.pick rfl rfl rfl rfl (gdB rfl) (pick_or _)) ?_
 refine mv rfl ?_
 refine RS rfl (fun hc => B.move rfl) rfl ?_
 refine RS rfl (fun hc => B.call (w61z (l := a) (by exact (np_c1 (eq_of_beq hc)).1)) rfl (ds1 (ev1_gd rfl hc)) rfl) rfl ?_
 refine RS rfl (fun hc => B.gtr (ev1_gd rfl hc) rfl) rfl ?_
 refine RO (B.pick rfl rfl rfl rfl (gdB rfl) (pick_or _)) ?_
 refine mv rfl ?_
 refine RS rfl (fun hc => B.move rfl) rfl ?_
 refine RS rfl (fun hc => B.call (w61z (l := b) (by exact (np_c2 (eq_of_beq hc)).2)) rfl (ds1 (ev1_gd rfl hc)) rfl) rfl ?_
 refine RS rfl (fun hc => B.gtr (ev1_gd rfl hc) rfl) rfl ?_
 refine RO (B.pick rfl rfl rfl rfl (gdB rfl) (pick_or _)) ?_
 refine mv rfl ?_
 refine RS rfl (fun hc => B.move rfl) rfl ?_
 refine RS rfl (fun hc => B.lss (ev1_gd rfl hc) rfl) rfl ?_
 refine RO (B.pick rfl rfl rfl rfl (gdB rfl) (pick_or _)) ?_
 refine mv rfl ?_
 refine RS rfl (fun hc => B.move rfl) rfl ?_
 refine RS rfl (fun hc => B.gtr (ev1_gd rfl hc) rfl) rfl ?_
 refine RO (B.pick rfl rfl rfl rfl (gdB rfl) (pick_or _)) ?_
 refine tz ⟨[(0, vL eC a), (1, vL eC b), (2, vI t), (7, vL eC a), (83, vB (bif (bif (bif (bif (bif (bif (bif (bif (!(shortS a 8)) then true else (!(shortS b 8))) then true else (decide (8 < (a.length : Int)))) then true else (decide (8 < (b.length : Int)))) then true else (decide (((chkS a) + (chkS b)) ≠ 0))) then true else (decide (150 < (lenP a)))) then true else (decide (150 < (lenP b)))) then true else (decide (t < 0))) then true else (decide (100000 < t))))], []⟩ rfl rfl rfl rfl ?_
 refine TK.cond rfl (fun h1 => ?_) (fun h1 => ?_)
 ·
  refine na ⟨[], []⟩ rfl rfl rfl rfl rfl ?_
  refine RO (B.call (ha) rfl rfl rfl) ?_
  refine ag rfl ?_
  refine ra rfl ?_
  refine lf ?_
  refine leaf (val0 := vB true) (by kernel_rfl) ?_
  exact rfl
 ·
  refine ta ⟨[(0, vL eC a), (1, vL eC b), (2, vI t), (7, vL eC a)], []⟩ rfl rfl rfl rfl ?_
  obtain ⟨hla, hlb, hca, hcb, hna, hnb, ht0, ht1⟩ := np_early h1
  obtain ⟨ga1, ga2, ga3, ga4⟩ := chkS_ok hca
  obtain ⟨gb1, gb2, gb3, gb4⟩ := chkS_ok hcb
  have hwa := wf_of ga3
  have hwb := wf_of gb3
  have hab := chkS_app hca hcb (by omega) (by omega)
  have haa := chkS_app hca hca (by omega) (by omega)
  have hul := (wf_unr_len hwa ga2).1
  have hcu := unr_chk hwa ga2
  have hsI : idl ∈ sts := by decide
  have hr1 := runP_len (s := idl) (t := t) (l := a) (by omega)
  have hr2 := runP_len (s := idl) (t := t) (l := a ++ b) (by (simp only [List.length_append, List.length_cons, List.length_nil]; omega))
  have hr3 := runP_len (s := idl) (t := t) (l := a ++ a) (by (simp only [List.length_append, List.length_cons, List.length_nil]; omega))
  refine TK.rg (Y := tab) mixed rfl ?_
  refine mv rfl ?_
  refine RO (B.call (w54z hp hj2 a hca) rfl rfl rfl) ?_
  refine rn rfl ?_
  refine rn rfl ?_
  refine rn rfl ?_
  refine ag rfl ?_
  refine ag rfl ?_
  refine zn ⟨[(0, vL eC a), (1, vL eC b), (2, vI t), (7, vL eC a), (9, vS (bsO (prtS a))), (10, vI 0)], []⟩ rfl rfl rfl rfl rfl ?_
  refine mv rfl ?_
  refine RO (B.call (w55z hp he a hca) rfl rfl rfl) ?_
  refine rn rfl ?_
  refine rn rfl ?_
  refine rn rfl ?_
  refine rn rfl ?_
  refine ag rfl ?_
  refine ag rfl ?_
  refine ag rfl ?_
  refine zn ⟨[(0, vL eC a), (1, vL eC b), (2, vI t), (7, vL eC a), (10, vI 0), (11, vL eC a), (13, vI 0)], []⟩ rfl rfl rfl rfl rfl ?_
  refine mv rfl ?_
  refine mv rfl ?_
  refine RO (B.add rfl rfl (by unfold R64; omega)) ?_
  refine RO (B.neq rfl rfl) ?_
  refine mv rfl ?_
  refine RS rfl (fun hc => B.move rfl) rfl ?_
  refine RS rfl (fun hc => B.call (w46 a (by omega)) rfl (ds1 (ev1_gd rfl hc)) rfl) rfl ?_
  refine RS rfl (fun hc => B.move rfl) rfl ?_
  refine RS rfl (fun hc => B.call (w60 a a (by omega)) rfl (ds2 (ev1_gd rfl hc) (ev1_gd rfl hc)) rfl) rfl ?_
  refine RS rfl (fun hc => B.not (ev1_gd rfl hc)) rfl ?_
  refine RO (B.pick rfl rfl rfl rfl (gdB rfl) (pick_or _)) ?_
  refine tz ⟨[(0, vL eC a), (1, vL eC b), (2, vI t), (7, vL eC a), (106, vB (bif (decide ((0 + 0) ≠ 0)) then true else (!(decide (a = a)))))], []⟩ rfl rfl rfl rfl ?_
  refine TK.cond rfl (fun h2 => ?_) (fun h2 => ?_)
  ·
   exact absurd h2 (by simp)
  ·
   refine na ⟨[(0, vL eC a), (1, vL eC b), (2, vI t), (7, vL eC a)], []⟩ rfl rfl rfl rfl rfl ?_
   refine RO (B.call (w62) rfl rfl rfl) ?_
   refine mv rfl ?_
   refine mv rfl ?_
   refine RO (B.call (w48 hp hm idl t a (by omega)) rfl rfl rfl) ?_
   refine rn rfl ?_
   refine rn rfl ?_
   refine rn rfl ?_
   refine rn rfl ?_
   refine rn rfl ?_
   refine rn rfl ?_
   refine ag rfl ?_
   refine ag rfl ?_
   refine zn ⟨[(0, vL eC a), (1, vL eC b), (2, vI t), (7, vL eC a), (14, .bref 15 0), (15, vL eP (runP idl t a).1.2.2), (16, vI (runP idl t a).2)], [(15, bS (runP idl t a).1.1)]⟩ rfl rfl rfl rfl rfl ?_
   refine RO (B.call (w62) rfl rfl rfl) ?_
   refine mv rfl ?_
   refine RO (B.call (w63 hp hm idl (runP idl t a).1.2.2 hsI (by omega)) rfl rfl rfl) ?_
   refine rn rfl ?_
   refine rn rfl ?_
   refine rn rfl ?_
   refine rn rfl ?_
   refine rn rfl ?_
   refine ag rfl ?_
   refine tz ⟨[(0, vL eC a), (1, vL eC b), (2, vI t), (7, vL eC a), (14, .bref 15 0), (15, vL eP (runP idl t a).1.2.2), (16, vI (runP idl t a).2), (17, .bref 18 0), (18, vB (foldA idl (runP idl t a).1.2.2).2)], [(15, bS (runP idl t a).1.1), (18, bS (foldA idl (runP idl t a).1.2.2).1)]⟩ rfl rfl rfl rfl ?_
   rw [np_fold hca ht0 ht1]
   refine TK.rg (Y := tab) mixed rfl ?_
   refine mv rfl ?_
   refine RO (B.not rfl) ?_
   refine mv rfl ?_
   refine RS rfl (fun hc => B.loadBA rfl rfl rfl ag81 sz81 rfl rfl) rfl ?_
   refine RS rfl (fun hc => B.loadBA rfl rfl rfl ag81 sz81 rfl rfl) rfl ?_
   refine RS rfl (fun hc => B.stqN (ev1_gd rfl hc) (ev1_gd rfl hc) fq81 (eqv_cons eqv_s (eqv_cons eqv_i (eqv_cons eqv_b (eqv_last eqv_b))))) rfl ?_
   refine RO (B.pick rfl rfl rfl rfl (gdB rfl) (pick_or _)) ?_
   refine tz ⟨[(0, vL eC a), (1, vL eC b), (2, vI t), (7, vL eC a), (14, .bref 15 0), (15, vL eP (runP idl t a).1.2.2), (16, vI (runP idl t a).2), (127, vB (bif (!true) then true else (!((decide ((runP idl t a).1.1.1 = (runP idl t a).1.1.1)) && ((decide ((runP idl t a).1.1.2.1 = (runP idl t a).1.1.2.1)) && (((runP idl t a).1.1.2.2.1 == (runP idl t a).1.1.2.2.1) && ((runP idl t a).1.1.2.2.2 == (runP idl t a).1.1.2.2.2)))))))], [(15, bS (runP idl t a).1.1)]⟩ rfl rfl rfl rfl ?_
   refine TK.cond rfl (fun h3 => ?_) (fun h3 => ?_)
   ·
    exact absurd h3 (by simp)
   ·
    refine na ⟨[(0, vL eC a), (1, vL eC b), (2, vI t), (7, vL eC a), (14, .bref 15 0), (15, vL eP (runP idl t a).1.2.2), (16, vI (runP idl t a).2)], [(15, bS (runP idl t a).1.1)]⟩ rfl rfl rfl rfl rfl ?_
    refine rn rfl ?_
    refine mv rfl ?_
    refine RO (B.append (enc := eC) (l := []) (r := a) rfl rfl rfl un82 in116 rfl (fun _ => rfl) by116 (by (simp only [List.length_append, List.length_cons, List.length_nil]; omega))) ?_
    refine mv rfl ?_
    refine RO (B.append (enc := eC) (l := a) (r := b) rfl rfl rfl un82 in116 rfl (fun _ => rfl) by116 (by omega)) ?_
    refine rn rfl ?_
    refine tz ⟨[(0, vL eC a), (1, vL eC b), (2, vI t), (7, vL eC a), (14, .bref 15 0), (15, vL eP (runP idl t a).1.2.2), (16, vI (runP idl t a).2), (19, .aref 129 ((0 + 1) + 1))], [(15, bS (runP idl t a).1.1), (129, .arr ((0 + 1) + 1) 3 116 (List.map eC (a ++ b)))]⟩ rfl rfl rfl rfl ?_
    refine TK.frz (t := 19) rfl rfl ?_
    refine nr ⟨[(0, vL eC a), (1, vL eC b), (2, vI t), (7, vL eC a), (14, .bref 15 0), (15, vL eP (runP idl t a).1.2.2), (16, vI (runP idl t a).2), (19, vL eC (a ++ b))], [(15, bS (runP idl t a).1.1)]⟩ rfl rfl rfl rfl ?_
    refine RO (B.call (w62) rfl rfl rfl) ?_
    refine mv rfl ?_
    refine mv rfl ?_
    refine RO (B.call (w48 hp hm idl t (a ++ b) (by (simp only [List.length_append, List.length_cons, List.length_nil]; omega))) rfl rfl rfl) ?_
    refine rn rfl ?_
    refine rn rfl ?_
    refine rn rfl ?_
    refine rn rfl ?_
    refine rn rfl ?_
    refine rn rfl ?_
    refine ag rfl ?_
    refine ag rfl ?_
    refine zn ⟨[(0, vL eC a), (1, vL eC b), (2, vI t), (7, vL eC a), (14, .bref 15 0), (15, vL eP (runP idl t a).1.2.2), (16, vI (runP idl t a).2), (20, .bref 21 0), (21, vL eP (runP idl t (a ++ b)).1.2.2), (22, vI (runP idl t (a ++ b)).2)], [(15, bS (runP idl t a).1.1), (21, bS (runP idl t (a ++ b)).1.1)]⟩ rfl rfl rfl rfl rfl ?_
    refine mv rfl ?_
    refine RO (B.neq rfl rfl) ?_
    refine tz ⟨[(0, vL eC a), (1, vL eC b), (2, vI t), (7, vL eC a), (14, .bref 15 0), (15, vL eP (runP idl t a).1.2.2), (16, vI (runP idl t a).2), (20, .bref 21 0), (21, vL eP (runP idl t (a ++ b)).1.2.2), (22, vI (runP idl t (a ++ b)).2), (142, vB (decide ((runP idl t a).2 ≠ 0)))], [(15, bS (runP idl t a).1.1), (21, bS (runP idl t (a ++ b)).1.1)]⟩ rfl rfl rfl rfl ?_
    refine TK.condP rfl (fun h4 => ?_) (fun h4 => ?_)
    ·
     refine ta ⟨[(14, .bref 15 0), (15, vL eP (runP idl t a).1.2.2), (16, vI (runP idl t a).2), (20, .bref 21 0), (21, vL eP (runP idl t (a ++ b)).1.2.2), (22, vI (runP idl t (a ++ b)).2)], [(15, bS (runP idl t a).1.1), (21, bS (runP idl t (a ++ b)).1.1)]⟩ rfl rfl rfl rfl ?_
     rw [np_bad hca hcb hab ht0 ht1 (by assumption)]
     refine TK.rg (Y := tab) mixed rfl ?_
     refine mv rfl ?_
     refine mv rfl ?_
     refine RO (B.eql rfl rfl) ?_
     refine mv rfl ?_
     refine RS rfl (fun hc => B.loadBA rfl rfl rfl ag81 sz81 rfl rfl) rfl ?_
     refine RS rfl (fun hc => B.loadBA rfl rfl rfl ag81 sz81 rfl rfl) rfl ?_
     refine RS rfl (fun hc => B.stqE (ev1_gd rfl hc) (ev1_gd rfl hc) fq81 (eqv_cons eqv_s (eqv_cons eqv_i (eqv_cons eqv_b (eqv_last eqv_b))))) rfl ?_
     refine RO (B.pick rfl rfl rfl (gdB rfl) rfl (pick_and _)) ?_
     refine mv rfl ?_
     refine RS rfl (fun hc => B.move rfl) rfl ?_
     refine RS rfl (fun hc => B.call (w51 (runP idl t a).1.2.2 (by omega)) rfl (ds1 (ev1_gd rfl hc)) rfl) rfl ?_
     refine RS rfl (fun hc => B.move rfl) rfl ?_
     refine RS rfl (fun hc => B.call (w51 (runP idl t a).1.2.2 (by omega)) rfl (ds1 (ev1_gd rfl hc)) rfl) rfl ?_
     refine RS rfl (fun hc => B.call (w50 (runP idl t a).1.2.2 (runP idl t a).1.2.2 (by omega)) rfl (ds2 (ev1_gd rfl hc) (ev1_gd rfl hc)) rfl) rfl ?_
     refine RO (B.pick rfl rfl rfl (gdB rfl) rfl (pick_and _)) ?_
     refine mv rfl ?_
     refine RS rfl (fun hc => B.call (ha) rfl rfl rfl) rfl ?_
     refine RO (B.pick rfl rfl rfl (gdB rfl) rfl (pick_and _)) ?_
     refine ag rfl ?_
     refine ra rfl ?_
     refine lf ?_
     refine leaf (val0 := vB (bif (bif (bif (decide ((runP idl t a).2 = (runP idl t a).2)) then ((decide ((runP idl t a).1.1.1 = (runP idl t a).1.1.1)) && ((decide ((runP idl t a).1.1.2.1 = (runP idl t a).1.1.2.1)) && (((runP idl t a).1.1.2.2.1 == (runP idl t a).1.1.2.2.1) && ((runP idl t a).1.1.2.2.2 == (runP idl t a).1.1.2.2.2)))) else false) then (decide ((runP idl t a).1.2.2 = (runP idl t a).1.2.2)) else false) then true else false)) (by kernel_rfl) ?_
     exact lb (by simp)
    ·
     refine na ⟨[(0, vL eC a), (1, vL eC b), (2, vI t), (7, vL eC a), (14, .bref 15 0), (15, vL eP (runP idl t a).1.2.2), (20, .bref 21 0), (21, vL eP (runP idl t (a ++ b)).1.2.2), (22, vI (runP idl t (a ++ b)).2)], [(15, bS (runP idl t a).1.1), (21, bS (runP idl t (a ++ b)).1.1)]⟩ rfl rfl rfl rfl rfl ?_
     refine mv rfl ?_
     refine ag rfl ?_
     refine zn ⟨[(0, vL eC a), (1, vL eC b), (2, vI t), (7, vL eC a), (14, .bref 15 0), (15, vL eP (runP idl t a).1.2.2), (20, .bref 21 0), (21, vL eP (runP idl t (a ++ b)).1.2.2), (22, vI (runP idl t (a ++ b)).2), (23, vI t)], [(15, bS (runP idl t a).1.1), (21, bS (runP idl t (a ++ b)).1.1)]⟩ rfl rfl rfl rfl rfl ?_
     refine mv rfl ?_
     refine RO (B.call (w64r a.length a 4 (Nat.le_refl _) hwa ga2 (by omega) (by omega)) rfl rfl rfl) ?_
     refine RO (B.lenL rfl un83) ?_
     refine mv rfl ?_
     refine ra rfl ?_
     refine TK.loop (α := Nat × Int) (fun x => ⟨[(0, vL eC a), (1, vL eC b), (2, vI t), (7, vL eC a), (14, .bref 15 0), (15, vL eP (runP idl t a).1.2.2), (20, .bref 21 0), (21, vL eP (runP idl t (a ++ b)).1.2.2), (22, vI (runP idl t (a ++ b)).2), (23, vI x.2), (163, vL eC (unrP a)), (164, vI ((List.length (unrP a) : Nat) : Int)), (165, vI ((x.1 : Nat) : Int))], [(15, bS (runP idl t a).1.1), (21, bS (runP idl t (a ++ b)).1.1)]⟩) (fun x => x.1 ≤ List.length (unrP a) ∧ x.2 = t + sumC (List.take x.1 (unrP a)) ∧ 0 ≤ x.2 ∧ x.2 ≤ 100000 + x.1 * 100000) (fun x => List.length (unrP a) - x.1) (0, t) ?_ (sb rfl rfl rfl) ?_
     · show 0 ≤ List.length (unrP a) ∧ t = t + sumC (List.take 0 (unrP a)) ∧ 0 ≤ t ∧ t ≤ 100000 + 0 * 100000
       exact ⟨Nat.zero_le _, by simp [sumC], ht0, by omega⟩
     rintro ⟨k, e⟩ hI0
     replace hI0 : k ≤ List.length (unrP a) ∧ e = t + sumC (List.take k (unrP a)) ∧ 0 ≤ e ∧ e ≤ 100000 + k * 100000 := hI0
     show TK _ _ _ _ _ _ ⟨[(0, vL eC a), (1, vL eC b), (2, vI t), (7, vL eC a), (14, .bref 15 0), (15, vL eP (runP idl t a).1.2.2), (20, .bref 21 0), (21, vL eP (runP idl t (a ++ b)).1.2.2), (22, vI (runP idl t (a ++ b)).2), (23, vI e), (163, vL eC (unrP a)), (164, vI ((List.length (unrP a) : Nat) : Int)), (165, vI k)], [(15, bS (runP idl t a).1.1), (21, bS (runP idl t (a ++ b)).1.1)]⟩
     refine na ⟨[(0, vL eC a), (1, vL eC b), (2, vI t), (7, vL eC a), (14, .bref 15 0), (15, vL eP (runP idl t a).1.2.2), (20, .bref 21 0), (21, vL eP (runP idl t (a ++ b)).1.2.2), (22, vI (runP idl t (a ++ b)).2), (23, vI e), (163, vL eC (unrP a)), (164, vI ((List.length (unrP a) : Nat) : Int)), (165, vI k)], [(15, bS (runP idl t a).1.1), (21, bS (runP idl t (a ++ b)).1.1)]⟩ rfl rfl rfl rfl rfl ?_
     refine RO (B.lss rfl rfl) ?_
     refine tz ⟨[(0, vL eC a), (1, vL eC b), (2, vI t), (7, vL eC a), (14, .bref 15 0), (15, vL eP (runP idl t a).1.2.2), (20, .bref 21 0), (21, vL eP (runP idl t (a ++ b)).1.2.2), (22, vI (runP idl t (a ++ b)).2), (23, vI e), (163, vL eC (unrP a)), (164, vI ((List.length (unrP a) : Nat) : Int)), (165, vI k), (166, vB (decide ((k : Int) < ((List.length (unrP a) : Nat) : Int))))], [(15, bS (runP idl t a).1.1), (21, bS (runP idl t (a ++ b)).1.1)]⟩ rfl rfl rfl rfl ?_
     refine TK.condP rfl (fun h5 => ?_) (fun h5 => ?_)
     ·
      refine ta ⟨[(0, vL eC a), (1, vL eC b), (2, vI t), (7, vL eC a), (14, .bref 15 0), (15, vL eP (runP idl t a).1.2.2), (20, .bref 21 0), (21, vL eP (runP idl t (a ++ b)).1.2.2), (22, vI (runP idl t (a ++ b)).2), (23, vI e), (163, vL eC (unrP a)), (164, vI ((List.length (unrP a) : Nat) : Int)), (165, vI k)], [(15, bS (runP idl t a).1.1), (21, bS (runP idl t (a ++ b)).1.1)]⟩ rfl rfl rfl rfl ?_
      have hck := cmd_sz (hcu _ (getD_mem (z := z3) (k := k) (by omega)))
      refine TK.rg (Y := tab) mixed rfl ?_
      refine RO (B.idx (z := z3) (i := k) rfl rfl un83 sz115 (fun _ => rfl) rfl (by omega)) ?_
      refine RO (B.loadA (ds := [pS (bsO (List.getD (unrP a) k z3).1), pS (bsO (List.getD (unrP a) k z3).2.1), pI (List.getD (unrP a) k z3).2.2]) rfl ag115 sz115 (nB rfl) rfl) ?_
      refine rn rfl ?_
      refine rn rfl ?_
      refine zn ⟨[(0, vL eC a), (1, vL eC b), (2, vI t), (7, vL eC a), (14, .bref 15 0), (15, vL eP (runP idl t a).1.2.2), (20, .bref 21 0), (21, vL eP (runP idl t (a ++ b)).1.2.2), (22, vI (runP idl t (a ++ b)).2), (23, vI e), (25, .bref 26 0), (163, vL eC (unrP a)), (164, vI ((List.length (unrP a) : Nat) : Int)), (165, vI k)], [(15, bS (runP idl t a).1.1), (21, bS (runP idl t (a ++ b)).1.1), (26, bC 115 (List.getD (unrP a) k z3))]⟩ rfl rfl rfl rfl rfl ?_
      refine mv rfl ?_
      refine RO (B.fadB rfl fa115_2 rfl) ?_
      refine RO (B.loadB rfl rfl rfl ag3 sz3 rfl) ?_
      refine RO (B.add rfl rfl (by unfold R64; omega)) ?_
      refine ag rfl ?_
      refine zn ⟨[(0, vL eC a), (1, vL eC b), (2, vI t), (7, vL eC a), (14, .bref 15 0), (15, vL eP (runP idl t a).1.2.2), (20, .bref 21 0), (21, vL eP (runP idl t (a ++ b)).1.2.2), (22, vI (runP idl t (a ++ b)).2), (23, vI (e + (List.getD (unrP a) k z3).2.2)), (163, vL eC (unrP a)), (164, vI ((List.length (unrP a) : Nat) : Int)), (165, vI k)], [(15, bS (runP idl t a).1.1), (21, bS (runP idl t (a ++ b)).1.1)]⟩ rfl rfl rfl rfl rfl ?_
      refine RO (B.add rfl rfl (by unfold R64; omega)) ?_
      refine mv rfl ?_
      refine RN ?_
      refine Aq rfl ?_
      refine PK.lp ?_
      refine LP.mk ((k + 1), (e + (List.getD (unrP a) k z3).2.2)) ?_ ?_ (sb rfl rfl rfl)
      · show (k + 1) ≤ List.length (unrP a) ∧ (e + (List.getD (unrP a) k z3).2.2) = t + sumC (List.take (k + 1) (unrP a)) ∧ 0 ≤ (e + (List.getD (unrP a) k z3).2.2) ∧ (e + (List.getD (unrP a) k z3).2.2) ≤ 100000 + (k + 1) * 100000
        refine ⟨by omega, ?_, by omega, by omega⟩; rw [sumC_take (by omega)]; omega
      · show List.length (unrP a) - (k + 1) < List.length (unrP a) - k
        omega
     ·
      refine At rfl ?_
      refine TK.exit ?_
      refine PK.exit rfl ?_
      refine Ap rfl ?_
      refine tn ⟨[(0, vL eC a), (1, vL eC b), (2, vI t), (7, vL eC a), (14, .bref 15 0), (15, vL eP (runP idl t a).1.2.2), (20, .bref 21 0), (21, vL eP (runP idl t (a ++ b)).1.2.2), (22, vI (runP idl t (a ++ b)).2), (23, vI e)], [(15, bS (runP idl t a).1.1), (21, bS (runP idl t (a ++ b)).1.1)]⟩ rfl rfl rfl ?_
      have hek : e = t + sumC (unrP a) := by rw [hI0.2.1, List.take_of_length_le (by omega)]
      rw [hek]
      refine TK.rg (Y := tab) mixed rfl ?_
      refine RO (B.loadBA rfl rfl rfl ag81 sz81 rfl rfl) ?_
      refine mv rfl ?_
      refine mv rfl ?_
      refine RO (B.call (w48 hp hm (runP idl t a).1.1 (t + sumC (unrP a)) b (by omega)) rfl rfl rfl) ?_
      refine rn rfl ?_
      refine rn rfl ?_
      refine rn rfl ?_
      refine rn rfl ?_
      refine rn rfl ?_
      refine rn rfl ?_
      refine ag rfl ?_
      refine ag rfl ?_
      refine tz ⟨[(0, vL eC a), (2, vI t), (7, vL eC a), (15, vL eP (runP idl t a).1.2.2), (20, .bref 21 0), (21, vL eP (runP idl t (a ++ b)).1.2.2), (22, vI (runP idl t (a ++ b)).2), (26, .bref 27 0), (27, vL eP (runP (runP idl t a).1.1 (t + sumC (unrP a)) b).1.2.2), (28, vI (runP (runP idl t a).1.1 (t + sumC (unrP a)) b).2)], [(21, bS (runP idl t (a ++ b)).1.1), (27, bS (runP (runP idl t a).1.1 (t + sumC (unrP a)) b).1.1)]⟩ rfl rfl rfl rfl ?_
      have h0r : (runP idl t a).2 = 0 := by exact Decidable.not_not.1 (by assumption)
      have hr4 := runP_len (s := (runP idl t a).1.1) (t := (t + sumC (unrP a))) (l := b) (by omega)
      rw [np_two hca hcb hab hna hnb ht0 ht1 h0r]
      refine TK.rg (Y := tab) mixed rfl ?_
      refine mv rfl ?_
      refine mv rfl ?_
      refine RO (B.neq rfl rfl) ?_
      refine mv rfl ?_
      refine RS rfl (fun hc => B.loadBA rfl rfl rfl ag81 sz81 rfl rfl) rfl ?_
      refine RS rfl (fun hc => B.loadBA rfl rfl rfl ag81 sz81 rfl rfl) rfl ?_
      refine RS rfl (fun hc => B.stqN (ev1_gd rfl hc) (ev1_gd rfl hc) fq81 (eqv_cons eqv_s (eqv_cons eqv_i (eqv_cons eqv_b (eqv_last eqv_b))))) rfl ?_
      refine RO (B.pick rfl rfl rfl rfl (gdB rfl) (pick_or _)) ?_
      refine RG.splitB (EfR.on rfl (B.move rfl)) (fun h6 => ?_) (fun h6 => ?_)
      ·
       exact absurd h6 (by simp)
      ·
       refine RT rfl (B.move rfl) ?_
       refine RT rfl (B.call (w51 ((runP idl t a).1.2.2 ++ (runP (runP idl t a).1.1 (t + sumC (unrP a)) b).1.2.2) (by (simp only [List.length_append, List.length_cons, List.length_nil]; omega))) rfl rfl rfl) ?_
       refine RT rfl (B.move rfl) ?_
       refine RT rfl (B.callS (l := []) (w51o (runP idl t a).1.2.2 (by omega)) rfl rfl trivial rfl rfl) ?_
       refine RT rfl (B.move rfl) ?_
       refine RT rfl (B.call (w51 (runP (runP idl t a).1.1 (t + sumC (unrP a)) b).1.2.2 (by omega)) rfl rfl rfl) ?_
       refine RT rfl (B.appendZ rfl rfl rfl un90 in176 rfl (fun _ => rfl) by176 (by omega)) ?_
       refine RT rfl (B.call (w50 ((runP idl t a).1.2.2 ++ (runP (runP idl t a).1.1 (t + sumC (unrP a)) b).1.2.2) ((runP idl t a).1.2.2 ++ (runP (runP idl t a).1.1 (t + sumC (unrP a)) b).1.2.2) (by (simp only [List.length_append, List.length_cons, List.length_nil]; omega))) rfl rfl rfl) ?_
       refine RT rfl (B.not rfl) ?_
       refine RO (B.pick rfl rfl rfl rfl rfl rfl) ?_
       refine tz ⟨[(0, vL eC a), (2, vI t), (7, vL eC a), (200, vB (!(decide (((runP idl t a).1.2.2 ++ (runP (runP idl t a).1.1 (t + sumC (unrP a)) b).1.2.2) = ((runP idl t a).1.2.2 ++ (runP (runP idl t a).1.1 (t + sumC (unrP a)) b).1.2.2)))))], []⟩ rfl rfl rfl rfl ?_
       refine TK.cond rfl (fun h7 => ?_) (fun h7 => ?_)
       ·
        exact absurd h7 (by simp)
       ·
        refine na ⟨[(0, vL eC a), (2, vI t), (7, vL eC a)], []⟩ rfl rfl rfl rfl rfl ?_
        refine mv rfl ?_
        refine RO (B.lenL rfl un82) ?_
        refine RO (B.eql rfl rfl) ?_
        refine RG.splitB (EfR.on rfl (B.move rfl)) (fun h8 => ?_) (fun h8 => ?_)
        ·
         refine RF rfl ?_
         refine RF rfl ?_
         refine RF rfl ?_
         refine RF rfl ?_
         refine RF rfl ?_
         refine RF rfl ?_
         refine RF rfl ?_
         refine RF rfl ?_
         refine RF rfl ?_
         refine RO (B.pick rfl rfl rfl rfl rfl rfl) ?_
         refine tz ⟨[(0, vL eC a), (2, vI t), (214, vB true)], []⟩ rfl rfl rfl rfl ?_
         refine TK.condT rfl ?_
         refine na ⟨[], []⟩ rfl rfl rfl rfl rfl ?_
         refine RO (B.call (ha) rfl rfl rfl) ?_
         refine ag rfl ?_
         refine ra rfl ?_
         refine lf ?_
         refine leaf (val0 := vB true) (by kernel_rfl) ?_
         exact rfl
        ·
         refine RT rfl (B.run rfl) ?_
         refine RT rfl (B.run rfl) ?_
         refine RT rfl (B.move rfl) ?_
         refine RT rfl (B.append (enc := eC) (l := [([114, 101, 112, 101, 97, 116], [], 2)]) (r := a) rfl rfl rfl un83 in115 rfl (fun _ => rfl) by115 (by (simp only [List.length_append, List.length_cons, List.length_nil]; omega))) ?_
         refine RT rfl (B.run rfl) ?_
         refine RT rfl (B.runZ (val := .pv (.slice (List.map eC [([101, 110, 100], [], 0)]))) rfl (fun l => Frz.arr l _ _ _ _ _) rfl) ?_
         refine RT rfl (B.appendZ (enc := eC) (l := ([([114, 101, 112, 101, 97, 116], [], 2)] ++ a)) (r := [([101, 110, 100], [], 0)]) rfl rfl rfl un83 in115 rfl (fun _ => rfl) by115 (by (simp only [List.length_append, List.length_cons, List.length_nil]; omega))) ?_
         refine RT rfl (B.call (w56 (loopC a) (by (simp only [List.length_append, List.length_cons, List.length_nil]; omega))) rfl rfl rfl) ?_
         refine RT rfl (B.neq rfl rfl) ?_
         refine RO (B.pick rfl rfl rfl rfl rfl rfl) ?_
         refine tz ⟨[(0, vL eC a), (2, vI t), (214, vB (decide ((chkS (loopC a)) ≠ 0)))], []⟩ rfl rfl rfl rfl ?_
         refine TK.condP rfl (fun h9 => ?_) (fun h9 => ?_)
         ·
          refine na ⟨[], []⟩ rfl rfl rfl rfl rfl ?_
          refine RO (B.call (ha) rfl rfl rfl) ?_
          refine ag rfl ?_
          refine ra rfl ?_
          refine lf ?_
          refine leaf (val0 := vB true) (by kernel_rfl) ?_
          exact rfl
         ·
          refine na ⟨[(0, vL eC a), (2, vI t)], []⟩ rfl rfl rfl rfl rfl ?_
          refine rn rfl ?_
          refine rn rfl ?_
          refine mv rfl ?_
          refine RO (B.append (enc := eC) (l := [([114, 101, 112, 101, 97, 116], [], 2)]) (r := a) rfl rfl rfl un82 in116 rfl (fun _ => rfl) by116 (by (simp only [List.length_append, List.length_cons, List.length_nil]; omega))) ?_
          refine rn rfl ?_
          refine RO (B.runZ (val := .pv (.slice (List.map eC [([101, 110, 100], [], 0)]))) rfl (fun l => Frz.arr l _ _ _ _ _) rfl) ?_
          refine RO (B.append (enc := eC) (l := ([([114, 101, 112, 101, 97, 116], [], 2)] ++ a)) (r := [([101, 110, 100], [], 0)]) rfl rfl rfl un82 in116 rfl (fun _ => rfl) by116 (by (simp only [List.length_append, List.length_cons, List.length_nil]; omega))) ?_
          refine rn rfl ?_
          refine tz ⟨[(0, vL eC a), (2, vI t), (29, .aref 218 ((0 + 1) + 1))], [(218, .arr ((0 + 1) + 1) 3 116 (List.map eC (loopC a)))]⟩ rfl rfl rfl rfl ?_
          have hlc : chkS (loopC a) = 0 := by exact Decidable.not_not.1 (by assumption)
          refine TK.frz (t := 29) rfl rfl ?_
          refine nr ⟨[(0, vL eC a), (2, vI t), (29, vL eC (loopC a))], []⟩ rfl rfl rfl rfl ?_
          refine RO (B.call (w62) rfl rfl rfl) ?_
          refine mv rfl ?_
          refine mv rfl ?_
          refine RO (B.call (w48 hp hm idl t (loopC a) (by (simp only [List.length_append, List.length_cons, List.length_nil]; omega))) rfl rfl rfl) ?_
          refine rn rfl ?_
          refine rn rfl ?_
          refine rn rfl ?_
          refine rn rfl ?_
          refine rn rfl ?_
          refine rn rfl ?_
          refine ag rfl ?_
          refine ag rfl ?_
          refine zn ⟨[(0, vL eC a), (2, vI t), (30, .bref 31 0), (31, vL eP (runP idl t (loopC a)).1.2.2), (32, vI (runP idl t (loopC a)).2)], [(31, bS (runP idl t (loopC a)).1.1)]⟩ rfl rfl rfl rfl rfl ?_
          refine RO (B.call (w62) rfl rfl rfl) ?_
          refine mv rfl ?_
          refine rn rfl ?_
          refine mv rfl ?_
          refine RO (B.append (enc := eC) (l := []) (r := a) rfl rfl rfl un82 in116 rfl (fun _ => rfl) by116 (by (simp only [List.length_append, List.length_cons, List.length_nil]; omega))) ?_
          refine mv rfl ?_
          refine RO (B.appendZ (enc := eC) (l := a) (r := a) rfl rfl rfl un82 in116 rfl (fun _ => rfl) by116 (by omega)) ?_
          refine RO (B.call (w48 hp hm idl t (a ++ a) (by (simp only [List.length_append, List.length_cons, List.length_nil]; omega))) rfl rfl rfl) ?_
          refine rn rfl ?_
          refine rn rfl ?_
          refine rn rfl ?_
          refine rn rfl ?_
          refine rn rfl ?_
          refine rn rfl ?_
          refine ag rfl ?_
          refine ag rfl ?_
          refine tz ⟨[(30, .bref 31 0), (31, vL eP (runP idl t (loopC a)).1.2.2), (32, vI (runP idl t (loopC a)).2), (33, .bref 34 0), (34, vL eP (runP idl t (a ++ a)).1.2.2), (35, vI (runP idl t (a ++ a)).2)], [(31, bS (runP idl t (loopC a)).1.1), (34, bS (runP idl t (a ++ a)).1.1)]⟩ rfl rfl rfl rfl ?_
          rw [np_loop hca hlc haa ht0 ht1]
          refine TK.rg (Y := tab) mixed rfl ?_
          refine mv rfl ?_
          refine mv rfl ?_
          refine RO (B.eql rfl rfl) ?_
          refine mv rfl ?_
          refine RS rfl (fun hc => B.loadBA rfl rfl rfl ag81 sz81 rfl rfl) rfl ?_
          refine RS rfl (fun hc => B.loadBA rfl rfl rfl ag81 sz81 rfl rfl) rfl ?_
          refine RS rfl (fun hc => B.stqE (ev1_gd rfl hc) (ev1_gd rfl hc) fq81 (eqv_cons eqv_s (eqv_cons eqv_i (eqv_cons eqv_b (eqv_last eqv_b))))) rfl ?_
          refine RO (B.pick rfl rfl rfl (gdB rfl) rfl (pick_and _)) ?_
          refine mv rfl ?_
          refine RS rfl (fun hc => B.move rfl) rfl ?_
          refine RS rfl (fun hc => B.call (w51 (runP idl t (a ++ a)).1.2.2 (by omega)) rfl (ds1 (ev1_gd rfl hc)) rfl) rfl ?_
          refine RS rfl (fun hc => B.move rfl) rfl ?_
          refine RS rfl (fun hc => B.call (w51 (runP idl t (a ++ a)).1.2.2 (by omega)) rfl (ds1 (ev1_gd rfl hc)) rfl) rfl ?_
          refine RS rfl (fun hc => B.call (w50 (runP idl t (a ++ a)).1.2.2 (runP idl t (a ++ a)).1.2.2 (by omega)) rfl (ds2 (ev1_gd rfl hc) (ev1_gd rfl hc)) rfl) rfl ?_
          refine RO (B.pick rfl rfl rfl (gdB rfl) rfl (pick_and _)) ?_
          refine mv rfl ?_
          refine RS rfl (fun hc => B.call (ha) rfl rfl rfl) rfl ?_
          refine RO (B.pick rfl rfl rfl (gdB rfl) rfl (pick_and _)) ?_
          refine ag rfl ?_
          refine ra rfl ?_
          refine lf ?_
          refine leaf (val0 := vB (bif (bif (bif (decide ((runP idl t (a ++ a)).2 = (runP idl t (a ++ a)).2)) then ((decide ((runP idl t (a ++ a)).1.1.1 = (runP idl t (a ++ a)).1.1.1)) && ((decide ((runP idl t (a ++ a)).1.1.2.1 = (runP idl t (a ++ a)).1.1.2.1)) && (((runP idl t (a ++ a)).1.1.2.2.1 == (runP idl t (a ++ a)).1.1.2.2.1) && ((runP idl t (a ++ a)).1.1.2.2.2 == (runP idl t (a ++ a)).1.1.2.2.2)))) else false) then (decide ((runP idl t (a ++ a)).1.2.2 = (runP idl t (a ++ a)).1.2.2)) else false) then true else false)) (by kernel_rfl) ?_
          exact lb (by simp)
end Go.Lens.Tm
end
section
namespace Go.Lens.Tb
open Go.Proofs Go.Proofs.YtomghboflcafbaaGreatDoor Go.RowKit Go.ChangeShapes
set_option linter.unusedSectionVars false
set_option maxRecDepth 100000
theorem gPow : Tryz.prog.globalNamed "internal/strconv.uint64pow10" = some 3 := by kernel_rfl
theorem tPow : (Tryz.prog.globals[3]?).map (·.type) = some 434 := by kernel_rfl
theorem plainLaid : (Rows.nightPartsRow.laid.all fun x => x.2.handleName?.isNone) = true := by kernel_rfl
theorem powDatum : (Rows.laid_internal_strconv_uint64pow10 : DataW Unit) = Lib.tabData .u64 Lib.pow10Tab := by kernel_rfl
theorem pow_of {W : World} (h : laidMetH Tryz.prog Rows.nightPartsRow.laid W) : ∃ T fr, W.heap[3]? = some (.cells (Lib.pow10Tab.map fun z => Value.int .u64 z).toArray T fr) := by
  rw [MakeChecks.laidMetH_plain _ _ _ plainLaid] at h
  obtain ⟨ps, ⟨g0, t0, cs0, f0, p0, q0, _, _, _, _, ⟨g1, t1, cs1, f1, p1, q1, _, _, _, _, ⟨g2, t2, cs2, f2, p2, q2, hg, ht, hv, hd, _, _⟩, _⟩, _⟩, _, _⟩ := h
  obtain rfl := Option.some.inj (gPow.symm.trans hg)
  obtain rfl := Option.some.inj (tPow.symm.trans ht)
  have hd' : DataW.trod (fun _ => ()) Tryz.prog W 0 (fun _ => true) false f2 434 cs2.toList = some (Rows.laid_internal_strconv_uint64pow10, p2) := hd
  rw [powDatum] at hd'
  have hc := Lib.cells_of_tab Tryz.underlying434 Tryz.underlying406 (by kernel_rfl) (by kernel_rfl) hd'
  have hv' : (Tryz.prog.globalNamed "internal/strconv.uint64pow10").bind (fun g => match W.heap[g]? with | some (.cells cs _ _) => some cs | _ => none) = some cs2 := hv
  rw [gPow] at hv'
  simp only [Option.bind_some] at hv'
  split at hv'
  · rename_i cs T fr hb
    cases hv'
    refine ⟨T, fr, ?_⟩
    rw [hb, ← hc, Array.toArray_toList]
  · cases hv'
theorem gSyn : Tryz.prog.globalNamed "strconv.ErrSyntax" = some 4 := by kernel_rfl
theorem gRng : Tryz.prog.globalNamed "strconv.ErrRange" = some 5 := by kernel_rfl
theorem tSyn : (Tryz.prog.globals[4]?).map (·.type) = some 273 := by kernel_rfl
theorem tRng : (Tryz.prog.globals[5]?).map (·.type) = some 273 := by kernel_rfl
theorem star : "*" ++ "errors.errorString" = "*errors.errorString" := by decide
theorem row445 (u : TypeId) (h : Tryz.prog.typeName? 3 u = some "*errors.errorString") : u = 445 :=
  typeName_ptr_named (nm := "errors.errorString") (by rw [star]; kernel_rfl) (by kernel_rfl) (by decide) u (by rw [star]; exact h)
theorem err_of {W : World} (h : laidMetH Tryz.prog Rows.nightPartsRow.laid W) : (∃ tp p, W.var? Tryz.prog "strconv.ErrSyntax" = some #[.iface tp p]) ∧ ∃ tp p, W.var? Tryz.prog "strconv.ErrRange" = some #[.iface tp p] := by
  rw [MakeChecks.laidMetH_plain _ _ _ plainLaid] at h
  have h4 := h.tail.tail.tail.tail
  obtain ⟨a, _, h1, _⟩ := laid_sentinel h4 gRng tRng Tryz.underlying273 row445 Tryz.underlying445 Tryz.underlying447 rfl rfl Tryz.underlying9 (show Tryz.prog.cellsOf 447 = 1 by kernel_rfl) (show Tryz.prog.cellsOf 9 = 1 by kernel_rfl)
  obtain ⟨b, _, h2, _⟩ := laid_sentinel h4.tail gSyn tSyn Tryz.underlying273 row445 Tryz.underlying445 Tryz.underlying447 rfl rfl Tryz.underlying9 (show Tryz.prog.cellsOf 447 = 1 by kernel_rfl) (show Tryz.prog.cellsOf 9 = 1 by kernel_rfl)
  exact ⟨⟨_, _, h2⟩, _, _, h1⟩
@[reducible] def lzOf (W : World) : Lz := ⟨fun b => if b = 3 ∨ b = 4 ∨ b = 5 then W.heap[b]? else none⟩
theorem lzOf_laid (W : World) : ∀ b o, (lzOf W).L b = some o → W.heap[b]? = some o := by
  intro b o h
  change (if b = 3 ∨ b = 4 ∨ b = 5 then W.heap[b]? else none) = some o at h
  split at h
  · exact h
  · cases h
theorem powLaid_of {W : World} (h : laidMetH Tryz.prog Rows.nightPartsRow.laid W) : @PowLaid (lzOf W) := by
  obtain ⟨T, fr, hb⟩ := pow_of h
  exact ⟨3, T, fr, gPow, hb⟩
theorem varLaid_of {W : World} {n : String} {g : Nat} (hg : Tryz.prog.globalNamed n = some g) (hb : (lzOf W).L g = W.heap[g]?) (h : ∃ tp p, W.var? Tryz.prog n = some #[.iface tp p]) : @Go.Lens.Tm.VarLaid (lzOf W) n := by
  obtain ⟨tp, p, hv⟩ := h
  unfold World.var? at hv
  rw [hg] at hv
  simp only [Option.bind_some] at hv
  split at hv
  · rename_i cs T fr hc
    cases hv
    exact ⟨g, tp, p, T, fr, hg, hb.trans hc⟩
  · cases hv
theorem errLaid_of {W : World} (h : laidMetH Tryz.prog Rows.nightPartsRow.laid W) : @Go.Lens.Tm.ErrLaid (lzOf W) :=
  ⟨varLaid_of gSyn rfl (err_of h).1, varLaid_of gRng rfl (err_of h).2⟩
theorem bs_back (s : ByteArray) : bsO s.data.toList = s := rfl
section
variable {H : Type} {enc : TypeId × Value → H} {w : World} {base : Nat} {spare : Nat → Bool} {held : Bool}
theorem read_cmd {n : Nat} {c : List Value} {y : DataW H × List MemPlace} (h : DataW.trod enc Tryz.prog w base spare held n 116 c = some y) :
    ∃ f : Go.Lens.Tm.Cmd, c = [.string (bsO f.1), .string (bsO f.2.1), .int .i64 f.2.2] := by
  obtain ⟨xs, m, rfl, rfl, hl, hx, hf⟩ := DataW.trod_struct Tryz.underlying116 h
  have hl2 : c.length = 3 := hl.trans (by kernel_rfl)
  have hx2 : xs.length = 3 := hx
  match c, hl2, xs, hx2, hf with
  | [c0, c1, c2], _, [x0, x1, x2], _, hf =>
    have f0 := hf 0 _ rfl
    have f1 := hf 1 _ rfl
    have f2 := hf 2 _ rfl
    obtain ⟨s, e0, _⟩ := DataW.trod_string Tryz.underlying9 f0
    obtain ⟨s2, e1, _⟩ := DataW.trod_string Tryz.underlying9 f1
    obtain ⟨m2, e2, _⟩ := DataW.trod_int Tryz.underlying3 f2
    cases e0; cases e1; cases e2
    exact ⟨(s.data.toList, s2.data.toList, m2), rfl⟩
theorem read_cmds {fuel : Nat} {cs : List Value} {x : DataW H × List MemPlace} (h : DataW.trod enc Tryz.prog w base spare held fuel 82 cs = some x) :
    ∃ (l : List Go.Lens.Tm.Cmd) (v : Value), cs = [v] ∧ RelPV (gh0.rd w) (.slice (l.map Go.Lens.Tm.eC)) v ∧ ((l = [] ∧ x.1 = .nil) ∨ ∃ es rest, x.1 = .slice es rest ∧ es.length = l.length) :=
  read_slice (encE := Go.Lens.Tm.eC) (vals := fun f : Go.Lens.Tm.Cmd => [.string (bsO f.1), .string (bsO f.2.1), .int .i64 f.2.2]) Tryz.underlying82 (show Tryz.prog.cellsOf 116 = 3 by kernel_rfl) (by omega)
    (fun n c y hy => read_cmd hy) (fun _ => rfl) (fun _ => rfl)
    (fun a b off hc => relCells_lits (vs := [.string (bsO a.1), .string (bsO a.2.1), .int .i64 a.2.2]) (by simp [isLit]) hc) h
end
end Go.Lens.Tb
end
