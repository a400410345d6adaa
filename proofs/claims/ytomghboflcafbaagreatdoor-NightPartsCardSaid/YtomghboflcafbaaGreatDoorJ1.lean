/- A part of the proof that NightPartsCardSaid holds, without conditions. -/
import Derived.Test.YtomghboflcafbaaGreatDoorS3
import Derived.Test.YtomghboflcafbaaGreatDoorS4
import Derived.Laws.RangeAny
import Derived.Test.YtomghboflcafbaaGreatDoorS10
import Derived.Lib.Bytealg
import Derived.Lib.ItoaLen
import Derived.Lib.AtoiAllCases
import Derived.Lib.AtoiTie
set_option linter.unusedVariables false
set_option linter.unusedSimpArgs false
section
namespace Go.Lens
set_option linter.unusedSectionVars false
variable [Lz]
theorem bsO_size (a : List UInt8) : (bsO a).size = a.length := rfl
theorem bsO_append (a b : List UInt8) : bsO a ++ bsO b = bsO (a ++ b) := by
 apply ByteArray.ext
 apply Array.toList_inj.1
 simp [bsO]
theorem bsO_extract (a : List UInt8) (i j : Nat) : (bsO a).extract i j = bsO ((a.take j).drop i) := by
 apply ByteArray.ext
 apply Array.toList_inj.1
 simp [bsO, ByteArray.data_extract, List.drop_take]
def ltS (a b : List UInt8) : Bool := Op.bytesLess a b
def leS (a b : List UInt8) : Bool := Op.bytesLess a b || a == b
section
variable {P : Program} {Y : Tab} [TabOk P Y] {nb : Nat} {s : St} {dst : Option Tmp} {ty u : TypeId} {pos : String} {af : Array Edge} {gd : Option (Nat × Bool)} {t : TypeId} {x y z : Operand} {a b : List UInt8}
theorem B.catB (hx : ev1 s x = lit (.string (bsO a))) (hy : ev1 s y = lit (.string (bsO b))) (h : a.length + b.length ≤ 9223372036854775807) : Body P Y nb s ⟨dst, .binOp .add t x y u, ty, pos, af, gd⟩ (lit (.string (bsO (a ++ b)))) [] [] := by
 refine B.bin hx hy ?_
 show qE (some (decide ((bsO a).size + (bsO b).size ≤ 9223372036854775807), lit (.string (bsO a ++ bsO b)))) = _
 have : decide ((bsO a).size + (bsO b).size ≤ 9223372036854775807) = true := decide_eq_true h
 rw [this, bsO_append]; rfl
theorem B.seqB (hx : ev1 s x = lit (.string (bsO a))) (hy : ev1 s y = lit (.string (bsO b))) : Body P Y nb s ⟨dst, .binOp .eql t x y u, ty, pos, af, gd⟩ (lit (.bool (decide (a = b)))) [] [] := by
 have := B.seql (P := P) (Y := Y) (nb := nb) (s := s) (dst := dst) (ty := ty) (u := u) (pos := pos) (af := af) (gd := gd) (t := t) hx hy
 rwa [show decide (bsO a = bsO b) = decide (a = b) by rw [Bool.eq_iff_iff]; simp [bsO_inj]] at this
theorem B.sneB (hx : ev1 s x = lit (.string (bsO a))) (hy : ev1 s y = lit (.string (bsO b))) : Body P Y nb s ⟨dst, .binOp .neq t x y u, ty, pos, af, gd⟩ (lit (.bool (decide (a ≠ b)))) [] [] := by
 have := B.sneq (P := P) (Y := Y) (nb := nb) (s := s) (dst := dst) (ty := ty) (u := u) (pos := pos) (af := af) (gd := gd) (t := t) hx hy
 rwa [show decide (bsO a ≠ bsO b) = decide (a ≠ b) by rw [Bool.eq_iff_iff]; simp [bsO_inj]] at this
theorem B.lenB {at' : TypeId} (hx : ev1 s x = lit (.string (bsO a))) (hu : Y.underlying at' = some .string) : Body P Y nb s ⟨dst, .call ⟨.builtin .len, ⟨[x]⟩, ⟨[at']⟩⟩, ty, pos, af, gd⟩ (lit (.int .i64 ((a.length : Nat) : Int))) [] [] := B.lenS hx hu
theorem B.slHB {hi : Operand} {k : IntKind} {n : Int} {j : Nat} (hx : ev1 s x = lit (.string (bsO a))) (hy : ev1 s hi = lit (.int k n)) (hu : Y.underlying t = some .string) (hn : n = (j : Int)) (hj : j ≤ a.length) :
 Body P Y nb s ⟨dst, .slice t x none (some hi) none, ty, pos, af, gd⟩ (lit (.string (bsO (a.take j)))) [] [] := by
 refine B.pure (lo := 0) (nm := 0) (O0_ok P) ?_ ?_
 ·intro z hz
  have : z = x ∨ z = hi := by simpa [Op.operands] using hz
  rcases this with rfl | rfl
  ·rw [hx]; rfl
  ·rw [hy]; rfl
 ·have e1 : evU (tmpsOf [x, hi]) s x = _ := (evU_own (by simp)).trans hx
  have e2 : evU (tmpsOf [x, hi]) s hi = _ := (evU_own (by simp)).trans hy
  have hv : effV Y 0 dst (.slice t x none (some hi) none) (evU (tmpsOf [x, hi]) s) (lookM []) = liftQ (sliceW Y t (lookM []) (evU (tmpsOf [x, hi]) s x) none (some (evU (tmpsOf [x, hi]) s hi)) none) := rfl
  show (match effV Y 0 dst (.slice t x none (some hi) none) (evU (tmpsOf [x, hi]) s) (lookM []) with | some ⟨true, v, m⟩ => some (v, m) | _ => none) = _
  rw [hv, e1, e2]
  have hq : sliceW Y t (lookM []) (lit (.string (bsO a))) none (some (lit (.int k n))) none = some (true, lit (.string (bsO (a.take j)))) := by
   show sliceQ Y t (lookM []) (lit (.string (bsO a))) none (some (lit (.int k n))) none = _
   unfold sliceQ lit
   simp only [hu, bound, Option.getD_some, Option.getD_none]
   subst hn
   have : decide ((0 : Int) ≤ 0 ∧ (0 : Int) ≤ (j : Int) ∧ (j : Int) ≤ ((bsO a).size : Int)) = true := decide_eq_true ⟨by omega, by omega, by rw [bsO_size]; omega⟩
   rw [this, Int.toNat_natCast, bsO_extract]; rfl
  rw [hq]; rfl
theorem B.slLB {lo : Operand} {k : IntKind} {n : Int} {i : Nat} (hx : ev1 s x = lit (.string (bsO a))) (hy : ev1 s lo = lit (.int k n)) (hu : Y.underlying t = some .string) (hn : n = (i : Int)) (hi : i ≤ a.length) :
 Body P Y nb s ⟨dst, .slice t x (some lo) none none, ty, pos, af, gd⟩ (lit (.string (bsO (a.drop i)))) [] [] := by
 refine B.pure (lo := 0) (nm := 0) (O0_ok P) ?_ ?_
 ·intro z hz
  have : z = x ∨ z = lo := by simpa [Op.operands] using hz
  rcases this with rfl | rfl
  ·rw [hx]; rfl
  ·rw [hy]; rfl
 ·have e1 : evU (tmpsOf [x, lo]) s x = _ := (evU_own (by simp)).trans hx
  have e2 : evU (tmpsOf [x, lo]) s lo = _ := (evU_own (by simp)).trans hy
  have hv : effV Y 0 dst (.slice t x (some lo) none none) (evU (tmpsOf [x, lo]) s) (lookM []) = liftQ (sliceW Y t (lookM []) (evU (tmpsOf [x, lo]) s x) (some (evU (tmpsOf [x, lo]) s lo)) none none) := by
   show (match frzU (lookM []) (refsOf (evU (tmpsOf [x, lo]) s) [x]) with
    | [] => stepV Y 0 dst (.slice t x (some lo) none none) (evU (tmpsOf [x, lo]) s) (lookM []) (lookM [])
    | fz => match stepV Y 0 dst (.slice t x (some lo) none none) (evU (tmpsOf [x, lo]) s) (upd fz (lookM [])) (upd fz (lookM [])) with
     | some ⟨s, v, ms⟩ => some ⟨s, v, mrg ms fz⟩
     | none => none) = _
   have hrf : refsOf (evU (tmpsOf [x, lo]) s) [x] = [] := by simp [refsOf, e1, lit, DV.refs]
   rw [hrf]; rfl
  show (match effV Y 0 dst (.slice t x (some lo) none none) (evU (tmpsOf [x, lo]) s) (lookM []) with | some ⟨true, v, m⟩ => some (v, m) | _ => none) = _
  rw [hv, e1, e2]
  have hq : sliceW Y t (lookM []) (lit (.string (bsO a))) (some (lit (.int k n))) none none = some (true, lit (.string (bsO (a.drop i)))) := by
   show sliceQ Y t (lookM []) (lit (.string (bsO a))) (some (lit (.int k n))) none none = _
   unfold sliceQ lit
   simp only [hu, bound, Option.getD_some, Option.getD_none]
   subst hn
   have : decide ((0 : Int) ≤ (i : Int) ∧ (i : Int) ≤ ((bsO a).size : Int) ∧ ((bsO a).size : Int) ≤ ((bsO a).size : Int)) = true := decide_eq_true ⟨by omega, by rw [bsO_size]; omega, by omega⟩
   rw [this, Int.toNat_natCast, Int.toNat_natCast, bsO_extract, bsO_size, List.take_of_length_le (Nat.le_refl _)]
  rw [hq]; rfl
theorem B.slDL {α : Type} {enc : α → List PV} {l : List α} {lo : Operand} {k : IntKind} {n : Int} {i : Nat} {e : TypeId} {sz : Nat} (hx : ev1 s x = .pv (.slice (l.map enc))) (hy : ev1 s lo = lit (.int k n)) (hu : Y.underlying t = some (.slice e)) (hs : szT Y e = some sz) (hsz : ∀ a, (enc a).length = sz) (hn : n = (i : Int)) (hi : i ≤ l.length) :
 Body P Y nb s ⟨dst, .slice t x (some lo) none none, ty, pos, af, gd⟩ (.pv (.slice ((l.drop i).map enc))) [] [] := by
 refine B.pure (lo := 0) (nm := 0) (O0_ok P) ?_ ?_
 ·intro z hz
  have : z = x ∨ z = lo := by simpa [Op.operands] using hz
  rcases this with rfl | rfl
  ·rw [hx]; rfl
  ·rw [hy]; rfl
 ·have e1 : evU (tmpsOf [x, lo]) s x = _ := (evU_own (by simp)).trans hx
  have e2 : evU (tmpsOf [x, lo]) s lo = _ := (evU_own (by simp)).trans hy
  have hv : effV Y 0 dst (.slice t x (some lo) none none) (evU (tmpsOf [x, lo]) s) (lookM []) = liftQ (sliceW Y t (lookM []) (evU (tmpsOf [x, lo]) s x) (some (evU (tmpsOf [x, lo]) s lo)) none none) := by
   show (match frzU (lookM []) (refsOf (evU (tmpsOf [x, lo]) s) [x]) with
    | [] => stepV Y 0 dst (.slice t x (some lo) none none) (evU (tmpsOf [x, lo]) s) (lookM []) (lookM [])
    | fz => match stepV Y 0 dst (.slice t x (some lo) none none) (evU (tmpsOf [x, lo]) s) (upd fz (lookM [])) (upd fz (lookM [])) with
     | some ⟨s, v, ms⟩ => some ⟨s, v, mrg ms fz⟩
     | none => none) = _
   have hrf : refsOf (evU (tmpsOf [x, lo]) s) [x] = [] := by simp [refsOf, e1, DV.refs]
   rw [hrf]; rfl
  show (match effV Y 0 dst (.slice t x (some lo) none none) (evU (tmpsOf [x, lo]) s) (lookM []) with | some ⟨true, v, m⟩ => some (v, m) | _ => none) = _
  rw [hv, e1, e2]
  have hal : allLen sz (l.map enc) = true := by
   unfold allLen
   rw [List.all_eq_true]
   intro b hb
   obtain ⟨c, _, rfl⟩ := List.mem_map.1 hb
   simpa using hsz c
  have hq : sliceW Y t (lookM []) (.pv (.slice (l.map enc))) (some (lit (.int k n))) none none = some (true, .pv (.slice ((l.drop i).map enc))) := by
   show sliceQ Y t (lookM []) (.pv (.slice (l.map enc))) (some (lit (.int k n))) none none = _
   unfold sliceQ lit
   simp only [hu, hs, bound, Option.getD_none, hal, Bool.and_true]
   subst hn
   have : decide ((0 : Int) ≤ (i : Int) ∧ (i : Int) ≤ ((l.map enc).length : Int) ∧ ((l.map enc).length : Int) ≤ ((l.map enc).length : Int)) = true := decide_eq_true ⟨by omega, by rw [List.length_map]; omega, by omega⟩
   rw [this, Int.toNat_natCast, Int.toNat_natCast, List.take_of_length_le (Nat.le_refl _), List.map_drop]
  rw [hq]; rfl
end
end Go.Lens
end
section
namespace Go.Lens.Tb
open Go.Proofs
variable [Lz]
set_option linter.unusedSectionVars false
set_option maxRecDepth 100000
attribute [local irreducible] TK PK T RG EfR Body
theorem ag3 : aggT tab 3 = some false := by kernel_rfl
theorem ag34 : aggT tab 34 = some false := by kernel_rfl
theorem sz3 : szT tab 3 = some 1 := by kernel_rfl
theorem sz34 : szT tab 34 = some 1 := by kernel_rfl
theorem un22 : tab.underlying 22 = some (.slice 3) := by kernel_rfl
theorem un289 : tab.underlying 289 = some (.slice 34) := by kernel_rfl
theorem w101 (b : Bool) (e : Int) : CallOk Tryz.prog 101 [vB b, vI e] (lookM []) (vI (whenF b e)) [] := by
 refine cO qf101 rfl (nB rfl) rfl ?_
 refine na ⟨[(0, vB b), (1, vI e)], []⟩ rfl rfl rfl rfl rfl ?_
 refine ag rfl ?_
 refine zn ⟨[(0, vB b), (1, vI e)], []⟩ rfl rfl rfl rfl rfl ?_
 refine mv rfl ?_
 refine tz ⟨[(1, vI e), (5, vB b)], []⟩ rfl rfl rfl rfl ?_
 refine TK.cond rfl (fun h1 => ?_) (fun h1 => ?_)
 ·
  refine na ⟨[(1, vI e)], []⟩ rfl rfl rfl rfl rfl ?_
  refine mv rfl ?_
  refine ag rfl ?_
  refine ra rfl ?_
  refine lf ?_
  refine leaf (val0 := vI e) (by kernel_rfl) ?_
  exact li (by subst h1; rfl)
 ·
  refine na ⟨[], []⟩ rfl rfl rfl rfl rfl ?_
  refine ag rfl ?_
  refine ra rfl ?_
  refine lf ?_
  refine leaf (val0 := vI 0) (by kernel_rfl) ?_
  exact li (by subst h1; rfl)
theorem w93 (n low high : Int) : CallOk Tryz.prog 93 [vI n, vI low, vI high] (lookM []) (vB (outF n low high)) [] := by
 refine cO qf93 rfl (nB rfl) rfl ?_
 refine na ⟨[(0, vI n), (1, vI low), (2, vI high)], []⟩ rfl rfl rfl rfl rfl ?_
 refine ag rfl ?_
 refine zn ⟨[(0, vI n), (1, vI low), (2, vI high)], []⟩ rfl rfl rfl rfl rfl ?_
 refine mv rfl ?_
 refine mv rfl ?_
 refine RO (B.lss rfl rfl) ?_
 refine mv rfl ?_
 refine RS rfl (fun hc => B.move rfl) rfl ?_
 refine RS rfl (fun hc => B.move rfl) rfl ?_
 refine RS rfl (fun hc => B.gtr (ev1_gd rfl hc) (ev1_gd rfl hc)) rfl ?_
 refine RO (B.pick rfl rfl rfl rfl (gdB rfl) (pick_or _)) ?_
 refine ag rfl ?_
 refine ra rfl ?_
 refine lf ?_
 refine leaf (val0 := vB (bif (decide (n < low)) then true else (decide (high < n)))) (by kernel_rfl) ?_
 exact lb (by simp only [outF, bif_or])
theorem w99 (n low high : Int) : CallOk Tryz.prog 99 [vI n, vI low, vI high] (lookM []) (vI (withinF n low high)) [] := by
 refine cO qf99 rfl (nB rfl) rfl ?_
 refine na ⟨[(0, vI n), (1, vI low), (2, vI high)], []⟩ rfl rfl rfl rfl rfl ?_
 refine ag rfl ?_
 refine zn ⟨[(0, vI n), (1, vI low), (2, vI high)], []⟩ rfl rfl rfl rfl rfl ?_
 refine mv rfl ?_
 refine mv rfl ?_
 refine RO (B.lss rfl rfl) ?_
 refine mv rfl ?_
 refine RS rfl (fun hc => B.move rfl) rfl ?_
 refine RS rfl (fun hc => B.move rfl) rfl ?_
 refine RS rfl (fun hc => B.gtr (ev1_gd rfl hc) (ev1_gd rfl hc)) rfl ?_
 refine RO (B.pick rfl rfl rfl rfl (gdB rfl) (pick_or _)) ?_
 refine RO (B.call (w101 (bif (decide (n < low)) then true else (decide (high < n))) 3) rfl rfl rfl) ?_
 refine ag rfl ?_
 refine ra rfl ?_
 refine lf ?_
 refine leaf (val0 := vI (whenF (bif (decide (n < low)) then true else (decide (high < n))) 3)) (by kernel_rfl) ?_
 exact li (by simp only [withinF, outF, bif_or])
theorem w100 (l : List Int) (hl : l.length ≤ 1000000000000000) : CallOk Tryz.prog 100 [vL eI l] (lookM []) (vI (firstF l)) [] := by
 refine cO qf100 rfl (nB rfl) rfl ?_
 refine na ⟨[(0, vL eI l)], []⟩ rfl rfl rfl rfl rfl ?_
 refine ag rfl ?_
 refine zn ⟨[(0, vL eI l)], []⟩ rfl rfl rfl rfl rfl ?_
 refine mv rfl ?_
 refine RO (B.lenL rfl un289) ?_
 refine mv rfl ?_
 refine ra rfl ?_
 refine TK.loop (α := Nat) (fun x => ⟨[(5, vL eI l), (6, vI l.length), (7, vI x)], []⟩) (fun x => x ≤ l.length ∧ firstF l = firstF (List.drop x l)) (fun x => l.length - x) 0 ?_ (sb rfl rfl rfl) ?_
 · show 0 ≤ l.length ∧ firstF l = firstF (List.drop 0 l)
   exact ⟨Nat.zero_le _, rfl⟩
 rintro k hI0
 replace hI0 : k ≤ l.length ∧ firstF l = firstF (List.drop k l) := hI0
 show TK _ _ _ _ _ _ ⟨[(5, vL eI l), (6, vI l.length), (7, vI k)], []⟩
 refine na ⟨[(5, vL eI l), (6, vI l.length), (7, vI k)], []⟩ rfl rfl rfl rfl rfl ?_
 refine RO (B.lss rfl rfl) ?_
 refine tz ⟨[(5, vL eI l), (6, vI l.length), (7, vI k), (8, vB (decide ((k : Int) < (l.length : Int))))], []⟩ rfl rfl rfl rfl ?_
 refine TK.condP rfl (fun h1 => ?_) (fun h1 => ?_)
 ·
  refine na ⟨[(5, vL eI l), (6, vI l.length), (7, vI k)], []⟩ rfl rfl rfl rfl rfl ?_
  refine RO (B.idx (z := 0) (i := k) rfl rfl un289 sz34 (fun _ => rfl) rfl (by omega)) ?_
  refine RO (B.loadP rfl ag34 sz34) ?_
  refine ag rfl ?_
  refine zn ⟨[(4, vI (List.getD l k 0)), (5, vL eI l), (6, vI l.length), (7, vI k)], []⟩ rfl rfl rfl rfl rfl ?_
  refine mv rfl ?_
  refine RO (B.neq rfl rfl) ?_
  refine tz ⟨[(4, vI (List.getD l k 0)), (5, vL eI l), (6, vI l.length), (7, vI k), (12, vB (decide ((List.getD l k 0) ≠ 0)))], []⟩ rfl rfl rfl rfl ?_
  refine TK.condP rfl (fun h2 => ?_) (fun h2 => ?_)
  ·
   refine na ⟨[(4, vI (List.getD l k 0))], []⟩ rfl rfl rfl rfl rfl ?_
   refine mv rfl ?_
   refine ag rfl ?_
   refine ra rfl ?_
   refine lf ?_
   refine leaf (val0 := vI (List.getD l k 0)) (by kernel_rfl) ?_
   exact li (by (rw [hI0.2, drop_at l k 0 (by omega), firstF, if_neg (by omega)]))
  ·
   refine na ⟨[(5, vL eI l), (6, vI l.length), (7, vI k)], []⟩ rfl rfl rfl rfl rfl ?_
   refine RO (B.add rfl rfl (by unfold R64; omega)) ?_
   refine mv rfl ?_
   refine RN ?_
   refine Aq rfl ?_
   refine PK.lp ?_
   refine LP.mk (k + 1) ?_ ?_ (sb rfl rfl rfl)
   · show (k + 1) ≤ l.length ∧ firstF l = firstF (List.drop (k + 1) l)
     refine ⟨by omega, ?_⟩; rw [hI0.2, drop_at l k 0 (by omega), firstF, if_pos (by omega)]
   · show l.length - (k + 1) < l.length - k
     omega
 ·
  refine At rfl ?_
  refine TK.exit ?_
  refine PK.exit rfl ?_
  refine Ap rfl ?_
  refine nr ⟨[], []⟩ rfl rfl rfl rfl ?_
  refine ag rfl ?_
  refine ra rfl ?_
  refine lf ?_
  refine leaf (val0 := vI 0) (by kernel_rfl) ?_
  exact li (by (rw [hI0.2, List.drop_eq_nil_of_le (by omega)]; rfl))
end Go.Lens.Tb
end
section
namespace Go.Lens.Tb
set_option linter.unusedSectionVars false
theorem bnot_t {b : Bool} (h : (!b) = true) : b = false := by cases b <;> first | rfl | cases h
theorem bnot_f {b : Bool} (h : (!b) = false) : b = true := by cases b <;> first | rfl | cases h
def letterF (c : Int) : Bool := (decide (97 ≤ c) && decide (c ≤ 122)) || (decide (65 ≤ c) && decide (c ≤ 90))
def nameAt (i : Nat) (c : Int) : Bool := letterF c || (!decide ((i : Int) = 0) && ((decide (48 ≤ c) && decide (c ≤ 57)) || decide (c = 95)))
def isNameF (s : ByteArray) : Bool := decide (1 ≤ s.size) && decide (s.size ≤ 24) && (List.range s.size).all fun i => nameAt i (byteAt s i)
theorem nm8 : ∀ a b c d z e f g : Bool, (bif !(bif (bif a then b else false) then true else (bif c then d else false)) then (bif z then true else !(bif (bif e then f else false) then true else g)) else false) = !(((a && b) || (c && d)) || (!z && ((e && f) || g))) := by decide
theorem isName_no {s : ByteArray} (k : Nat) (hk : k < s.size) (h : nameAt k (byteAt s k) = false) : isNameF s = false := by
  unfold isNameF
  have : ((List.range s.size).all fun i => nameAt i (byteAt s i)) = false := by
    rw [List.all_eq_false]
    exact ⟨k, List.mem_range.2 hk, by simp [h]⟩
  rw [this, Bool.and_false]
theorem isName_yes {s : ByteArray} (h1 : 1 ≤ s.size) (h2 : s.size ≤ 24) (h : ∀ j, j < s.size → nameAt j (byteAt s j) = true) : isNameF s = true := by
  unfold isNameF
  rw [decide_eq_true h1, decide_eq_true h2]
  simp only [Bool.true_and, List.all_eq_true, List.mem_range]
  exact h
theorem isName_len {s : ByteArray} (h : s.size < 1 ∨ 24 < s.size) : isNameF s = false := by
  unfold isNameF
  rcases h with h | h
  · rw [decide_eq_false (by omega)]; simp
  · rw [decide_eq_false (p := s.size ≤ 24) (by omega)]; simp
def findI {α : Type} (p : α → Bool) : List α → Int
  | [] => -1
  | a :: l => bif p a then 0 else (bif decide (findI p l < 0) then -1 else findI p l + 1)
section
variable {α : Type} {p : α → Bool} {z : α}
theorem findI_none : ∀ {l : List α}, (∀ j, j < l.length → p (l.getD j z) = false) → findI p l = -1
  | [], _ => rfl
  | a :: l, h => by
    have h0 := h 0 (by simp)
    have h1 := findI_none (l := l) fun j hj => h (j + 1) (by simpa using hj)
    simp only [List.getD_cons_zero] at h0
    simp [findI, h0, h1]
theorem findI_some : ∀ {l : List α} (k : Nat), k < l.length → (∀ j, j < k → p (l.getD j z) = false) → p (l.getD k z) = true → findI p l = k
  | [], k, hk, _, _ => by simp at hk
  | a :: l, 0, _, _, h => by
    simp only [List.getD_cons_zero] at h
    simp [findI, h]
  | a :: l, k + 1, hk, hj, h => by
    have h0 := hj 0 (by omega)
    have h1 := findI_some (l := l) k (by simpa using hk) (fun j hj' => hj (j + 1) (by omega)) h
    simp only [List.getD_cons_zero] at h0
    simp only [findI, h0, h1, cond_false]
    rw [decide_eq_false (by omega)]; simp
theorem findI_nonneg : ∀ (l : List α), decide (0 ≤ findI p l) = l.any p
  | [] => rfl
  | a :: l => by
    have ih := findI_nonneg l
    simp only [findI, List.any_cons]
    by_cases hp : p a = true
    · simp only [hp, cond_true, Bool.true_or]; rfl
    · rw [Bool.not_eq_true] at hp
      simp only [hp, cond_false, Bool.false_or]
      rw [← ih]
      by_cases h : findI p l < 0
      · rw [decide_eq_true h, decide_eq_false (p := 0 ≤ findI p l) (by omega)]; rfl
      · rw [decide_eq_false h, decide_eq_true (p := 0 ≤ findI p l) (by omega)]
        exact decide_eq_true (by simp only [cond_false]; omega)
end
def inRangeF (t : Tgt) : Bool := !outF t.bright 1 1000 && !outF t.place 0 360 && !outF t.length 1 1440 && !outF t.from_ 0 1440 && !outF t.to 0 1440 && !outF t.limit 0 100
def chkNightF (start : Int) (W : List Int) : Int := bif outF start 0 1440 then 3 else bif decide (W.length = 0) then 12 else bif decide (24 < W.length) then 5 else bif W.any (fun x => outF x 0 100) then 3 else 0
def chkOne (pre : List Tgt) (t : Tgt) : Int := bif !isNameF t.name then 8 else bif pre.any (fun o => decide (o.name = t.name)) then 9 else bif !inRangeF t then 3 else 0
def chkGo : List Tgt → List Tgt → Int
  | _, [] => 0
  | pre, t :: r => if chkOne pre t = 0 then chkGo (pre ++ [t]) r else chkOne pre t
def chkTgtsF (l : List Tgt) : Int := bif decide (32 < l.length) then 5 else chkGo [] l
def ordOne (n : Int) (pre : List Int) (i : Int) : Int := bif outF i 0 (n - 1) then 10 else bif pre.any (fun j => decide (j = i)) then 9 else 0
def ordGo (n : Int) : List Int → List Int → Int
  | _, [] => 0
  | pre, t :: r => if ordOne n pre t = 0 then ordGo n (pre ++ [t]) r else ordOne n pre t
def chkOrdF (n : Int) (o : List Int) : Int := ordGo n [] o
def calmM (W : List Int) (lim b : Int) (n : Nat) : Bool := (List.range n).all fun j => decide (W.getD ((b + (j : Int)) / 60).toNat 0 ≤ lim)
def canF (W : List Int) (t : Tgt) (b : Int) : Bool := !(decide (b < t.from_)) && !(decide (t.to < b + t.length)) && !(decide (60 * (W.length : Int) < b + t.length)) && calmM W t.limit b t.length.toNat
def searchF (p : Int → Bool) (b : Int) : Nat → Int
  | 0 => -1
  | n + 1 => bif p b then b else searchF p (b + 1) n
def begF (W : List Int) (t : Tgt) (e : Int) : Int := searchF (canF W t) e (1441 - e).toNat
def shortN (W : List Int) : Bool := decide ((W.length : Int) ≤ 6) || (decide (24 < (W.length : Int)) && decide ((W.length : Int) ≤ 26))
def shortT (l : List Tgt) (k limit : Int) : Bool := bif ((decide (k < (l.length : Int)) && decide ((l.length : Int) ≤ limit)) || decide (34 < (l.length : Int))) then false else l.all fun t => decide (t.name.size ≤ 40)
def tlGo (W : List Int) (l : List Tgt) : Option Tgt → Int → List Int → Option (List Int)
  | _, _, [] => some []
  | prev, at_, i :: r =>
    let t := l.getD i.toNat default
    let b := begF W t (match prev with | none => at_ | some p => at_ + apartF t.place p.place)
    if b < 0 then none else (tlGo W l (some t) (b + t.length) r).map (b :: ·)
def tlF (start : Int) (W : List Int) (l : List Tgt) (order : List Int) : Option (List Int) := tlGo W l none start order
end Go.Lens.Tb
end
section
namespace Go.Lens.Tb
open Go.Proofs
variable [Lz]
set_option linter.unusedSectionVars false
set_option maxRecDepth 100000
attribute [local irreducible] TK PK T RG EfR Body
theorem ag9 : aggT tab 9 = some false := by kernel_rfl
theorem sz9 : szT tab 9 = some 1 := by kernel_rfl
theorem un9 : tab.underlying 9 = some (.string) := by kernel_rfl
theorem w94 (s : ByteArray) : CallOk Tryz.prog 94 [vS s] (lookM []) (vB (isNameF s)) [] := by
 refine cO qf94 rfl (nB rfl) rfl ?_
 refine na ⟨[(0, vS s)], []⟩ rfl rfl rfl rfl rfl ?_
 refine ag rfl ?_
 refine zn ⟨[(0, vS s)], []⟩ rfl rfl rfl rfl rfl ?_
 refine mv rfl ?_
 refine RO (B.lenS rfl un9) ?_
 refine RO (B.lss rfl rfl) ?_
 refine mv rfl ?_
 refine RS rfl (fun hc => B.move rfl) rfl ?_
 refine RS rfl (fun hc => B.lenS (ev1_gd rfl hc) un9) rfl ?_
 refine RS rfl (fun hc => B.gtr (ev1_gd rfl hc) rfl) rfl ?_
 refine RO (B.pick rfl rfl rfl rfl (gdB rfl) (pick_or _)) ?_
 refine tz ⟨[(0, vS s), (13, vB (bif (decide (((ByteArray.size s : Nat) : Int) < 1)) then true else (decide (24 < ((ByteArray.size s : Nat) : Int)))))], []⟩ rfl rfl rfl rfl ?_
 refine TK.cond rfl (fun h1 => ?_) (fun h1 => ?_)
 ·
  refine na ⟨[], []⟩ rfl rfl rfl rfl rfl ?_
  refine ag rfl ?_
  refine ra rfl ?_
  refine lf ?_
  refine leaf (val0 := vB false) (by kernel_rfl) ?_
  exact lb (by (refine (isName_len ?_).symm; simp only [bif_or, Bool.or_eq_true, decide_eq_true_eq] at h1; omega))
 ·
  refine na ⟨[(0, vS s)], []⟩ rfl rfl rfl rfl rfl ?_
  refine ag rfl ?_
  refine ra rfl ?_
  refine TK.loop (α := Nat) (fun x => ⟨[(0, vS s), (3, vI x)], []⟩) (fun x => x ≤ ByteArray.size s ∧ 1 ≤ ByteArray.size s ∧ ByteArray.size s ≤ 24 ∧ ∀ j, j < x → nameAt j (byteAt s j) = true) (fun x => ByteArray.size s - x) 0 ?_ (sb rfl rfl rfl) ?_
  · show 0 ≤ ByteArray.size s ∧ 1 ≤ ByteArray.size s ∧ ByteArray.size s ≤ 24 ∧ ∀ j, j < 0 → nameAt j (byteAt s j) = true
    simp only [bif_or, Bool.or_eq_false_iff, decide_eq_false_iff_not] at h1; exact ⟨by omega, by omega, by omega, fun j hj => by omega⟩
  rintro k hI0
  replace hI0 : k ≤ ByteArray.size s ∧ 1 ≤ ByteArray.size s ∧ ByteArray.size s ≤ 24 ∧ ∀ j, j < k → nameAt j (byteAt s j) = true := hI0
  show TK _ _ _ _ _ _ ⟨[(0, vS s), (3, vI k)], []⟩
  refine na ⟨[(0, vS s), (3, vI k)], []⟩ rfl rfl rfl rfl rfl ?_
  refine mv rfl ?_
  refine mv rfl ?_
  refine RO (B.lenS rfl un9) ?_
  refine RO (B.lss rfl rfl) ?_
  refine tz ⟨[(0, vS s), (3, vI k), (17, vB (decide ((k : Int) < ((ByteArray.size s : Nat) : Int))))], []⟩ rfl rfl rfl rfl ?_
  refine TK.condP rfl (fun h2 => ?_) (fun h2 => ?_)
  ·
   refine na ⟨[(0, vS s), (3, vI k)], []⟩ rfl rfl rfl rfl rfl ?_
   refine mv rfl ?_
   refine mv rfl ?_
   refine RO (B.sidx (i := k) rfl rfl un9 rfl (by omega)) ?_
   refine ag rfl ?_
   refine zn ⟨[(0, vS s), (3, vI k), (4, .pv (.lit (.int .u8 (byteAt s k))))], []⟩ rfl rfl rfl rfl rfl ?_
   refine mv rfl ?_
   refine RO (B.geq rfl rfl) ?_
   refine mv rfl ?_
   refine RS rfl (fun hc => B.move rfl) rfl ?_
   refine RS rfl (fun hc => B.leq (ev1_gd rfl hc) rfl) rfl ?_
   refine RO (B.pick rfl rfl rfl (gdB rfl) rfl (pick_and _)) ?_
   refine mv rfl ?_
   refine RS rfl (fun hc => B.move rfl) rfl ?_
   refine RS rfl (fun hc => B.geq (ev1_gd rfl hc) rfl) rfl ?_
   refine RS rfl (fun hc => B.move (ev1_gd rfl hc)) rfl ?_
   refine RS rfl (fun hc => B.move rfl) rfl ?_
   refine RS rfl (fun hc => B.leq (ev1_gd rfl hc) rfl) rfl ?_
   refine RS rfl (fun hc => B.pick (ev1_gd rfl hc) rfl rfl (gdB rfl) rfl (pick_and2 hc)) rfl ?_
   refine RO (B.pick rfl rfl rfl rfl (gdB rfl) (pick_or _)) ?_
   refine ag rfl ?_
   refine zn ⟨[(0, vS s), (3, vI k), (4, .pv (.lit (.int .u8 (byteAt s k)))), (5, vB (bif (bif (decide (97 ≤ (byteAt s k))) then (decide ((byteAt s k) ≤ 122)) else false) then true else (bif (decide (65 ≤ (byteAt s k))) then (decide ((byteAt s k) ≤ 90)) else false)))], []⟩ rfl rfl rfl rfl rfl ?_
   refine mv rfl ?_
   refine RO (B.not rfl) ?_
   refine mv rfl ?_
   refine RS rfl (fun hc => B.move rfl) rfl ?_
   refine RS rfl (fun hc => B.eql (ev1_gd rfl hc) rfl) rfl ?_
   refine RS rfl (fun hc => B.move (ev1_gd rfl hc)) rfl ?_
   refine RS rfl (fun hc => B.move rfl) rfl ?_
   refine RS rfl (fun hc => B.geq (ev1_gd rfl hc) rfl) rfl ?_
   refine RS rfl (fun hc => B.move (ev1_gd rfl hc)) rfl ?_
   refine RS rfl (fun hc => B.move rfl) rfl ?_
   refine RS rfl (fun hc => B.leq (ev1_gd rfl hc) rfl) rfl ?_
   refine RS rfl (fun hc => B.pick (ev1_gd rfl hc) rfl rfl (gdB rfl) rfl (pick_and2 hc)) rfl ?_
   refine RS rfl (fun hc => B.move (ev1_gd rfl hc)) rfl ?_
   refine RS rfl (fun hc => B.move rfl) rfl ?_
   refine RS rfl (fun hc => B.eql (ev1_gd rfl hc) rfl) rfl ?_
   refine RS rfl (fun hc => B.pick (ev1_gd rfl hc) rfl rfl rfl (gdB rfl) (pick_or2 hc)) rfl ?_
   refine RS rfl (fun hc => B.not (ev1_gd rfl hc)) rfl ?_
   refine RS rfl (fun hc => B.pick (ev1_gd rfl hc) rfl rfl rfl (gdB rfl) (pick_or2 hc)) rfl ?_
   refine RO (B.pick rfl rfl rfl (gdB rfl) rfl (pick_and _)) ?_
   refine tz ⟨[(0, vS s), (3, vI k), (55, vB (bif (!(bif (bif (decide (97 ≤ (byteAt s k))) then (decide ((byteAt s k) ≤ 122)) else false) then true else (bif (decide (65 ≤ (byteAt s k))) then (decide ((byteAt s k) ≤ 90)) else false))) then (bif (decide ((k : Int) = 0)) then true else (!(bif (bif (decide (48 ≤ (byteAt s k))) then (decide ((byteAt s k) ≤ 57)) else false) then true else (decide ((byteAt s k) = 95))))) else false))], []⟩ rfl rfl rfl rfl ?_
   refine TK.cond rfl (fun h3 => ?_) (fun h3 => ?_)
   ·
    refine na ⟨[], []⟩ rfl rfl rfl rfl rfl ?_
    refine ag rfl ?_
    refine ra rfl ?_
    refine lf ?_
    refine leaf (val0 := vB false) (by kernel_rfl) ?_
    exact lb (by (exact (isName_no k (by omega) (bnot_t ((nm8 _ _ _ _ _ _ _ _).symm.trans h3))).symm))
   ·
    refine na ⟨[(0, vS s), (3, vI k)], []⟩ rfl rfl rfl rfl rfl ?_
    refine mv rfl ?_
    refine RO (B.add rfl rfl (by unfold R64; omega)) ?_
    refine ag rfl ?_
    refine RN ?_
    refine Aq rfl ?_
    refine PK.lp ?_
    refine LP.mk (k + 1) ?_ ?_ (sb rfl rfl rfl)
    · show (k + 1) ≤ ByteArray.size s ∧ 1 ≤ ByteArray.size s ∧ ByteArray.size s ≤ 24 ∧ ∀ j, j < (k + 1) → nameAt j (byteAt s j) = true
      refine ⟨by omega, hI0.2.1, hI0.2.2.1, fun j hj => ?_⟩; rcases Nat.lt_succ_iff_lt_or_eq.1 hj with h | h; exact hI0.2.2.2 j h; subst h; exact bnot_f ((nm8 _ _ _ _ _ _ _ _).symm.trans h3)
    · show ByteArray.size s - (k + 1) < ByteArray.size s - k
      omega
  ·
   refine At rfl ?_
   refine TK.exit ?_
   refine PK.exit rfl ?_
   refine Ap rfl ?_
   refine nr ⟨[], []⟩ rfl rfl rfl rfl ?_
   refine ag rfl ?_
   refine ra rfl ?_
   refine lf ?_
   refine leaf (val0 := vB true) (by kernel_rfl) ?_
   exact lb (by exact (isName_yes hI0.2.1 hI0.2.2.1 fun j hj => hI0.2.2.2 j (by omega)).symm)
end Go.Lens.Tb
end
section
namespace Go.Lens.Tb
open Go.Proofs
variable [Lz]
set_option linter.unusedSectionVars false
set_option maxRecDepth 100000
attribute [local irreducible] TK PK T RG EfR Body
end Go.Lens.Tb
end
section
namespace Go.Lens.Tb
open Go.Proofs
variable [Lz]
set_option linter.unusedSectionVars false
set_option maxRecDepth 100000
attribute [local irreducible] TK PK T RG EfR Body
end Go.Lens.Tb
end
section
namespace Go.Lens.Tb
set_option linter.unusedSectionVars false
abbrev VT (t : Tgt) : Prop := 1 ≤ t.bright ∧ t.bright ≤ 1000 ∧ 0 ≤ t.place ∧ t.place ≤ 360 ∧ 1 ≤ t.length ∧ t.length ≤ 1440 ∧ 0 ≤ t.from_ ∧ t.from_ ≤ 1440 ∧ 0 ≤ t.to ∧ t.to ≤ 1440 ∧ 0 ≤ t.limit ∧ t.limit ≤ 100
abbrev VI (l : List Tgt) (n : Int) : Prop := 0 ≤ n ∧ n < (l.length : Int) ∧ VT (l.getD n.toNat default)
theorem getD_mem {α : Type} {l : List α} {k : Nat} {z : α} (h : k < l.length) : l.getD k z ∈ l := by
  rw [List.getD_eq_getElem?_getD, List.getElem?_eq_getElem h]; exact List.getElem_mem h
def prevT (l : List Tgt) (o : List Int) (i : Nat) : Option Tgt := if i = 0 then none else some (l.getD (o.getD (i - 1) 0).toNat default)
def startA (prev : Option Tgt) (t : Tgt) (a : Int) : Int := match prev with | none => a | some p => a + apartF t.place p.place
end Go.Lens.Tb
end
section
namespace Go.Lens.Tb
open Go.Proofs
variable [Lz]
set_option linter.unusedSectionVars false
set_option maxRecDepth 100000
attribute [local irreducible] TK PK T RG EfR Body
theorem by3 : ty3.info.bytes = 8 := by kernel_rfl
theorem in3 : tab.info? 3 = some ty3.info := by kernel_rfl
end Go.Lens.Tb
end
section
namespace Go.Lens.Tb
set_option linter.unusedSectionVars false
theorem byteAt_get {s : ByteArray} {p : Nat} (h : p < s.size) : byteAt s p = ((s[p]'h).toNat : Int) := by
  unfold byteAt
  have h' : p < s.data.toList.length := by simpa using h
  rw [List.getD_eq_getElem?_getD, List.getElem?_eq_getElem h']
  simp [ByteArray.getElem_eq_getElem_data]
theorem nameAt_high {p : Nat} {c : Int} (h : 128 ≤ c) : nameAt p c = false := by
  unfold nameAt letterF
  rw [decide_eq_false (p := c ≤ 122) (by omega), decide_eq_false (p := c ≤ 90) (by omega), decide_eq_false (p := c ≤ 57) (by omega), decide_eq_false (p := c = 95) (by omega)]
  simp
theorem rune_name {s : ByteArray} {p : Nat} (h : p < s.size) : nameAt p (((Utf8.decode s p).1 : Nat) : Int) = nameAt p (byteAt s p) ∧ (nameAt p (byteAt s p) = true → (Utf8.decode s p).2 = 1) := by
  rw [byteAt_get h]
  rcases Nat.lt_or_ge (s[p]'h).toNat 128 with ha | ha
  · rw [decode_ascii s p h ha]
    exact ⟨rfl, fun _ => rfl⟩
  · have := decode_high s p h ha
    rw [nameAt_high (by omega), nameAt_high (by omega)]
    exact ⟨rfl, fun h => by cases h⟩
theorem nm8r : ∀ L z n95 l48 g57 : Bool, (bif !L then (bif z then true else (bif n95 then (bif l48 then true else g57) else false)) else false) = !(L || (!z && ((!l48 && !g57) || !n95))) := by decide
theorem nameAt_r (p : Nat) (c : Int) : (letterF c || (!decide ((p : Int) = 0) && ((!decide (c < 48) && !decide (57 < c)) || !decide (c ≠ 95)))) = nameAt p c := by
  unfold nameAt
  congr 2
  have h1 : (!decide (c < 48)) = decide (48 ≤ c) := by rw [Bool.eq_iff_iff]; simp
  have h2 : (!decide (57 < c)) = decide (c ≤ 57) := by rw [Bool.eq_iff_iff]; simp
  have h3 : (!decide (c ≠ 95)) = decide (c = 95) := by rw [Bool.eq_iff_iff]; simp
  rw [h1, h2, h3]
theorem rune_cond {s : ByteArray} {p : Nat} (h : p < s.size) {c : Int} (hc : c = (((Utf8.decode s p).1 : Nat) : Int)) {b : Bool}
    (hb : (bif !(letterF c) then (bif decide ((p : Int) = 0) then true else (bif decide (c ≠ 95) then (bif decide (c < 48) then true else decide (57 < c)) else false)) else false) = b) : nameAt p (byteAt s p) = !b := by
  rw [nm8r, nameAt_r, hc, (rune_name h).1] at hb
  rw [← hb, Bool.not_not]
theorem empty_iff {s : ByteArray} : s = ⟨#[]⟩ ↔ s.size = 0 := by
  constructor
  · rintro rfl; rfl
  · intro h; exact ByteArray.ext (Array.eq_empty_of_size_eq_zero h)
theorem first_one (pre : List Tgt) (t : Tgt) : firstF [whenF (!isNameF t.name) 8, whenF (pre.any fun o => decide (o.name = t.name)) 9, whenF (!inRangeF t) 3] = chkOne pre t := by
  unfold chkOne whenF
  cases isNameF t.name <;> cases (pre.any fun o => decide (o.name = t.name)) <;> cases inRangeF t <;> rfl
end Go.Lens.Tb
end
section
namespace Go.Lens.Tb
open Go.Proofs
variable [Lz]
set_option linter.unusedSectionVars false
set_option maxRecDepth 100000
attribute [local irreducible] TK PK T RG EfR Body
theorem w241 (c : Int) : CallOk Tryz.prog 241 [.pv (.lit (.int .i32 c))] (lookM []) (vB (letterF c)) [] := by
 refine cO qf241 rfl (nB rfl) rfl ?_
 refine na ⟨[(0, .pv (.lit (.int .i32 c)))], []⟩ rfl rfl rfl rfl rfl ?_
 refine ag rfl ?_
 refine zn ⟨[(0, .pv (.lit (.int .i32 c)))], []⟩ rfl rfl rfl rfl rfl ?_
 refine mv rfl ?_
 refine RO (B.geq rfl rfl) ?_
 refine mv rfl ?_
 refine RS rfl (fun hc => B.move rfl) rfl ?_
 refine RS rfl (fun hc => B.leq (ev1_gd rfl hc) rfl) rfl ?_
 refine RO (B.pick rfl rfl rfl (gdB rfl) rfl (pick_and _)) ?_
 refine mv rfl ?_
 refine RS rfl (fun hc => B.move rfl) rfl ?_
 refine RS rfl (fun hc => B.geq (ev1_gd rfl hc) rfl) rfl ?_
 refine RS rfl (fun hc => B.move (ev1_gd rfl hc)) rfl ?_
 refine RS rfl (fun hc => B.move rfl) rfl ?_
 refine RS rfl (fun hc => B.leq (ev1_gd rfl hc) rfl) rfl ?_
 refine RS rfl (fun hc => B.pick (ev1_gd rfl hc) rfl rfl (gdB rfl) rfl (pick_and2 hc)) rfl ?_
 refine RO (B.pick rfl rfl rfl rfl (gdB rfl) (pick_or _)) ?_
 refine ag rfl ?_
 refine ra rfl ?_
 refine lf ?_
 refine leaf (val0 := vB (bif (bif (decide (97 ≤ c)) then (decide (c ≤ 122)) else false) then true else (bif (decide (65 ≤ c)) then (decide (c ≤ 90)) else false))) (by kernel_rfl) ?_
 exact lb (by simp only [letterF, bif_or, bif_and])
theorem w164 (s : ByteArray) : CallOk Tryz.prog 164 [vS s] (lookM []) (vB (isNameF s)) [] := by
 refine cO qf164 rfl (nB rfl) rfl ?_
 refine na ⟨[(0, vS s)], []⟩ rfl rfl rfl rfl rfl ?_
 refine ag rfl ?_
 refine zn ⟨[(0, vS s)], []⟩ rfl rfl rfl rfl rfl ?_
 refine mv rfl ?_
 refine RO (B.rangeS rfl un9 rfl rfl) ?_
 refine ra rfl ?_
 refine TK.loop (α := Nat) (fun x => ⟨[(0, vS s), (6, .bref 7 0)], [(7, .siter s x)]⟩) (fun x => x ≤ ByteArray.size s ∧ ∀ j, j < x → nameAt j (byteAt s j) = true) (fun x => ByteArray.size s - x) 0 ?_ (sb rfl rfl rfl) ?_
 · show 0 ≤ ByteArray.size s ∧ ∀ j, j < 0 → nameAt j (byteAt s j) = true
   exact ⟨Nat.zero_le _, fun j hj => by omega⟩
 rintro p hI0
 replace hI0 : p ≤ ByteArray.size s ∧ ∀ j, j < p → nameAt j (byteAt s j) = true := hI0
 show TK _ _ _ _ _ _ ⟨[(0, vS s), (6, .bref 7 0)], [(7, .siter s p)]⟩
 refine na ⟨[(0, vS s), (6, .bref 7 0)], [(7, .siter s p)]⟩ rfl rfl rfl rfl rfl ?_
 refine RG.next rfl rfl rfl (fun h1 => ?_) (fun h1 => ?_)
 ·
  refine rn rfl ?_
  refine tz ⟨[(0, vS s), (6, .bref 7 0), (7, .tup [vB true, vI p, .pv (.lit (.int .i32 (((Utf8.decode s p).1 : Nat) : Int)))]), (8, vB true)], [(7, .siter s (p + (Utf8.decode s p).2))]⟩ rfl rfl rfl rfl ?_
  refine TK.condT rfl ?_
  refine na ⟨[(0, vS s), (6, .bref 7 0), (7, .tup [vB true, vI p, .pv (.lit (.int .i32 (((Utf8.decode s p).1 : Nat) : Int)))])], [(7, .siter s (p + (Utf8.decode s p).2))]⟩ rfl rfl rfl rfl rfl ?_
  refine rn rfl ?_
  refine rn rfl ?_
  refine ag rfl ?_
  refine ag rfl ?_
  refine zn ⟨[(0, vS s), (3, vI p), (4, .pv (.lit (.int .i32 (((Utf8.decode s p).1 : Nat) : Int)))), (6, .bref 7 0)], [(7, .siter s (p + (Utf8.decode s p).2))]⟩ rfl rfl rfl rfl rfl ?_
  refine mv rfl ?_
  refine RO (B.call (w241 (((Utf8.decode s p).1 : Nat) : Int)) rfl rfl rfl) ?_
  refine RO (B.not rfl) ?_
  refine mv rfl ?_
  refine RS rfl (fun hc => B.move rfl) rfl ?_
  refine RS rfl (fun hc => B.eql (ev1_gd rfl hc) rfl) rfl ?_
  refine RS rfl (fun hc => B.move (ev1_gd rfl hc)) rfl ?_
  refine RS rfl (fun hc => B.move rfl) rfl ?_
  refine RS rfl (fun hc => B.neq (ev1_gd rfl hc) rfl) rfl ?_
  refine RS rfl (fun hc => B.move (ev1_gd rfl hc)) rfl ?_
  refine RS rfl (fun hc => B.move rfl) rfl ?_
  refine RS rfl (fun hc => B.lss (ev1_gd rfl hc) rfl) rfl ?_
  refine RS rfl (fun hc => B.move (ev1_gd rfl hc)) rfl ?_
  refine RS rfl (fun hc => B.move rfl) rfl ?_
  refine RS rfl (fun hc => B.gtr (ev1_gd rfl hc) rfl) rfl ?_
  refine RS rfl (fun hc => B.pick (ev1_gd rfl hc) rfl rfl rfl (gdB rfl) (pick_or2 hc)) rfl ?_
  refine RS rfl (fun hc => B.pick (ev1_gd rfl hc) rfl rfl (gdB rfl) rfl (pick_and2 hc)) rfl ?_
  refine RS rfl (fun hc => B.pick (ev1_gd rfl hc) rfl rfl rfl (gdB rfl) (pick_or2 hc)) rfl ?_
  refine RO (B.pick rfl rfl rfl (gdB rfl) rfl (pick_and _)) ?_
  refine tz ⟨[(0, vS s), (6, .bref 7 0), (29, vB (bif (!(letterF (((Utf8.decode s p).1 : Nat) : Int))) then (bif (decide ((p : Int) = 0)) then true else (bif (decide ((((Utf8.decode s p).1 : Nat) : Int) ≠ 95)) then (bif (decide ((((Utf8.decode s p).1 : Nat) : Int) < 48)) then true else (decide (57 < (((Utf8.decode s p).1 : Nat) : Int)))) else false)) else false))], [(7, .siter s (p + (Utf8.decode s p).2))]⟩ rfl rfl rfl rfl ?_
  refine TK.cond rfl (fun h2 => ?_) (fun h2 => ?_)
  ·
   refine na ⟨[], []⟩ rfl rfl rfl rfl rfl ?_
   refine ag rfl ?_
   refine ra rfl ?_
   refine lf ?_
   refine leaf (val0 := vB false) (by kernel_rfl) ?_
   exact lb (by first
          | exact (isName_no p h1 (rune_cond h1 rfl h2)).symm
          | (have he : p = ByteArray.size s := by omega
             rw [bif_and]
             by_cases h0 : ByteArray.size s = 0
             · rw [decide_eq_false (p := s ≠ ⟨#[]⟩) (fun h => h (empty_iff.2 h0)), isName_len (.inl (by omega))]; rfl
             · rw [decide_eq_true (p := s ≠ ⟨#[]⟩) (fun h => h0 (empty_iff.1 h))]
               by_cases h9 : ByteArray.size s ≤ 24
               · rw [decide_eq_true (by omega), isName_yes (by omega) h9 fun j hj => hI0.2 j (by omega)]; rfl
               · rw [decide_eq_false (by omega), isName_len (.inr (by omega))]; rfl))
  ·
   refine Au rfl ?_
   refine PK.lp ?_
   refine LP.mk (p + (Utf8.decode s p).2) ?_ ?_ (sb rfl rfl rfl)
   · show (p + (Utf8.decode s p).2) ≤ ByteArray.size s ∧ ∀ j, j < (p + (Utf8.decode s p).2) → nameAt j (byteAt s j) = true
     have hn := rune_cond h1 rfl h2; rw [(rune_name h1).2 hn]; refine ⟨by omega, fun j hj => ?_⟩; rcases Nat.lt_succ_iff_lt_or_eq.1 hj with h | h; exact hI0.2 j h; subst h; exact hn
   · show ByteArray.size s - (p + (Utf8.decode s p).2) < ByteArray.size s - p
     have hn := rune_cond h1 rfl h2; rw [(rune_name h1).2 hn]; omega
 ·
  refine rn rfl ?_
  refine tz ⟨[(0, vS s), (6, .bref 7 0), (7, .tup [vB false]), (8, vB false)], [(7, .siter s p)]⟩ rfl rfl rfl rfl ?_
  refine TK.condF rfl ?_
  refine At rfl ?_
  refine TK.exit ?_
  refine PK.exit rfl ?_
  refine Ap rfl ?_
  refine nr ⟨[(0, vS s)], []⟩ rfl rfl rfl rfl ?_
  refine mv rfl ?_
  refine RO (B.sneq rfl rfl) ?_
  refine mv rfl ?_
  refine RS rfl (fun hc => B.move rfl) rfl ?_
  refine RS rfl (fun hc => B.lenS (ev1_gd rfl hc) un9) rfl ?_
  refine RS rfl (fun hc => B.leq (ev1_gd rfl hc) rfl) rfl ?_
  refine RO (B.pick rfl rfl rfl (gdB rfl) rfl (pick_and _)) ?_
  refine ag rfl ?_
  refine ra rfl ?_
  refine lf ?_
  refine leaf (val0 := vB (bif (decide (s ≠ ⟨#[]⟩)) then (decide (((ByteArray.size s : Nat) : Int) ≤ 24)) else false)) (by kernel_rfl) ?_
  exact lb (by first
          | exact (isName_no p h1 (rune_cond h1 rfl h2)).symm
          | (have he : p = ByteArray.size s := by omega
             rw [bif_and]
             by_cases h0 : ByteArray.size s = 0
             · rw [decide_eq_false (p := s ≠ ⟨#[]⟩) (fun h => h (empty_iff.2 h0)), isName_len (.inl (by omega))]; rfl
             · rw [decide_eq_true (p := s ≠ ⟨#[]⟩) (fun h => h0 (empty_iff.1 h))]
               by_cases h9 : ByteArray.size s ≤ 24
               · rw [decide_eq_true (by omega), isName_yes (by omega) h9 fun j hj => hI0.2 j (by omega)]; rfl
               · rw [decide_eq_false (by omega), isName_len (.inr (by omega))]; rfl))
theorem w104 (s : ByteArray) : CallOk Tryz.prog 104 [vS s] (lookM []) (vI (whenF (!(isNameF s)) 8)) [] := by
 refine cO qf104 rfl (nB rfl) rfl ?_
 refine na ⟨[(0, vS s)], []⟩ rfl rfl rfl rfl rfl ?_
 refine ag rfl ?_
 refine zn ⟨[(0, vS s)], []⟩ rfl rfl rfl rfl rfl ?_
 refine mv rfl ?_
 refine RO (B.call (w164 s) rfl rfl rfl) ?_
 refine RO (B.not rfl) ?_
 refine RO (B.call (w101 (!(isNameF s)) 8) rfl rfl rfl) ?_
 refine ag rfl ?_
 refine ra rfl ?_
 refine lf ?_
 refine leaf (val0 := vI (whenF (!(isNameF s)) 8)) (by kernel_rfl) ?_
 exact rfl
end Go.Lens.Tb
end
section
namespace Go.Lens.Tm
open Go.Lens.Tb Go.Proofs
set_option linter.unusedSectionVars false
def permI (c : Int) : Bool := (((((decide (97 ≤ c) && decide (c ≤ 122)) || (decide (65 ≤ c) && decide (c ≤ 90))) || (decide (48 ≤ c) && decide (c ≤ 57))) || decide (c = 46)) || decide (c = 45)) || decide (c = 47) || decide (c = 95)
def permS (s : List UInt8) : Bool := s.all fun b => permI (b.toNat : Int)
def chkF (f : Fld) : Int := bif !(isNameF (bsO f.1)) then 8 else bif decide (60 < f.2.length) then 26 else bif !(permS f.2) then 1 else 0
def ordB (l : List Fld) (i : Nat) : Bool := decide (0 < i) && leS (l.getD i ([], [])).1 (l.getD (i - 1) ([], [])).1
def fOne (l : List Fld) (i : Nat) : Int := if chkF (l.getD i ([], [])) = 0 then (bif ordB l i then 11 else 0) else chkF (l.getD i ([], []))
def fGo (l : List Fld) : Nat → Nat → Int
 | 0, _ => 0
 | n + 1, i => if fOne l i = 0 then fGo l n (i + 1) else fOne l i
def chkFl (l : List Fld) : Int := bif decide (24 < l.length) then 5 else fGo l l.length 0
def shortF (l : List Fld) (n : Int) : Bool := bif (decide (n < (l.length : Int)) && decide ((l.length : Int) ≤ 24)) || decide (26 < (l.length : Int)) then false else l.all fun f => decide (f.1.length ≤ 60) && decide (f.2.length ≤ 100)
end Go.Lens.Tm
end
section
namespace Go.Lens.Tm
open Go.Lens.Tb Go.Proofs
set_option linter.unusedSectionVars false
section
variable {l : List Fld} {k : Nat}
end
theorem eq_getD {α : Type} (z : α) {a b : List α} (h : a.length = b.length) (k : ∀ j, j < a.length → a.getD j z = b.getD j z) : a = b := by
 apply List.ext_getElem h
 intro i h1 h2
 have := k i h1
 rwa [List.getD_eq_getElem?_getD, List.getD_eq_getElem?_getD, List.getElem?_eq_getElem h1, List.getElem?_eq_getElem h2] at this
end Go.Lens.Tm
end
section
namespace Go.Lens.Tm
open Go.Lens.Tb Go.Proofs
variable [Lz]
set_option linter.unusedSectionVars false
set_option maxHeartbeats 2000000
set_option maxRecDepth 100000
attribute [local irreducible] TK PK T RG EfR Body
end Go.Lens.Tm
end
section
namespace Go.Lens.Tm
open Go.Lens.Tb Go.Proofs
set_option linter.unusedSectionVars false
end Go.Lens.Tm
end
section
namespace Go.Lens.Tm
open Go.Lens.Tb Go.Proofs
variable [Lz]
set_option linter.unusedSectionVars false
set_option maxHeartbeats 2000000
set_option maxRecDepth 100000
attribute [local irreducible] TK PK T RG EfR Body
end Go.Lens.Tm
end
section
namespace Go.Lens.Tm
open Go.Lens.Tb Go.Proofs
set_option linter.unusedSectionVars false
def insGo (x : List UInt8) : List (List UInt8) → List (List UInt8)
 | [] => [x]
 | y :: l => bif ltS y x then y :: insGo x l else x :: y :: l
def insS (x : List UInt8) (l : List (List UInt8)) : List (List UInt8) := bif List.any l (fun y => decide (y = x)) then l else insGo x l
def splGo : List UInt8 → List UInt8 → List (List UInt8)
 | acc, [] => [acc]
 | acc, c :: r => bif decide (((c.toNat : Nat) : Int) = 32) then acc :: splGo [] r else splGo (acc ++ [c]) r
def splS (s : List UInt8) : List (List UInt8) := splGo [] s
def SplI (s : List UInt8) (i f : Nat) (out : List (List UInt8)) : Prop := f ≤ i ∧ out.length ≤ i ∧ ((i ≤ s.length ∧ splS s = out ++ splGo ((s.take i).drop f) (s.drop i)) ∨ (i = s.length + 1 ∧ splS s = out))
def fldP (f : Fld) : List UInt8 := (f.1 ++ [61]) ++ f.2
def prtK (l : List Fld) : Nat → List UInt8
 | 0 => []
 | k + 1 => ((bif decide (0 < k) then prtK l k ++ [32] else prtK l k) ++ (l.getD k ([], [])).1 ++ [61]) ++ (l.getD k ([], [])).2
def prtF (l : List Fld) : List UInt8 := prtK l l.length
end Go.Lens.Tm
end
section
namespace Go.Lens.Tm
open Go.Lens.Tb Go.Proofs
variable [Lz]
set_option linter.unusedSectionVars false
set_option maxHeartbeats 2000000
set_option maxRecDepth 100000
attribute [local irreducible] TK PK T RG EfR Body
end Go.Lens.Tm
end
section
namespace Go.Lens.Tm
open Go.Lens.Tb Go.Proofs
set_option linter.unusedSectionVars false
def eL (l : List Fld) : List PV := [.slice (List.map eF l)]
def cutP : List UInt8 → Option Fld
 | [] => none
 | c :: r => bif decide (((c.toNat : Nat) : Int) = 61) then some ([], r) else (cutP r).map fun f => (c :: f.1, f.2)
def parGo : List (List UInt8) → Option (List Fld)
 | [] => some []
 | p :: r => match cutP p with
  | none => none
  | some f => (parGo r).map (f :: ·)
def parF (s : List UInt8) : List Fld × Int := if s = [] then ([], 0) else match parGo (splS s) with
 | none => ([], 25)
 | some l => if chkFl l = 0 then (l, 0) else ([], chkFl l)
def rmGo (B M T : List Fld) : List (List UInt8) → List Fld × List (List UInt8)
 | [] => ([], [])
 | x :: l =>
  let r := rmGo B M T l
  let g := if getF x M = getF x T then getF x M else if getF x M = getF x B then getF x T else getF x M
  (if g.isSome then (x, g.getD []) :: r.1 else r.1, if getF x M = getF x T ∨ getF x M = getF x B ∨ getF x T = getF x B then r.2 else x :: r.2)
def refNm (A : List Fld) : List (List UInt8) := A.foldl (fun n f => insS f.1 n) []
def refM (B M T : List Fld) : List Fld × List (List UInt8) :=
 if 0 < (rmGo B M T (refNm (B ++ M ++ T))).2.length then ([], (rmGo B M T (refNm (B ++ M ++ T))).2) else ((rmGo B M T (refNm (B ++ M ++ T))).1, [])
def mfG (e : Int) (r : List Fld × List (List UInt8)) : List Fld × List (List UInt8) × Int :=
 if e ≠ 0 then ([], [], e) else if 0 < r.2.length then ([], r.2, 29) else if 24 < r.1.length then ([], [], 5) else (r.1, [], 0)
end Go.Lens.Tm
end
section
namespace Go.Lens.Tm
open Go.Lens.Tb Go.Proofs
variable [Lz]
set_option linter.unusedSectionVars false
set_option maxHeartbeats 4000000
set_option maxRecDepth 100000
attribute [local irreducible] TK PK T RG EfR Body
end Go.Lens.Tm
end
section
namespace Go.Lens.Tm
open Go.Lens.Tb Go.Proofs
set_option linter.unusedSectionVars false
variable [Lz]
end Go.Lens.Tm
end
section
namespace Go.Lens
set_option linter.unusedSectionVars false
variable [Lz]
section
variable {P : Program} {Y : Tab} [TabOk P Y] {nb : Nat} {s : St} {dst : Option Tmp} {ty u : TypeId} {pos : String} {af : Array Edge} {gd : Option (Nat × Bool)} {t : TypeId} {x y z : Operand}
theorem B.idxE {α : Type} {enc : α → List PV} {l : List α} {h v sz n : Nat} {k : IntKind} {m : Int} {e T : TypeId} (hx : ev1 s x = .aref h v) (hm : lookM s.ms h = some (.arr v sz T (l.map enc))) (hy : ev1 s y = lit (.int k m)) (und : Y.underlying t = some (.slice e)) (hs : szT Y e = some sz)
  (hn : m = (n : Int)) (hlt : n < l.length) : Body P Y nb s ⟨dst, .indexAddr t x y, ty, pos, af, gd⟩ (.eref h v n 0) [] [h] := by
 refine .inr (SBody.of fun σ G a w hv hl I => ?_)
 have hX := hv x (by simp [Op.operands])
 have hY := hv y (by simp [Op.operands])
 rw [hx] at hX; rw [hy] at hY
 have hlk : lookM σ.ms h = some (.arr v sz T (l.map enc)) := by rw [hl h (.inl (by simp))]; exact hm
 have hq : indexAddrW Y t (lookM σ.ms) (.aref h v) (lit (.int k m)) = some (true, .eref h v n 0) := by
  show indexAddrQ Y t (lookM σ.ms) (.aref h v) (lit (.int k m)) = _
  unfold indexAddrQ lit
  subst hn
  have : decide ((0 : Int) ≤ (n : Int) ∧ (n : Int) < ((l.map enc).length : Int)) = true := decide_eq_true ⟨by omega, by rw [List.length_map]; omega⟩
  simp only [und, hs, hlk, and_self, if_true, this, Int.toNat_natCast]
 obtain ⟨r, h1, h2⟩ := indexAddrW_sound (P := P) I.ctxS.sees hq hX hY
 refine ⟨r, w, G, .inl ?_, stepped_same I.ctxS h2 (fun k hk => ?_)⟩
 ·simp only [execOp, Sem.run_bind, h1, Result.andThen_ok, Sem.run_pure]
 ·simp only [DV.refs, List.mem_singleton] at hk; subst hk; exact ⟨_, hlk⟩
theorem B.setE {α : Type} {enc : α → List PV} {l : List α} {z0 : α} {p : PV} {h v n : Nat} {T : TypeId} (hx : ev1 s x = .eref h v n 0) (hm : lookM s.ms h = some (.arr v 1 T (l.map enc))) (hy : ev1 s y = .pv p) (hz : enc z0 = [p]) (hc : cellsPV p = [p])
  (hs : szT Y t = some 1) (hlt : n < l.length) (hsz : ∀ a, (enc a).length = 1) : Body P Y nb s ⟨dst, .store t x y, ty, pos, af, gd⟩ .dead [(h, .arr v 1 T ((l.set n z0).map enc))] [h] := by
 refine .inr (SBody.of fun σ G a w hv hl I => ?_)
 have hX := hv x (by simp [Op.operands])
 have hY := hv y (by simp [Op.operands])
 rw [hx] at hX; rw [hy] at hY
 have hlk : lookM σ.ms h = some (.arr v 1 T (l.map enc)) := by rw [hl h (.inl (by simp))]; exact hm
 have C : Ctx G w (fun z => match z with | .tmp 0 => a.eval x | .tmp 1 => a.eval y | _ => undef) (fun z => match z with | .tmp 0 => .eref h v n 0 | .tmp 1 => .pv p | _ => .dead) (lookM σ.ms) (lookM σ.ms) := by
  refine I.mem.ctx2 (fun z => ?_) (fun z k hk => ?_)
  ·split
   ·exact hX
   ·exact hY
   ·simp only [RelDV]
  ·split at hk
   ·simp only [DV.refs, List.mem_singleton] at hk; subst hk; exact ⟨_, hlk⟩
   ·simp [DV.refs] at hk
   ·simp [DV.refs] at hk
 have hcv : storeV Y t (.eref h v n 0) (.pv p) (lookM σ.ms) = some ⟨true, .dead, [(h, .arr v 1 T ((l.set n z0).map enc))]⟩ := by
  unfold storeV
  have hp : pvOf (lookM σ.ms) (.pv p) = some p := rfl
  have hg : (l.map enc).getD n [] = enc (l[n]'hlt) := by rw [List.getD_eq_getElem?_getD, List.getElem?_map, List.getElem?_eq_getElem hlt]; rfl
  have hd : (enc (l[n]'hlt)).drop 1 = [] := List.drop_eq_nil_of_le (by rw [hsz]; omega)
  have hdec : decide (n < (l.map enc).length ∧ 0 + 1 ≤ 1) = true := decide_eq_true ⟨by rw [List.length_map]; exact hlt, by omega⟩
  simp only [hs, hlk, hp, hc, List.length_cons, List.length_nil, and_self, if_true, hg, List.take_zero, List.nil_append, Nat.zero_add, hd, List.append_nil, List.map_set, hz]
  have hdec2 : decide (n < (l.map enc).length ∧ 1 ≤ 1) = true := hdec
  simp only [List.length_map] at hdec2
  simp [hlt]
 obtain ⟨w', G', h1, h2⟩ := storeV_sound (P := P) C (t := t) (a := .tmp 0) (x := .tmp 1) hcv rfl
 refine ⟨undef, w', G', .inr ⟨?_, rfl⟩, h2⟩
 have lift : ∀ {q : Sem Unit} {w' : World}, q.run P w = .ok () w' → (do q; Pure.pure Next.skip : Sem Next).run P w = .ok .skip w' := by
  intro q w' h
  simp only [Sem.run_bind, h, Result.andThen_ok, Sem.run_pure]
 exact lift (q := Instr.storeAt _ _ _) h1
theorem B.lenB1 {c : UInt8} {at' : TypeId} (hx : ev1 s x = lit (.string (bsO [c]))) (hu : Y.underlying at' = some .string) : Body P Y nb s ⟨dst, .call ⟨.builtin .len, ⟨[x]⟩, ⟨[at']⟩⟩, ty, pos, af, gd⟩ (lit (.int .i64 1)) [] [] := B.lenB hx hu
end
end Go.Lens
end
section
namespace Go.Lens.Tm
open Go.Lens.Tb Go.Proofs
set_option linter.unusedSectionVars false
variable [Lz]
theorem u8_back (c : UInt8) : (((c.toNat : Nat) : Int)).toNat.toUInt8 = c := by simp
theorem w310 (hp : PowLaid) (s : List UInt8) (c : UInt8) : CallOk Tryz.prog 310 [vS (bsO s), .pv (.lit (.int .u8 ((c.toNat : Nat) : Int)))] (lookM []) (vI (Lib.indexByte s c)) [] := by
 have h : extO ext 310 0 [vS (bsO s), .pv (.lit (.int .u8 ((c.toNat : Nat) : Int)))] [] = some (lit (.int .i64 (Lib.indexByte (bsO s).data.toList (((c.toNat : Nat) : Int)).toNat.toUInt8)), []) := rfl
 rw [u8_back] at h
 exact extO_ok (ext_ok hp) _ _ _ _ _ _ h
theorem w287 (hp : PowLaid) (s : List UInt8) (c : UInt8) : CallOk Tryz.prog 287 [vS (bsO s), .pv (.lit (.int .u8 ((c.toNat : Nat) : Int)))] (lookM []) (vI ((List.count c s : Nat) : Int)) [] := by
 have h : extO ext 287 0 [vS (bsO s), .pv (.lit (.int .u8 ((c.toNat : Nat) : Int)))] [] = some (lit (.int .i64 (Lib.countByte (bsO s).data.toList (((c.toNat : Nat) : Int)).toNat.toUInt8)), []) := rfl
 rw [u8_back] at h
 exact extO_ok (ext_ok hp) _ _ _ _ _ _ h
theorem ix_nat : ∀ {s : List UInt8} {c : UInt8}, 0 ≤ Lib.indexByte s c → ∃ n : Nat, Lib.indexByte s c = (n : Int) ∧ n < s.length ∧ s.getD n 0 = c ∧ ∀ j, j < n → s.getD j 0 ≠ c
 | [], c, h => by simp [Lib.indexByte] at h
 | b :: l, c, h => by
  simp only [Lib.indexByte] at h ⊢
  by_cases hb : (b == c) = true
  ·rw [if_pos hb]
   exact ⟨0, rfl, by simp, by simpa using hb, fun j hj => by omega⟩
  ·rw [if_neg hb] at h ⊢
   by_cases h1 : (Lib.indexByte l c == -1) = true
   ·rw [if_pos h1] at h; omega
   ·rw [if_neg h1] at h ⊢
    have hge := Lib.indexByte_ge l c
    have hne : Lib.indexByte l c ≠ -1 := by simpa using h1
    obtain ⟨n, e, k1, k2, k3⟩ := ix_nat (s := l) (c := c) (by omega)
    refine ⟨n + 1, by rw [e]; rfl, by simpa using k1, by simpa using k2, fun j hj => ?_⟩
    cases j with
    | zero => simpa using hb
    | succ j => simpa using k3 j (by omega)
theorem ix_neg : ∀ {s : List UInt8} {c : UInt8}, Lib.indexByte s c < 0 → c ∉ s
 | [], c, _ => by simp
 | b :: l, c, h => by
  simp only [Lib.indexByte] at h
  by_cases hb : (b == c) = true
  ·rw [if_pos hb] at h; omega
  ·rw [if_neg hb] at h
   by_cases h1 : (Lib.indexByte l c == -1) = true
   ·have e : Lib.indexByte l c = -1 := by simpa using h1
    have := ix_neg (s := l) (c := c) (by omega)
    have hb' : b ≠ c := by simpa using hb
    simp only [List.mem_cons, not_or]
    exact ⟨fun e => hb' e.symm, this⟩
   ·rw [if_neg h1] at h
    have := Lib.indexByte_ge l c
    have hne : Lib.indexByte l c ≠ -1 := by simpa using h1
    omega
theorem ix_self {s : List UInt8} {c : UInt8} (h : (bif decide ((1 : Int) = 0) then true else decide ([c] = s)) = true) : (0 : Int) = Lib.indexByte s c := by
 have : [c] = s := by simpa using h
 subst this
 simp [Lib.indexByte]
def cut3 (s : List UInt8) (c : UInt8) : List UInt8 × List UInt8 × Bool := if Lib.indexByte s c < 0 then (s, [], false) else (s.take (Lib.indexByte s c).toNat, s.drop ((Lib.indexByte s c).toNat + 1), true)
theorem c32 (b : UInt8) : ((b.toNat : Nat) : Int) = 32 ↔ b = 32 := by
 constructor
 ·intro h; exact UInt8.toNat_inj.1 (by have e : (32 : UInt8).toNat = 32 := rfl; omega)
 ·rintro rfl; rfl
theorem splGo_none : ∀ (s acc : List UInt8), 32 ∉ s → splGo acc s = [acc ++ s]
 | [], acc, _ => by simp [splGo]
 | b :: r, acc, h => by
  simp only [List.mem_cons, not_or] at h
  simp only [splGo]
  rw [decide_eq_false (p := ((b.toNat : Nat) : Int) = 32) (fun e => h.1 ((c32 b).1 e).symm), cond_false, splGo_none r _ h.2]; simp
theorem splGo_at : ∀ (s acc : List UInt8) (n : Nat), n < s.length → s.getD n 0 = 32 → (∀ j, j < n → s.getD j 0 ≠ 32) → splGo acc s = (acc ++ s.take n) :: splGo [] (s.drop (n + 1)) ∧ List.count 32 s = List.count 32 (s.drop (n + 1)) + 1
 | [], _, n, h, _, _ => by simp at h
 | b :: r, acc, 0, _, h, _ => by
  have hb : b = 32 := h
  subst hb
  simp only [splGo]
  exact ⟨by simp, by simp⟩
 | b :: r, acc, n + 1, h1, h2, h3 => by
  have hb : b ≠ 32 := h3 0 (by omega)
  obtain ⟨k1, k2⟩ := splGo_at r (acc ++ [b]) n (by simpa using h1) (by simpa using h2) fun j hj => by simpa using h3 (j + 1) (by omega)
  simp only [splGo]
  rw [decide_eq_false (p := ((b.toNat : Nat) : Int) = 32) (fun e => hb ((c32 b).1 e)), cond_false, k1]
  exact ⟨by simp, by rw [List.count_cons_of_ne hb]; simpa using k2⟩
def GsI (s : List UInt8) (n2 i : Nat) (a : List (List UInt8)) (q : List UInt8) : Prop := a.length = n2 ∧ q.length ≤ s.length ∧ i + List.count 32 q + 1 = n2 ∧ splS s = a.take i ++ splS q
theorem gs_step {s q : List UInt8} {n2 i m : Nat} {a : List (List UInt8)} (h : GsI s n2 i a q) (e : Lib.indexByte q 32 = (m : Int)) (hm : m < q.length) (h2 : q.getD m 0 = 32) (h3 : ∀ j, j < m → q.getD j 0 ≠ 32) : GsI s n2 (i + 1) (a.set i (q.take m)) (q.drop (m + 1)) := by
 obtain ⟨k1, k2, k3, k4⟩ := h
 obtain ⟨g1, g2⟩ := splGo_at q [] m hm h2 h3
 refine ⟨by rw [List.length_set]; exact k1, by rw [List.length_drop]; omega, by omega, ?_⟩
 have hi : i < a.length := by omega
 rw [k4]
 unfold splS
 rw [g1, List.take_add_one, List.getElem?_set_self hi, List.take_set_of_le (Nat.le_refl _)]
 simp
theorem gs_end {s q : List UInt8} {n2 i : Nat} {a : List (List UInt8)} (h : GsI s n2 i a q) (hq : 32 ∉ q) : (a.set i q).take (i + 1) = splS s := by
 obtain ⟨k1, k2, k3, k4⟩ := h
 have hi : i < a.length := by omega
 rw [k4]
 unfold splS
 rw [splGo_none q [] hq, List.take_add_one, List.getElem?_set_self hi, List.take_set_of_le (Nat.le_refl _)]
 rfl
theorem gs_no {s q : List UInt8} {n2 i : Nat} {a : List (List UInt8)} (h : GsI s n2 i a q) (hc : ¬ ((i : Nat) : Int) < ((n2 : Nat) : Int) - 1) : 32 ∉ q := by
 obtain ⟨_, _, k3, _⟩ := h
 exact List.count_eq_zero.1 (by omega)
end Go.Lens.Tm
end
section
namespace Go.Lens.Tm
open Go.Lens.Tb Go.Proofs
variable [Lz]
set_option linter.unusedSectionVars false
set_option maxHeartbeats 4000000
set_option maxRecDepth 100000
attribute [local irreducible] TK PK T RG EfR Body
theorem w288 (hp : PowLaid) (s : List UInt8) (c : UInt8) : CallOk Tryz.prog 288 [vS (bsO s), .pv (.lit (.int .u8 ((UInt8.toNat c : Nat) : Int)))] (lookM []) (vI (Lib.indexByte s c)) [] := by
 refine cO qf288 rfl (nB rfl) rfl ?_
 refine na ⟨[(0, vS (bsO s)), (1, .pv (.lit (.int .u8 ((UInt8.toNat c : Nat) : Int))))], []⟩ rfl rfl rfl rfl rfl ?_
 refine ag rfl ?_
 refine zn ⟨[(0, vS (bsO s)), (1, .pv (.lit (.int .u8 ((UInt8.toNat c : Nat) : Int))))], []⟩ rfl rfl rfl rfl rfl ?_
 refine mv rfl ?_
 refine mv rfl ?_
 refine RO (B.call (w310 hp s c) rfl rfl rfl) ?_
 refine ag rfl ?_
 refine ra rfl ?_
 refine lf ?_
 refine leaf (val0 := vI (Lib.indexByte s c)) (by kernel_rfl) ?_
 exact rfl
theorem w246 (hp : PowLaid) (s : List UInt8) (c : UInt8) (hl : s.length ≤ 1000000) : CallOk Tryz.prog 246 [vS (bsO s), vS (bsO [c])] (lookM []) (vI (Lib.indexByte s c)) [] := by
 refine cO qf246 rfl (nB rfl) rfl ?_
 refine na ⟨[(0, vS (bsO s)), (1, vS (bsO [c]))], []⟩ rfl rfl rfl rfl rfl ?_
 refine ag rfl ?_
 refine zn ⟨[(0, vS (bsO s)), (1, vS (bsO [c]))], []⟩ rfl rfl rfl rfl rfl ?_
 refine mv rfl ?_
 refine RO (B.lenB1 (c := c) rfl un9) ?_
 refine ag rfl ?_
 refine zn ⟨[(0, vS (bsO s)), (1, vS (bsO [c])), (5, vI 1)], []⟩ rfl rfl rfl rfl rfl ?_
 refine mv rfl ?_
 refine RO (B.eql rfl rfl) ?_
 refine mv rfl ?_
 refine RS rfl (fun hc => B.move rfl) rfl ?_
 refine RS rfl (fun hc => B.move rfl) rfl ?_
 refine RS rfl (fun hc => B.seqB (a := [c]) (b := s) (ev1_gd rfl hc) (ev1_gd rfl hc)) rfl ?_
 refine RO (B.pick rfl rfl rfl rfl (gdB rfl) (pick_or _)) ?_
 refine ag rfl ?_
 refine tz ⟨[(0, vS (bsO s)), (1, vS (bsO [c])), (5, vI 1), (16, vB (bif (decide (1 = 0)) then true else (decide ([c] = s))))], []⟩ rfl rfl rfl rfl ?_
 refine TK.cond rfl (fun h1 => ?_) (fun h1 => ?_)
 ·
  refine na ⟨[], []⟩ rfl rfl rfl rfl rfl ?_
  refine ag rfl ?_
  refine ra rfl ?_
  refine lf ?_
  refine leaf (val0 := vI 0) (by kernel_rfl) ?_
  exact li (by exact ix_self h1)
 ·
  refine na ⟨[(0, vS (bsO s)), (1, vS (bsO [c])), (5, vI 1)], []⟩ rfl rfl rfl rfl rfl ?_
  refine mv rfl ?_
  refine RO (B.eql rfl rfl) ?_
  refine ag rfl ?_
  refine tz ⟨[(0, vS (bsO s)), (1, vS (bsO [c])), (5, vI 1), (24, vB (decide (1 = 1)))], []⟩ rfl rfl rfl rfl ?_
  refine TK.condT rfl ?_
  refine na ⟨[(0, vS (bsO s)), (1, vS (bsO [c]))], []⟩ rfl rfl rfl rfl rfl ?_
  refine mv rfl ?_
  refine mv rfl ?_
  refine RO (B.sidx (i := 0) rfl rfl un9 rfl (show 0 < List.length [c] from (by first | omega | simp))) ?_
  refine RO (B.call (w288 hp s c) rfl rfl rfl) ?_
  refine ag rfl ?_
  refine ra rfl ?_
  refine lf ?_
  refine leaf (val0 := vI (Lib.indexByte s c)) (by kernel_rfl) ?_
  exact rfl
theorem w245 (hp : PowLaid) (s : List UInt8) (c : UInt8) (hl : s.length ≤ 1000000) : CallOk Tryz.prog 245 [vS (bsO s), vS (bsO [c])] (lookM []) (vI (Lib.indexByte s c)) [] := by
 refine cO qf245 rfl (nB rfl) rfl ?_
 refine na ⟨[(0, vS (bsO s)), (1, vS (bsO [c]))], []⟩ rfl rfl rfl rfl rfl ?_
 refine ag rfl ?_
 refine zn ⟨[(0, vS (bsO s)), (1, vS (bsO [c]))], []⟩ rfl rfl rfl rfl rfl ?_
 refine mv rfl ?_
 refine mv rfl ?_
 refine RO (B.call (w246 hp s c (by omega)) rfl rfl rfl) ?_
 refine ag rfl ?_
 refine ra rfl ?_
 refine lf ?_
 refine leaf (val0 := vI (Lib.indexByte s c)) (by kernel_rfl) ?_
 exact rfl
theorem w244 (hp : PowLaid) (s : List UInt8) (c : UInt8) (hl : s.length ≤ 1000000) : CallOk Tryz.prog 244 [vS (bsO s), vS (bsO [c])] (lookM []) (vI ((List.count c s : Nat) : Int)) [] := by
 refine cO qf244 rfl (nB rfl) rfl ?_
 refine na ⟨[(0, vS (bsO s)), (1, vS (bsO [c]))], []⟩ rfl rfl rfl rfl rfl ?_
 refine ag rfl ?_
 refine zn ⟨[(0, vS (bsO s)), (1, vS (bsO [c]))], []⟩ rfl rfl rfl rfl rfl ?_
 refine mv rfl ?_
 refine RO (B.lenB1 (c := c) rfl un9) ?_
 refine RO (B.eql rfl rfl) ?_
 refine tz ⟨[(0, vS (bsO s)), (1, vS (bsO [c])), (9, vB (decide (1 = 0)))], []⟩ rfl rfl rfl rfl ?_
 refine TK.condF rfl ?_
 refine na ⟨[(0, vS (bsO s)), (1, vS (bsO [c]))], []⟩ rfl rfl rfl rfl rfl ?_
 refine mv rfl ?_
 refine RO (B.lenB1 (c := c) rfl un9) ?_
 refine RO (B.eql rfl rfl) ?_
 refine tz ⟨[(0, vS (bsO s)), (1, vS (bsO [c])), (15, vB (decide (1 = 1)))], []⟩ rfl rfl rfl rfl ?_
 refine TK.condT rfl ?_
 refine na ⟨[(0, vS (bsO s)), (1, vS (bsO [c]))], []⟩ rfl rfl rfl rfl rfl ?_
 refine mv rfl ?_
 refine mv rfl ?_
 refine RO (B.sidx (i := 0) rfl rfl un9 rfl (show 0 < List.length [c] from (by first | omega | simp))) ?_
 refine RO (B.call (w287 hp s c) rfl rfl rfl) ?_
 refine ag rfl ?_
 refine ra rfl ?_
 refine lf ?_
 refine leaf (val0 := vI ((List.count c s : Nat) : Int)) (by kernel_rfl) ?_
 exact rfl
theorem w170 (hp : PowLaid) (s : List UInt8) (hl : s.length ≤ 1000000) : CallOk Tryz.prog 170 [vS (bsO s), vS (bsO [32]), vI 0, vI (-1)] (lookM []) (vL eN (splS s)) [] := by
 refine cO qf170 rfl (nB rfl) rfl ?_
 refine na ⟨[(0, vS (bsO s)), (1, vS (bsO [32])), (2, vI 0), (3, vI (-1))], []⟩ rfl rfl rfl rfl rfl ?_
 refine RO (B.nilS (enc := eN) rfl) ?_
 refine zn ⟨[(0, vS (bsO s)), (1, vS (bsO [32])), (2, vI 0), (3, vI (-1))], []⟩ rfl rfl rfl rfl rfl ?_
 refine mv rfl ?_
 refine RO (B.eql rfl rfl) ?_
 refine tz ⟨[(0, vS (bsO s)), (1, vS (bsO [32])), (2, vI 0), (3, vI (-1)), (13, vB (decide ((-1) = 0)))], []⟩ rfl rfl rfl rfl ?_
 refine TK.condF rfl ?_
 refine na ⟨[(0, vS (bsO s)), (1, vS (bsO [32])), (2, vI 0), (3, vI (-1))], []⟩ rfl rfl rfl rfl rfl ?_
 refine mv rfl ?_
 refine RO (B.seqB (a := [32]) (b := []) rfl rfl) ?_
 refine tz ⟨[(0, vS (bsO s)), (1, vS (bsO [32])), (2, vI 0), (3, vI (-1)), (15, vB (decide ([32] = [])))], []⟩ rfl rfl rfl rfl ?_
 refine TK.condF rfl ?_
 refine na ⟨[(0, vS (bsO s)), (1, vS (bsO [32])), (2, vI 0), (3, vI (-1))], []⟩ rfl rfl rfl rfl rfl ?_
 refine mv rfl ?_
 refine RO (B.lss rfl rfl) ?_
 refine tz ⟨[(0, vS (bsO s)), (1, vS (bsO [32])), (2, vI 0), (3, vI (-1)), (20, vB (decide ((-1) < 0)))], []⟩ rfl rfl rfl rfl ?_
 refine TK.condT rfl ?_
 refine ta ⟨[(0, vS (bsO s)), (1, vS (bsO [32])), (2, vI 0)], []⟩ rfl rfl rfl rfl ?_
 have hcl : List.count 32 s ≤ s.length := List.count_le_length
 refine TK.rg (Y := tab) mixed rfl ?_
 refine mv rfl ?_
 refine mv rfl ?_
 refine RO (B.call (w244 hp s 32 (by omega)) rfl rfl rfl) ?_
 refine RO (B.add rfl rfl (by unfold R64; omega)) ?_
 refine ag rfl ?_
 refine zn ⟨[(0, vS (bsO s)), (1, vS (bsO [32])), (2, vI 0), (3, vI (((List.count 32 s : Nat) : Int) + 1))], []⟩ rfl rfl rfl rfl rfl ?_
 refine mv rfl ?_
 refine mv rfl ?_
 refine RO (B.lenB (a := s) rfl un9) ?_
 refine RO (B.add rfl rfl (by unfold R64; omega)) ?_
 refine RO (B.min rfl rfl) ?_
 refine ag rfl ?_
 refine tz ⟨[(0, vS (bsO s)), (1, vS (bsO [32])), (2, vI 0), (3, vI (min (((List.count 32 s : Nat) : Int) + 1) ((s.length : Int) + 1)))], []⟩ rfl rfl rfl rfl ?_
 obtain ⟨n2, hn2⟩ : ∃ n2, n2 = List.count 32 s + 1 := ⟨_, rfl⟩
 rw [show (min (((List.count 32 s : Nat) : Int) + 1) ((s.length : Int) + 1)) = (n2 : Int) by omega]
 refine TK.rg (Y := tab) mixed rfl ?_
 refine mv rfl ?_
 refine RO (B.makeSl (enc := eN) (sz := 1) (z0 := []) (n := n2) (m := n2) rfl rfl rfl un73 in9 rfl rfl rfl by9 (by first | omega | (simp only [List.length_set]; omega) | (simp only [List.length_cons, List.length_nil]; omega)) rfl rfl) ?_
 refine rn rfl ?_
 refine zn ⟨[(0, vS (bsO s)), (1, vS (bsO [32])), (2, vI 0), (3, vI n2), (9, .aref 32 0)], [(32, .arr 0 1 9 (List.map eN (List.replicate n2 [])))]⟩ rfl rfl rfl rfl rfl ?_
 refine mv rfl ?_
 refine RO (B.sub rfl rfl (by unfold R64; omega)) ?_
 refine ag rfl ?_
 refine zn ⟨[(0, vS (bsO s)), (1, vS (bsO [32])), (2, vI 0), (3, vI ((n2 : Int) - 1)), (9, .aref 32 0)], [(32, .arr 0 1 9 (List.map eN (List.replicate n2 [])))]⟩ rfl rfl rfl rfl rfl ?_
 refine ag rfl ?_
 refine ra rfl ?_
 refine TK.loop (α := Nat × List (List UInt8) × List UInt8) (fun x => ⟨[(0, vS (bsO x.2.2)), (1, vS (bsO [32])), (2, vI 0), (3, vI ((n2 : Int) - 1)), (9, .aref 32 0), (10, vI ((x.1 : Nat) : Int))], [(32, .arr 0 1 9 (List.map eN x.2.1))]⟩) (fun x => GsI s n2 x.1 x.2.1 x.2.2) (fun x => n2 - x.1) (0, (List.replicate n2 []), s) ?_ (sb rfl rfl rfl) ?_
 · show GsI s n2 0 (List.replicate n2 []) s
   exact ⟨List.length_replicate, Nat.le_refl _, by omega, by simp⟩
 rintro ⟨i, a, q⟩ hI0
 replace hI0 : GsI s n2 i a q := hI0
 have hal := hI0.1
 have hil := hI0.2.2.1
 show TK _ _ _ _ _ _ ⟨[(0, vS (bsO q)), (1, vS (bsO [32])), (2, vI 0), (3, vI ((n2 : Int) - 1)), (9, .aref 32 0), (10, vI i)], [(32, .arr 0 1 9 (List.map eN a))]⟩
 refine na ⟨[(0, vS (bsO q)), (1, vS (bsO [32])), (2, vI 0), (3, vI ((n2 : Int) - 1)), (9, .aref 32 0), (10, vI i)], [(32, .arr 0 1 9 (List.map eN a))]⟩ rfl rfl rfl rfl rfl ?_
 refine mv rfl ?_
 refine mv rfl ?_
 refine RO (B.lss rfl rfl) ?_
 refine tz ⟨[(0, vS (bsO q)), (1, vS (bsO [32])), (2, vI 0), (3, vI ((n2 : Int) - 1)), (9, .aref 32 0), (10, vI i), (36, vB (decide ((i : Int) < ((n2 : Int) - 1))))], [(32, .arr 0 1 9 (List.map eN a))]⟩ rfl rfl rfl rfl ?_
 refine TK.condP rfl (fun h1 => ?_) (fun h1 => ?_)
 ·
  refine ta ⟨[(0, vS (bsO q)), (1, vS (bsO [32])), (2, vI 0), (3, vI ((n2 : Int) - 1)), (9, .aref 32 0), (10, vI i)], [(32, .arr 0 1 9 (List.map eN a))]⟩ rfl rfl rfl rfl ?_
  have hql := hI0.2.1
  refine TK.rg (Y := tab) mixed rfl ?_
  refine mv rfl ?_
  refine mv rfl ?_
  refine RO (B.call (w245 hp q 32 (by omega)) rfl rfl rfl) ?_
  refine ag rfl ?_
  refine zn ⟨[(0, vS (bsO q)), (1, vS (bsO [32])), (2, vI 0), (3, vI ((n2 : Int) - 1)), (9, .aref 32 0), (10, vI i), (11, vI (Lib.indexByte q 32))], [(32, .arr 0 1 9 (List.map eN a))]⟩ rfl rfl rfl rfl rfl ?_
  refine mv rfl ?_
  refine RO (B.lss rfl rfl) ?_
  refine tz ⟨[(0, vS (bsO q)), (1, vS (bsO [32])), (2, vI 0), (3, vI ((n2 : Int) - 1)), (9, .aref 32 0), (10, vI i), (11, vI (Lib.indexByte q 32)), (41, vB (decide ((Lib.indexByte q 32) < 0)))], [(32, .arr 0 1 9 (List.map eN a))]⟩ rfl rfl rfl rfl ?_
  refine TK.condP rfl (fun h2 => ?_) (fun h2 => ?_)
  ·
   refine At rfl ?_
   refine TK.exit ?_
   refine PK.exit rfl ?_
   refine Ap rfl ?_
   refine tn ⟨[(0, vS (bsO q)), (9, .aref 32 0), (10, vI i)], [(32, .arr 0 1 9 (List.map eN a))]⟩ rfl rfl rfl ?_
   have hal := hI0.1
   have hil := hI0.2.2.1
   refine TK.rg (Y := tab) mixed rfl ?_
   refine rn rfl ?_
   refine mv rfl ?_
   refine mv rfl ?_
   refine RO (B.idxE (n := i) rfl rfl rfl un73 sz9 rfl (by first | omega | (simp only [List.length_set]; omega) | (simp only [List.length_cons, List.length_nil]; omega))) ?_
   refine RO (B.setE (z0 := q) rfl rfl rfl rfl rfl sz9 (by first | omega | (simp only [List.length_set]; omega) | (simp only [List.length_cons, List.length_nil]; omega)) (fun _ => rfl)) ?_
   refine tz ⟨[(9, .aref 32 0), (10, vI i)], [(32, .arr 0 1 9 (List.map eN (List.set a i q)))]⟩ rfl rfl rfl rfl ?_
   refine TK.frz (t := 9) rfl rfl ?_
   refine nr ⟨[(9, vL eN (List.set a i q)), (10, vI i)], []⟩ rfl rfl rfl rfl ?_
   refine mv rfl ?_
   refine mv rfl ?_
   refine RO (B.add rfl rfl (by unfold R64; omega)) ?_
   refine RO (B.slT (j := (i + 1)) rfl rfl un73 sz9 (by omega) (by first | omega | (simp only [List.length_set]; omega) | (simp only [List.length_cons, List.length_nil]; omega))) ?_
   refine ag rfl ?_
   refine ra rfl ?_
   refine lf ?_
   refine leaf (val0 := vL eN (List.take (i + 1) (List.set a i q))) (by kernel_rfl) ?_
   exact lsl (by first | exact gs_end hI0 (ix_neg (by assumption)) | exact gs_end hI0 (gs_no hI0 (by assumption)))
  ·
   refine ta ⟨[(0, vS (bsO q)), (1, vS (bsO [32])), (2, vI 0), (3, vI ((n2 : Int) - 1)), (9, .aref 32 0), (10, vI i), (11, vI (Lib.indexByte q 32))], [(32, .arr 0 1 9 (List.map eN a))]⟩ rfl rfl rfl rfl ?_
   obtain ⟨m, hm, hmq, hm2, hm3⟩ := ix_nat (show 0 ≤ Lib.indexByte q 32 by omega)
   rw [hm]
   refine TK.rg (Y := tab) mixed rfl ?_
   refine rn rfl ?_
   refine mv rfl ?_
   refine mv rfl ?_
   refine mv rfl ?_
   refine mv rfl ?_
   refine RO (B.add rfl rfl (by unfold R64; omega)) ?_
   refine RO (B.slHB (a := q) (j := (Int.toNat ((m : Int) + 0))) rfl rfl un9 (Int.toNat_of_nonneg (by first | omega | (simp only [List.length_set]; omega) | (simp only [List.length_cons, List.length_nil]; omega))).symm (by first | omega | (simp only [List.length_set]; omega) | (simp only [List.length_cons, List.length_nil]; omega))) ?_
   refine RO (B.idxE (n := i) rfl rfl rfl un73 sz9 rfl (by first | omega | (simp only [List.length_set]; omega) | (simp only [List.length_cons, List.length_nil]; omega))) ?_
   refine RO (B.setE (z0 := (List.take (Int.toNat ((m : Int) + 0)) q)) rfl rfl rfl rfl rfl sz9 (by first | omega | (simp only [List.length_set]; omega) | (simp only [List.length_cons, List.length_nil]; omega)) (fun _ => rfl)) ?_
   refine zn ⟨[(0, vS (bsO q)), (1, vS (bsO [32])), (2, vI 0), (3, vI ((n2 : Int) - 1)), (9, .aref 32 0), (10, vI i), (11, vI m)], [(32, .arr 0 1 9 (List.map eN (List.set a i (List.take (Int.toNat ((m : Int) + 0)) q))))]⟩ rfl rfl rfl rfl rfl ?_
   refine mv rfl ?_
   refine mv rfl ?_
   refine mv rfl ?_
   refine RO (B.lenB1 (c := 32) rfl un9) ?_
   refine RO (B.add rfl rfl (by unfold R64; omega)) ?_
   refine RO (B.slLB (a := q) (i := (m + 1)) rfl rfl un9 (by omega) (by first | omega | (simp only [List.length_set]; omega) | (simp only [List.length_cons, List.length_nil]; omega))) ?_
   refine ag rfl ?_
   refine zn ⟨[(0, vS (bsO (List.drop (m + 1) q))), (1, vS (bsO [32])), (2, vI 0), (3, vI ((n2 : Int) - 1)), (9, .aref 32 0), (10, vI i)], [(32, .arr 0 1 9 (List.map eN (List.set a i (List.take (Int.toNat ((m : Int) + 0)) q))))]⟩ rfl rfl rfl rfl rfl ?_
   refine mv rfl ?_
   refine RO (B.add rfl rfl (by unfold R64; omega)) ?_
   refine ag rfl ?_
   refine RN ?_
   refine Aq rfl ?_
   refine PK.lp ?_
   refine LP.mk ((i + 1), (List.set a i (List.take (Int.toNat ((m : Int) + 0)) q)), (List.drop (m + 1) q)) ?_ ?_ (sb rfl rfl rfl)
   · show GsI s n2 (i + 1) (List.set a i (List.take (Int.toNat ((m : Int) + 0)) q)) (List.drop (m + 1) q)
     exact gs_step hI0 hm hmq hm2 hm3
   · show n2 - (i + 1) < n2 - i
     omega
 ·
  refine At rfl ?_
  refine TK.exit ?_
  refine PK.exit rfl ?_
  refine Ap rfl ?_
  refine tn ⟨[(0, vS (bsO q)), (9, .aref 32 0), (10, vI i)], [(32, .arr 0 1 9 (List.map eN a))]⟩ rfl rfl rfl ?_
  have hal := hI0.1
  have hil := hI0.2.2.1
  refine TK.rg (Y := tab) mixed rfl ?_
  refine rn rfl ?_
  refine mv rfl ?_
  refine mv rfl ?_
  refine RO (B.idxE (n := i) rfl rfl rfl un73 sz9 rfl (by first | omega | (simp only [List.length_set]; omega) | (simp only [List.length_cons, List.length_nil]; omega))) ?_
  refine RO (B.setE (z0 := q) rfl rfl rfl rfl rfl sz9 (by first | omega | (simp only [List.length_set]; omega) | (simp only [List.length_cons, List.length_nil]; omega)) (fun _ => rfl)) ?_
  refine tz ⟨[(9, .aref 32 0), (10, vI i)], [(32, .arr 0 1 9 (List.map eN (List.set a i q)))]⟩ rfl rfl rfl rfl ?_
  refine TK.frz (t := 9) rfl rfl ?_
  refine nr ⟨[(9, vL eN (List.set a i q)), (10, vI i)], []⟩ rfl rfl rfl rfl ?_
  refine mv rfl ?_
  refine mv rfl ?_
  refine RO (B.add rfl rfl (by unfold R64; omega)) ?_
  refine RO (B.slT (j := (i + 1)) rfl rfl un73 sz9 (by omega) (by first | omega | (simp only [List.length_set]; omega) | (simp only [List.length_cons, List.length_nil]; omega))) ?_
  refine ag rfl ?_
  refine ra rfl ?_
  refine lf ?_
  refine leaf (val0 := vL eN (List.take (i + 1) (List.set a i q))) (by kernel_rfl) ?_
  exact lsl (by first | exact gs_end hI0 (ix_neg (by assumption)) | exact gs_end hI0 (gs_no hI0 (by assumption)))
theorem w116 (hp : PowLaid) (s : List UInt8) (hl : s.length ≤ 1000000) : CallOk Tryz.prog 116 [vS (bsO s), vS (bsO [32])] (lookM []) (vL eN (splS s)) [] := by
 refine cO qf116 rfl (nB rfl) rfl ?_
 refine na ⟨[(0, vS (bsO s)), (1, vS (bsO [32]))], []⟩ rfl rfl rfl rfl rfl ?_
 refine RO (B.nilS (enc := eN) rfl) ?_
 refine zn ⟨[(0, vS (bsO s)), (1, vS (bsO [32]))], []⟩ rfl rfl rfl rfl rfl ?_
 refine mv rfl ?_
 refine mv rfl ?_
 refine RO (B.call (w170 hp s (by omega)) rfl rfl rfl) ?_
 refine ag rfl ?_
 refine ra rfl ?_
 refine lf ?_
 refine leaf (val0 := vL eN (splS s)) (by kernel_rfl) ?_
 exact rfl
end Go.Lens.Tm
end
section
namespace Go.Lens.Tm
open Go.Lens.Tb Go.Proofs
set_option linter.unusedSectionVars false
variable [Lz]
end Go.Lens.Tm
end
section
namespace Go.Lens.Tm
open Go.Lens.Tb Go.Proofs
variable [Lz]
set_option linter.unusedSectionVars false
set_option maxRecDepth 100000
attribute [local irreducible] TK PK T RG EfR Body
end Go.Lens.Tm
end
section
namespace Go.Lens.Tb
set_option linter.unusedSectionVars false
def badB (start : Int) (W : List Int) (t : Tgt) (e : Int) : Int := firstF [chkNightF start W, chkTgtsF [t], withinF e 0 1440]
def begT (start : Int) (W : List Int) (t : Tgt) (e : Int) : Int := if badB start W t e ≠ 0 then 0 else if begF W t e < 0 then 0 else begF W t e
def begE (start : Int) (W : List Int) (t : Tgt) (e : Int) : Int := if badB start W t e ≠ 0 then badB start W t e else if begF W t e < 0 then 7 else 0
def badT (start : Int) (W : List Int) (l : List Tgt) (o : List Int) : Int := firstF [chkNightF start W, chkTgtsF l, chkOrdF l.length o]
def tlT (start : Int) (W : List Int) (l : List Tgt) (o : List Int) : List Int := if badT start W l o ≠ 0 then [] else (tlF start W l o).getD []
def tlE (start : Int) (W : List Int) (l : List Tgt) (o : List Int) : Int := if badT start W l o ≠ 0 then badT start W l o else (bif (tlF start W l o).isSome then 0 else 23)
def afterF (start : Int) (l : List Tgt) (o : List Int) (b : Int) (t : Tgt) : Int := if o.length = 0 then start else b + (l.getD (o.getD (o.length - 1) 0).toNat default).length + apartF (l.getD (o.getD (o.length - 1) 0).toNat default).place t.place
end Go.Lens.Tb
end
section
namespace Go.Lens.Tb
open Go.Proofs
variable [Lz]
set_option linter.unusedSectionVars false
set_option maxRecDepth 100000
attribute [local irreducible] TK PK T RG EfR Body
end Go.Lens.Tb
end
section
namespace Go.Lens.Tb
set_option linter.unusedSectionVars false
def atB (start : Int) (l : List Tgt) (o : List Int) (i : Nat) (b : Int) : Int := if i = 0 then start else b + (l.getD (o.getD (i - 1) 0).toNat default).length
theorem bad1 {a b c : Int} (h : firstF [a, b] ≠ 0) : firstF [a, b, c] = firstF [a, b] := by
  simp only [firstF] at h ⊢
  split
  · rename_i ha
    rw [if_pos ha] at h
    split
    · rename_i hb; rw [if_pos hb] at h; exact absurd rfl h
    · rfl
  · rfl
theorem bad2 {a b c : Int} (h : firstF [a, b] = 0) : firstF [a, b, c] = c := by
  simp only [firstF] at h ⊢
  split
  · rename_i ha
    rw [if_pos ha] at h
    split
    · split
      · rename_i hc; exact hc.symm
      · rfl
    · rename_i hb; rw [if_neg hb] at h; exact absurd h hb
  · rename_i ha; rw [if_neg ha] at h; exact absurd h ha
theorem tl_ok {start : Int} {W : List Int} {l : List Tgt} {o : List Int} (h : firstF [chkNightF start W, chkTgtsF l] = 0) (h2 : chkOrdF l.length o = 0) : tlT start W l o = (tlF start W l o).getD [] ∧ tlE start W l o = bif (tlF start W l o).isSome then 0 else 23 := by
  have e : badT start W l o = 0 := (bad2 h).trans h2
  unfold tlT tlE
  rw [e, if_neg (by simp), if_neg (by simp)]; exact ⟨rfl, rfl⟩
end Go.Lens.Tb
end
section
namespace Go.Lens.Tb
open Go.Proofs
variable [Lz]
set_option linter.unusedSectionVars false
set_option maxRecDepth 100000
attribute [local irreducible] TK PK T RG EfR Body
end Go.Lens.Tb
end
section
namespace Go.Lens.Tb
set_option linter.unusedSectionVars false
section
variable {start : Int} {W : List Int} {l : List Tgt} {o : List Int} {t : Tgt} {e : Int}
theorem bt_of (h : firstF [chkNightF start W, chkTgtsF l, chkOrdF ((l.length : Nat) : Int) o] = 0) : firstF [chkNightF start W, chkTgtsF l] = 0 ∧ chkOrdF l.length o = 0 := by
  by_cases h1 : firstF [chkNightF start W, chkTgtsF l] = 0
  · exact ⟨h1, (bad2 h1).symm.trans h⟩
  · exact absurd ((bad1 h1).symm.trans h) h1
theorem g1 (h0 : firstF [chkNightF start W, chkTgtsF l, chkOrdF ((l.length : Nat) : Int) o] = 0)
    (h : (bif decide (tlE start W l o ≠ whenF (!(tlF start W l o).isSome) 23) then true else !(decide (tlT start W l o = (tlF start W l o).getD []))) = true) : false = true := by
  obtain ⟨h1, h2⟩ := bt_of h0
  obtain ⟨e1, e2⟩ := tl_ok h1 h2
  rw [e1, e2] at h
  unfold whenF at h
  cases hs : (tlF start W l o).isSome <;> rw [hs] at h <;> simp at h
theorem g2 (h0 : ¬ firstF [chkNightF start W, chkTgtsF l, chkOrdF ((l.length : Nat) : Int) o] = 0)
    (h : (bif decide (tlE start W l o ≠ firstF [chkNightF start W, chkTgtsF l, chkOrdF ((l.length : Nat) : Int) o]) then true else !(decide (tlT start W l o = []))) = true) : false = true := by
  have e1 : tlT start W l o = [] := by unfold tlT badT; rw [if_pos h0]
  have e2 : tlE start W l o = firstF [chkNightF start W, chkTgtsF l, chkOrdF ((l.length : Nat) : Int) o] := by unfold tlE badT; rw [if_pos h0]
  rw [e1, e2] at h
  simp at h
theorem f1 (h : ¬ badB start W t e = 0) : (bif (bif decide (begE start W t e = badB start W t e) then decide (begT start W t e = 0) else false) then true else false) = true := by
  unfold begE begT; rw [if_pos h, if_pos h]; simp
theorem f2 (h : badB start W t e = 0) (h2 : begF W t e < 0) : (bif (bif decide (begE start W t e = 7) then decide (begT start W t e = 0) else false) then true else false) = true := by
  unfold begE begT; simp [h, h2]
theorem f3 (h : badB start W t e = 0) (h2 : ¬ begF W t e < 0) : (bif (bif decide (begE start W t e = badB start W t e) then decide (begT start W t e = begF W t e) else false) then true else false) = true := by
  unfold begE begT; simp [h, h2]
end
end Go.Lens.Tb
end
section
namespace Go.Lens.Tb
open Go.Proofs
structure Ch where
 order : List Int
 bright : Int
 end_ : Int
section
variable (S : Int) (W : List Int) (l : List Tgt)
def endF (o : List Int) (b : Int) : Int := if o.length = 0 then S else b + (l.getD (o.getD (o.length - 1) 0).toNat default).length
def betC (a c : Ch) : Bool := decide (c.bright < a.bright) || (decide (a.bright = c.bright) && decide (a.end_ < c.end_))
def updC (o : List Int) (b br : Int) (c : Ch) : Ch := bif betC ⟨o, br, endF S l o b⟩ c then ⟨o, br, endF S l o b⟩ else c
def nxtB (o : List Int) (b : Int) (i : Nat) : Int := begF W (l.getD i default) (afterF S l o b (l.getD i default))
def stepC (R : List Int → Int → Int → Ch → Ch) (o : List Int) (b br : Int) (i : Nat) (c : Ch) : Ch :=
 bif o.any (fun j => decide (j = (i : Int))) then c else if nxtB S W l o b i < 0 then c else R (o ++ [(i : Int)]) (nxtB S W l o b i) (br + (l.getD i default).bright) c
def loopC (R : List Int → Int → Int → Ch → Ch) (o : List Int) (b br : Int) (c : Ch) : Nat → Ch
 | 0 => c
 | k + 1 => stepC S W l R o b br k (loopC R o b br c k)
def recC : Nat → List Int → Int → Int → Ch → Ch
 | 0, _, _, _, c => c
 | n + 1, o, b, br, c => loopC S W l (recC n) o b br (updC S l o b br c) l.length
def lastD (r : List Int) : Int := r.getD (r.length - 1) 0
def brightS : List Int → Int
 | [] => 0
 | j :: o => (l.getD j.toNat default).bright + brightS o
def refC (n : Nat) (o : List Int) (c : Ch) : Ch := match tlF S W l o with
 | none => c
 | some r => recC S W l n o (lastD r) (brightS l o) c
def gdO (o : List Int) : Prop := o.Nodup ∧ ∀ i ∈ o, 0 ≤ i ∧ i < (l.length : Int)
end
def lastP (l : List Tgt) (prev : Option Tgt) (o : List Int) : Option Tgt := if o.length = 0 then prev else some (l.getD (o.getD (o.length - 1) 0).toNat default)
def lastA (l : List Tgt) (a : Int) (o r : List Int) : Int := if o.length = 0 then a else lastD r + (l.getD (o.getD (o.length - 1) 0).toNat default).length
def badP (S : Int) (W : List Int) (l : List Tgt) : Int := firstF [chkNightF S W, chkTgtsF l, whenF (decide (8 < (l.length : Int))) 22]
def planC (S : Int) (W : List Int) (l : List Tgt) : Ch := recC S W l (l.length + 1) [] 0 0 ⟨[], 0, S⟩
end Go.Lens.Tb
end
section
namespace Go.Lens.Tb
open Go.Proofs
set_option linter.unusedSectionVars false
theorem PK.nil [Lz] {P : Program} {n nb : Nat} {Q : Exit → St → Prop} {s : St} (h : Q .normal s) : PK P n nb Q [] .normal s := h
section
variable {S : Int} {W : List Int} {l : List Tgt} {R : List Int → Int → Int → Ch → Ch} {o : List Int} {b br : Int} {i : Nat} {c : Ch}
end
def endK (S : Int) (l : List Tgt) (o r : List Int) (k : Nat) : Int := if k = 0 then S else r.getD (k - 1) 0 + (l.getD (o.getD (k - 1) 0).toNat default).length
end Go.Lens.Tb
end
section
namespace Go.Lens.Tm
open Go.Lens.Tb Go.Proofs
set_option linter.unusedSectionVars false
variable [Lz]
def joinF : List (List UInt8) → List UInt8
 | [] => []
 | w :: r => w ++ r.flatMap fun x => 32 :: x
def JoinOk : Prop := ∀ ws : List (List UInt8), ws.length ≤ 1000 → (∀ w ∈ ws, w.length ≤ 1000) → CallOk Tryz.prog 169 [vL eN ws, vS (bsO [32])] (lookM []) (vS (bsO (joinF ws))) []
def prtX (l : List Fld) : List UInt8 := if chkFl l = 0 then prtF l else []
end Go.Lens.Tm
end
section
namespace Go.Lens.Tm
open Go.Lens.Tb Go.Proofs
set_option linter.unusedSectionVars false
variable [Lz]
end Go.Lens.Tm
end
section
namespace Go.Lens.Tm
open Go.Lens.Tb Go.Proofs
set_option linter.unusedSectionVars false
variable [Lz]
end Go.Lens.Tm
end
section
namespace Go.Lens.Tm
open Go.Lens.Tb Go.Proofs
set_option linter.unusedSectionVars false
variable [Lz]
def reb (g : List UInt8 → Option (List UInt8)) : List (List UInt8) → List Fld
 | [] => []
 | x :: N => if (g x).isSome then (x, (g x).getD []) :: reb g N else reb g N
end Go.Lens.Tm
end
section
namespace Go.Lens.Tm
open Go.Lens.Tb Go.Proofs
set_option linter.unusedSectionVars false
variable [Lz]
def chF (B M T : List Fld) (x : List UInt8) : Option (List UInt8) := if getF x M = getF x T then getF x M else if getF x M = getF x B then getF x T else getF x M
def okF (B M T : List Fld) (x : List UInt8) : Prop := getF x M = getF x T ∨ getF x M = getF x B ∨ getF x T = getF x B
instance (B M T : List Fld) (x : List UInt8) : Decidable (okF B M T x) := inferInstanceAs (Decidable (_ ∨ _ ∨ _))
end Go.Lens.Tm
end
section
namespace Go.Lens.Tm
open Go.Lens.Tb Go.Proofs
set_option linter.unusedSectionVars false
variable [Lz]
def mgK (r : List Fld × List (List UInt8)) : List Fld × List (List UInt8) × Int := if 0 < r.2.length then ([], r.2, 29) else (r.1, [], 0)
end Go.Lens.Tm
end
section
namespace Go.Lens.Tm
open Go.Lens.Tb Go.Proofs
variable [Lz]
set_option linter.unusedSectionVars false
set_option maxHeartbeats 4000000
set_option maxRecDepth 100000
attribute [local irreducible] TK PK T RG EfR Body
end Go.Lens.Tm
end
section
namespace Go.Lens
set_option linter.unusedSectionVars false
variable [Lz]
section
variable {P : Program} {Y : Tab} [TabOk P Y] {nb : Nat} {s : St} {dst : Option Tmp} {ty u : TypeId} {pos : String} {af : Array Edge} {gd : Option (Nat × Bool)} {t : TypeId} {x y : Operand}
end
end Go.Lens
namespace Go.Lens.Tm
open Go.Lens.Tb Go.Proofs
set_option linter.unusedSectionVars false
variable [Lz]
abbrev Fit (l : List Fld) : Prop := l.length ≤ 26 ∧ ∀ f ∈ l, f.1.length ≤ 60 ∧ f.2.length ≤ 100
def Ck (l : List Fld) : Prop := Fit l ∧ chkFl l = 0 ∧ l.length ≤ 8
end Go.Lens.Tm
end
section
namespace Go.Lens.Tm
open Go.Lens.Tb Go.Proofs
set_option linter.unusedSectionVars false
abbrev Cmd := List UInt8 × List UInt8 × Int
def eC (c : Cmd) : List PV := [.lit (.string (bsO (Prod.fst c))), .lit (.string (bsO (Prod.fst (Prod.snd c)))), .lit (.int .i64 (Prod.snd (Prod.snd c)))]
abbrev gC (c : Cmd) : PV := .agg [pS (bsO c.1), pS (bsO c.2.1), pI c.2.2]
abbrev bC (t : TypeId) (c : Cmd) : MO := .box t [vS (bsO c.1), vS (bsO c.2.1), vI c.2.2]
abbrev z3 : Cmd := ([], [], 0)
abbrev kAct : List UInt8 := [97, 99, 116]
abbrev kEnd : List UInt8 := [101, 110, 100]
abbrev kWait : List UInt8 := [119, 97, 105, 116]
abbrev kRep : List UInt8 := [114, 101, 112, 101, 97, 116]
def wordsF (o : List UInt8) : Int := if o = kAct then 2 else if o = kWait then 2 else if o = kRep then 2 else if o = kEnd then 1 else 0
def chkC (c : Cmd) : Int :=
 if c.1 = kAct then firstF [whenF (!(isNameF (bsO c.2.1))) 8, withinF c.2.2 0 0]
 else if c.1 = kEnd then firstF [whenF (decide (c.2.1 ≠ [])) 1, withinF c.2.2 0 0]
 else if c.1 = kWait then firstF [whenF (decide (c.2.1 ≠ [])) 1, withinF c.2.2 1 100000]
 else if c.1 = kRep then firstF [whenF (decide (c.2.1 ≠ [])) 1, withinF c.2.2 1 100]
 else 13
def badC : List Cmd → Int
 | [] => 0
 | c :: l => if chkC c = 0 then badC l else chkC c
def depC : Nat → List Cmd → Int
 | d, [] => if 0 < d then 2 else 0
 | d, c :: l => if c.1 = kRep then (if d = 4 then 22 else depC (d + 1) l) else if c.1 = kEnd then (if d = 0 then 2 else depC (d - 1) l) else depC d l
def lenGo : Int → List (Int × Int) → List Cmd → Int
 | s, _, [] => s
 | s, st, c :: l => if c.1 = kRep then lenGo 1 ((s, c.2.2) :: st) l else if c.1 = kEnd then (match st with
   | [] => s
   | p :: st => lenGo (p.1 + p.2 * s) st l) else lenGo (s + 1) st l
theorem lenGo_cons (s : Int) (st : List (Int × Int)) (c : Cmd) (l : List Cmd) : lenGo s st (c :: l) = if c.1 = kRep then lenGo 1 ((s, c.2.2) :: st) l else if c.1 = kEnd then (match st with
   | [] => s
   | p :: st => lenGo (p.1 + p.2 * s) st l) else lenGo (s + 1) st l := by cases st <;> rfl
def lenP (l : List Cmd) : Int := lenGo 0 [] l
def chkS (l : List Cmd) : Int := if 64 < l.length then 5 else if badC l ≠ 0 then badC l else if depC 0 l ≠ 0 then depC 0 l else whenF (decide (10000 < lenP l)) 22
def matGo : Int → Nat → List Cmd → Nat
 | _, i, [] => i
 | d, i, c :: l => if c.1 = kRep then matGo (d + 1) (i + 1) l else if c.1 = kEnd then (if d - 1 = 0 then i else matGo (d - 1) (i + 1) l) else matGo d (i + 1) l
def smL : List (Int × Int) → Int → List Int
 | [], s => [s]
 | p :: st, s => smL st p.1 ++ [s]
def cnL : List (Int × Int) → List Int
 | [] => []
 | p :: st => cnL st ++ [p.2]
theorem dropC {l : List Cmd} {k : Nat} (h : k < l.length) : l.drop k = l.getD k z3 :: l.drop (k + 1) := by
 rw [List.getD_eq_getElem?_getD, List.getElem?_eq_getElem h, Option.getD_some]
 exact List.drop_eq_getElem_cons h
theorem badC_ok {l : List Cmd} {k : Nat} (h : k < l.length) (h0 : chkC (l.getD k z3) = 0) : badC (l.drop k) = badC (l.drop (k + 1)) := by
 rw [dropC h, badC, if_pos h0]
theorem badC_no {l : List Cmd} {k : Nat} (h : k < l.length) (h0 : chkC (l.getD k z3) ≠ 0) : badC (l.drop k) = chkC (l.getD k z3) := by
 rw [dropC h, badC, if_neg h0]
theorem badC_all : ∀ {l : List Cmd}, badC l = 0 → ∀ c ∈ l, chkC c = 0
 | [], _, c, hc => by cases hc
 | a :: l, h, c, hc => by
  rw [badC] at h
  by_cases ha : chkC a = 0
  ·rw [if_pos ha] at h
   rcases List.mem_cons.1 hc with rfl | hc
   ·exact ha
   ·exact badC_all h c hc
  ·rw [if_neg ha] at h; exact absurd h ha
theorem rep_end : kRep ≠ kEnd := by decide
theorem dep_rep {l : List Cmd} {k d : Nat} (h : k < l.length) (h0 : (l.getD k z3).1 = kRep) : depC d (l.drop k) = if d = 4 then 22 else depC (d + 1) (l.drop (k + 1)) := by
 rw [dropC h, depC, if_pos h0]
theorem dep_end {l : List Cmd} {k d : Nat} (h : k < l.length) (h0 : (l.getD k z3).1 = kEnd) : depC d (l.drop k) = if d = 0 then 2 else depC (d - 1) (l.drop (k + 1)) := by
 rw [dropC h, depC, if_neg (by rw [h0]; exact Ne.symm rep_end), if_pos h0]
theorem dep_one {l : List Cmd} {k d : Nat} (h : k < l.length) (h0 : (l.getD k z3).1 ≠ kRep) (h1 : (l.getD k z3).1 ≠ kEnd) : depC d (l.drop k) = depC d (l.drop (k + 1)) := by
 rw [dropC h, depC, if_neg h0, if_neg h1]
theorem len_rep {l : List Cmd} {k : Nat} {s : Int} {st : List (Int × Int)} (h : k < l.length) (h0 : (l.getD k z3).1 = kRep) : lenGo s st (l.drop k) = lenGo 1 ((s, (l.getD k z3).2.2) :: st) (l.drop (k + 1)) := by
 rw [dropC h, lenGo_cons, if_pos h0]
theorem len_end {l : List Cmd} {k : Nat} {s : Int} {p : Int × Int} {st : List (Int × Int)} (h : k < l.length) (h0 : (l.getD k z3).1 = kEnd) : lenGo s (p :: st) (l.drop k) = lenGo (p.1 + p.2 * s) st (l.drop (k + 1)) := by
 rw [dropC h, lenGo_cons, if_neg (by rw [h0]; exact Ne.symm rep_end), if_pos h0]
theorem len_one {l : List Cmd} {k : Nat} {s : Int} {st : List (Int × Int)} (h : k < l.length) (h0 : (l.getD k z3).1 ≠ kRep) (h1 : (l.getD k z3).1 ≠ kEnd) : lenGo s st (l.drop k) = lenGo (s + 1) st (l.drop (k + 1)) := by
 rw [dropC h, lenGo_cons, if_neg h0, if_neg h1]
theorem mat_rep {l : List Cmd} {k : Nat} {d : Int} (h : k < l.length) (h0 : (l.getD k z3).1 = kRep) : matGo d k (l.drop k) = matGo (d + 1) (k + 1) (l.drop (k + 1)) := by
 rw [dropC h, matGo, if_pos h0]
theorem mat_end {l : List Cmd} {k : Nat} {d : Int} (h : k < l.length) (h0 : (l.getD k z3).1 = kEnd) : matGo d k (l.drop k) = if d - 1 = 0 then k else matGo (d - 1) (k + 1) (l.drop (k + 1)) := by
 rw [dropC h, matGo, if_neg (by rw [h0]; exact Ne.symm rep_end), if_pos h0]
theorem mat_one {l : List Cmd} {k : Nat} {d : Int} (h : k < l.length) (h0 : (l.getD k z3).1 ≠ kRep) (h1 : (l.getD k z3).1 ≠ kEnd) : matGo d k (l.drop k) = matGo d (k + 1) (l.drop (k + 1)) := by
 rw [dropC h, matGo, if_neg h0, if_neg h1]
theorem mat_nil {l : List Cmd} {k : Nat} {d : Int} (h : k = l.length) : matGo d k (l.drop k) = k := by
 rw [List.drop_of_length_le (by omega)]; rfl
theorem smL_len : ∀ (st : List (Int × Int)) (s : Int), (smL st s).length = st.length + 1
 | [], _ => rfl
 | p :: st, s => by rw [smL, List.length_append, smL_len st]; rfl
theorem cnL_len : ∀ (st : List (Int × Int)), (cnL st).length = st.length
 | [] => rfl
 | p :: st => by rw [cnL, List.length_append, cnL_len st]; rfl
theorem smL_get : ∀ (st : List (Int × Int)) (s : Int), (smL st s).getD st.length 0 = s
 | [], _ => rfl
 | p :: st, s => by
  rw [smL, List.getD_eq_getElem?_getD, List.getElem?_append_right (by rw [smL_len]; simp), smL_len]
  simp
theorem smL_get2 (p : Int × Int) (st : List (Int × Int)) (s : Int) : (smL (p :: st) s).getD st.length 0 = p.1 := by
 rw [smL, List.getD_eq_getElem?_getD, List.getElem?_append_left (by rw [smL_len]; omega), ← List.getD_eq_getElem?_getD]
 exact smL_get st p.1
theorem cnL_get (p : Int × Int) (st : List (Int × Int)) : (cnL (p :: st)).getD st.length 0 = p.2 := by
 rw [cnL, List.getD_eq_getElem?_getD, List.getElem?_append_right (by rw [cnL_len]; omega), cnL_len]
 simp
theorem smL_set : ∀ (st : List (Int × Int)) (s v : Int), (smL st s).set st.length v = smL st v
 | [], _, _ => rfl
 | p :: st, s, v => by
  rw [smL, List.set_append_right _ _ (by rw [smL_len]; simp), smL_len]
  simp [smL]
theorem smL_pop (p : Int × Int) (st : List (Int × Int)) (s v : Int) : ((smL (p :: st) s).set st.length v).take (st.length + 1) = smL st v := by
 rw [smL, List.set_append_left _ _ (by rw [smL_len]; omega), smL_set, List.take_append_of_le_length (by rw [smL_len]; omega), List.take_of_length_le (by rw [smL_len]; omega)]
theorem cnL_pop (p : Int × Int) (st : List (Int × Int)) : (cnL (p :: st)).take st.length = cnL st := by
 rw [cnL, List.take_append_of_le_length (by rw [cnL_len]; omega), List.take_of_length_le (by rw [cnL_len]; omega)]
theorem with_rng {n a b : Int} (h : withinF n a b = 0) : a ≤ n ∧ n ≤ b := by
 unfold withinF whenF outF at h
 by_cases h1 : n < a
 ·simp [h1] at h
 ·by_cases h2 : b < n
  ·simp [h2] at h
  ·omega
theorem first2 {a b : Int} (h : firstF [a, b] = 0) : a = 0 ∧ b = 0 := by
 simp only [firstF] at h
 split at h
 ·rename_i ha
  split at h
  ·rename_i hb; exact ⟨ha, hb⟩
  ·rename_i hb; exact absurd h hb
 ·rename_i ha; exact absurd h ha
theorem cnt_rep {c : Cmd} (h : chkC c = 0) (h0 : c.1 = kRep) : 1 ≤ c.2.2 ∧ c.2.2 ≤ 100 := by
 unfold chkC at h
 rw [h0] at h
 rw [if_neg (by decide), if_neg (by decide), if_neg (by decide), if_pos rfl] at h
 exact with_rng (first2 h).2
theorem cnt_wait {c : Cmd} (h : chkC c = 0) (h0 : c.1 = kWait) : 1 ≤ c.2.2 ∧ c.2.2 ≤ 100000 := by
 unfold chkC at h
 rw [h0] at h
 rw [if_neg (by decide), if_neg (by decide), if_pos rfl] at h
 exact with_rng (first2 h).2
theorem ops_of {c : Cmd} (h : chkC c = 0) : c.1 = kAct ∨ c.1 = kEnd ∨ c.1 = kWait ∨ c.1 = kRep := by
 unfold chkC at h
 split at h
 ·exact .inl ‹_›
 ·split at h
  ·exact .inr (.inl ‹_›)
  ·split at h
   ·exact .inr (.inr (.inl ‹_›))
   ·split at h
    ·exact .inr (.inr (.inr ‹_›))
    ·cases h
theorem len_ge : ∀ {l : List Cmd} {s : Int} {st : List (Int × Int)}, depC st.length l = 0 → (∀ c ∈ l, chkC c = 0) → 0 ≤ s → (∀ p ∈ st, 0 ≤ p.1 ∧ 1 ≤ p.2) → s ≤ lenGo s st l ∧ ∀ p ∈ st, p.1 ≤ lenGo s st l
 | [], s, st, hd, _, _, _ => by
  rw [depC] at hd
  have : st.length = 0 := by
   split at hd
   ·cases hd
   ·omega
  obtain rfl := List.eq_nil_of_length_eq_zero this
  exact ⟨Int.le_refl _, fun p hp => by cases hp⟩
 | c :: l, s, st, hd, hc, hs, hst => by
  have hcl : ∀ c ∈ l, chkC c = 0 := fun x hx => hc x (List.mem_cons_of_mem _ hx)
  rw [depC] at hd
  rw [lenGo_cons]
  by_cases h1 : c.1 = kRep
  ·rw [if_pos h1] at hd ⊢
   have hr := cnt_rep (hc c (List.mem_cons_self ..)) h1
   split at hd
   ·cases hd
   ·have := len_ge (s := 1) (st := (s, c.2.2) :: st) hd hcl (by omega) (by
     intro p hp
     rcases List.mem_cons.1 hp with rfl | hp
     ·exact ⟨hs, hr.1⟩
     ·exact hst p hp)
    exact ⟨this.2 _ (List.mem_cons_self ..), fun p hp => this.2 p (List.mem_cons_of_mem _ hp)⟩
  ·rw [if_neg h1] at hd ⊢
   by_cases h2 : c.1 = kEnd
   ·rw [if_pos h2] at hd ⊢
    match st, hd, hst with
    | [], hd, _ => simp at hd
    | p :: st, hd, hst =>
     simp only [List.length_cons, Nat.add_sub_cancel] at hd
     rw [if_neg (by omega)] at hd
     have hp := hst p (List.mem_cons_self ..)
     have hm : s ≤ p.2 * s := by
      have := Int.mul_le_mul_of_nonneg_right hp.2 hs
      omega
     have := len_ge (s := p.1 + p.2 * s) (st := st) hd hcl (by omega) (fun q hq => hst q (List.mem_cons_of_mem _ hq))
     refine ⟨by show s ≤ lenGo (p.1 + p.2 * s) st l; omega, fun q hq => ?_⟩
     rcases List.mem_cons.1 hq with rfl | hq
     ·show q.1 ≤ lenGo (q.1 + q.2 * s) st l; omega
     ·exact this.2 q hq
   ·rw [if_neg h2] at hd ⊢
    have := len_ge (s := s + 1) (st := st) hd hcl (by omega) hst
    exact ⟨by omega, this.2⟩
end Go.Lens.Tm
end
section
namespace Go.Lens.Tm
open Go.Lens.Tb Go.Proofs
set_option linter.unusedSectionVars false
inductive Wf : Nat → List Cmd → Prop
 | nil (d : Nat) : Wf d []
 | one {d : Nat} {c : Cmd} {l : List Cmd} : c.1 ≠ kRep → c.1 ≠ kEnd → Wf d l → Wf d (c :: l)
 | rep {d : Nat} {c e : Cmd} {b l : List Cmd} : c.1 = kRep → e.1 = kEnd → Wf d b → Wf (d + 1) l → Wf (d + 1) (c :: (b ++ e :: l))
theorem wf_len {d : Nat} {l : List Cmd} (h : Wf d l) : ∀ (s : Int) (st : List (Int × Int)) (r : List Cmd), lenGo s st (l ++ r) = lenGo (s + lenP l) st r := by
 induction h with
 | nil d => intro s st r; rw [List.nil_append]; simp [lenP, lenGo]
 | @one d c l h1 h2 h ih =>
  intro s st r
  have e : lenP (c :: l) = 1 + lenP l := by
   have := ih 1 [] []
   rw [List.append_nil] at this
   rw [lenP, lenGo_cons, if_neg h1, if_neg h2, Int.zero_add, this]; rfl
  rw [List.cons_append, lenGo_cons, if_neg h1, if_neg h2, ih, e, Int.add_assoc]
 | @rep d c e b l h1 h2 hb hl ihb ihl =>
  have key : ∀ (s : Int) (st : List (Int × Int)) (r : List Cmd), lenGo s st ((c :: (b ++ e :: l)) ++ r) = lenGo (s + (c.2.2 * (1 + lenP b) + lenP l)) st r := by
   intro s st r
   rw [List.cons_append, lenGo_cons, if_pos h1, List.append_assoc, ihb, List.cons_append, lenGo_cons, if_neg (by rw [h2]; exact Ne.symm rep_end), if_pos h2]
   show lenGo (s + c.2.2 * (1 + lenP b)) st (l ++ r) = _
   rw [ihl, Int.add_assoc]
  have e0 : lenP (c :: (b ++ e :: l)) = c.2.2 * (1 + lenP b) + lenP l := by
   have := key 0 [] []
   rw [List.append_nil, Int.zero_add] at this
   exact this
  intro s st r
  rw [key, e0]
theorem wf_one_len {d : Nat} {c : Cmd} {l : List Cmd} (h1 : c.1 ≠ kRep) (h2 : c.1 ≠ kEnd) (h : Wf d l) : lenP (c :: l) = 1 + lenP l := by
 have := wf_len h 1 [] []
 rw [List.append_nil] at this
 rw [lenP, lenGo_cons, if_neg h1, if_neg h2, Int.zero_add, this]; rfl
theorem wf_rep_len {d : Nat} {c e : Cmd} {b l : List Cmd} (h1 : c.1 = kRep) (h2 : e.1 = kEnd) (hb : Wf d b) (hl : Wf (d + 1) l) : lenP (c :: (b ++ e :: l)) = c.2.2 * (1 + lenP b) + lenP l := by
 have h3 := wf_len hl (c.2.2 * (1 + lenP b)) [] []
 rw [List.append_nil] at h3
 rw [lenP, lenGo_cons, if_pos h1, wf_len hb, lenGo_cons, if_neg (by rw [h2]; exact Ne.symm rep_end), if_pos h2]
 show lenGo (0 + c.2.2 * (1 + lenP b)) [] l = _
 rw [Int.zero_add, h3]; rfl
theorem wf_mat {d : Nat} {l : List Cmd} (h : Wf d l) : ∀ (q : Int) (i : Nat) (r : List Cmd), 1 ≤ q → matGo q i (l ++ r) = matGo q (i + l.length) r := by
 induction h with
 | nil d => intro q i r _; rfl
 | @one d c l h1 h2 h ih =>
  intro q i r hq
  rw [List.cons_append, matGo, if_neg h1, if_neg h2, ih _ _ _ hq, List.length_cons]
  congr 1; omega
 | @rep d c e b l h1 h2 hb hl ihb ihl =>
  intro q i r hq
  rw [List.cons_append, matGo, if_pos h1, List.append_assoc, ihb _ _ _ (by omega), List.cons_append, matGo, if_neg (by rw [h2]; exact Ne.symm rep_end), if_pos h2, if_neg (by omega), show q + 1 - 1 = q by omega, ihl _ _ _ hq]
  congr 1
  simp only [List.length_cons, List.length_append]; omega
def Op : Nat → List Cmd → Prop
 | 0, l => Wf 4 l
 | k + 1, l => ∃ b e r, l = b ++ e :: r ∧ e.1 = kEnd ∧ Wf (4 - (k + 1)) b ∧ Op k r
theorem op_of : ∀ {l : List Cmd} {k : Nat}, k ≤ 4 → depC k l = 0 → Op k l
 | [], k, _, h => by
  rw [depC] at h
  have : k = 0 := by
   split at h
   ·cases h
   ·omega
  subst this
  exact Wf.nil 4
 | c :: l, k, hk, h => by
  rw [depC] at h
  by_cases h1 : c.1 = kRep
  ·rw [if_pos h1] at h
   split at h
   ·cases h
   ·rename_i h4
    obtain ⟨b, e, r, rfl, he, hb, hr⟩ := op_of (k := k + 1) (by omega) h
    cases k with
    | zero => exact Wf.rep h1 he hb hr
    | succ j =>
     obtain ⟨b2, e2, r2, rfl, he2, hb2, hr2⟩ := hr
     refine ⟨c :: (b ++ e :: b2), e2, r2, by simp, he2, ?_, hr2⟩
     have : 4 - (j + 1) = (4 - (j + 1 + 1)) + 1 := by omega
     rw [this] at hb2 ⊢
     exact Wf.rep h1 he hb hb2
  ·rw [if_neg h1] at h
   by_cases h2 : c.1 = kEnd
   ·rw [if_pos h2] at h
    split at h
    ·cases h
    ·rename_i h0
     cases k with
     | zero => exact absurd rfl h0
     | succ j => exact ⟨[], c, l, rfl, h2, Wf.nil _, op_of (k := j) (by omega) h⟩
   ·rw [if_neg h2] at h
    have ih := op_of hk h
    cases k with
    | zero => exact Wf.one h1 h2 ih
    | succ j =>
     obtain ⟨b, e, r, rfl, he, hb, hr⟩ := ih
     exact ⟨c :: b, e, r, rfl, he, Wf.one h1 h2 hb, hr⟩
theorem wf_of {l : List Cmd} (h : depC 0 l = 0) : Wf 4 l := op_of (k := 0) (by omega) h
theorem one_le_101 (d : Nat) : (1 : Int) ≤ 101 ^ d := by
 have h : (1 : Nat) ≤ 101 ^ d := Nat.one_le_pow _ _ (by decide)
 have e : ((101 : Int) ^ d) = (((101 : Nat) ^ d : Nat) : Int) := by simp
 rw [e]; omega
theorem wf_nn {d : Nat} {l : List Cmd} (h : Wf d l) (hc : ∀ c ∈ l, chkC c = 0) : 0 ≤ lenP l ∧ lenP l ≤ l.length * 101 ^ d := by
 induction h with
 | nil d => simp [lenP, lenGo]
 | @one d c l h1 h2 h ih =>
  have := ih fun x hx => hc x (List.mem_cons_of_mem _ hx)
  rw [wf_one_len h1 h2 h]
  have hp : (1 : Int) ≤ 101 ^ d := one_le_101 _
  have : ((c :: l).length : Int) * 101 ^ d = (l.length : Int) * 101 ^ d + 101 ^ d := by
   rw [List.length_cons, Int.natCast_add, Int.add_mul]; simp
  omega
 | @rep d c e b l h1 h2 hb hl ihb ihl =>
  have kb := ihb fun x hx => hc x (by simp [hx])
  have kl := ihl fun x hx => hc x (by simp [hx])
  have hr := cnt_rep (hc c (List.mem_cons_self ..)) h1
  rw [wf_rep_len h1 h2 hb hl]
  have hp : (1 : Int) ≤ 101 ^ d := one_le_101 _
  have n0 : 0 ≤ c.2.2 * (1 + lenP b) := Int.mul_nonneg (by omega) (by omega)
  have n1 : c.2.2 * (1 + lenP b) ≤ 101 * ((1 + b.length) * 101 ^ d) := by
   have a1 : c.2.2 * (1 + lenP b) ≤ 101 * (1 + lenP b) := Int.mul_le_mul_of_nonneg_right (by omega) (by omega)
   have a2 : 101 * (1 + lenP b) ≤ 101 * ((1 + b.length) * 101 ^ d) := Int.mul_le_mul_of_nonneg_left (by rw [Int.add_mul]; omega) (by decide)
   omega
  have e1 : 101 * ((1 + (b.length : Int)) * 101 ^ d) = (1 + b.length) * 101 ^ (d + 1) := by
   rw [Int.pow_succ]; rw [Int.mul_comm 101, Int.mul_assoc]
  have e2 : ((c :: (b ++ e :: l)).length : Int) * 101 ^ (d + 1) = (1 + b.length) * 101 ^ (d + 1) + l.length * 101 ^ (d + 1) + 101 ^ (d + 1) := by
   have : ((c :: (b ++ e :: l)).length : Int) = (1 + b.length) + l.length + 1 := by simp only [List.length_cons, List.length_append]; omega
   rw [this, Int.add_mul, Int.add_mul]; simp
  have hp2 : (1 : Int) ≤ 101 ^ (d + 1) := one_le_101 _
  omega
theorem wf_small {d : Nat} {l : List Cmd} (h : Wf d l) (hd : d ≤ 4) (hc : ∀ c ∈ l, chkC c = 0) (hl : l.length ≤ 64) : 0 ≤ lenP l ∧ lenP l ≤ 7000000000 := by
 obtain ⟨h1, h2⟩ := wf_nn h hc
 refine ⟨h1, ?_⟩
 have hp : (101 : Int) ^ d ≤ 101 ^ 4 := by
  have : d = 0 ∨ d = 1 ∨ d = 2 ∨ d = 3 ∨ d = 4 := by omega
  rcases this with rfl | rfl | rfl | rfl | rfl <;> decide
 have h3 : (l.length : Int) * 101 ^ d ≤ 64 * 101 ^ 4 := by
  have a1 : (l.length : Int) * 101 ^ d ≤ l.length * 101 ^ 4 := Int.mul_le_mul_of_nonneg_left hp (by omega)
  have a2 : (l.length : Int) * 101 ^ 4 ≤ 64 * 101 ^ 4 := Int.mul_le_mul_of_nonneg_right (by omega) (by decide)
  omega
 have : (64 : Int) * 101 ^ 4 = 6659865664 := by decide
 omega
theorem wf_at {d : Nat} {l : List Cmd} {i : Nat} (hw : Wf d (l.drop i)) (hi : i < l.length) (h0 : (l.getD i z3).1 = kRep) :
  ∃ (d' n : Nat), d = d' + 1 ∧ n = matGo 0 i (l.drop i) ∧ i + 1 ≤ n ∧ n < l.length ∧ Wf d' ((l.take n).drop (i + 1)) ∧ Wf d (l.drop (n + 1)) ∧ lenP (l.drop i) = (l.getD i z3).2.2 * (1 + lenP ((l.take n).drop (i + 1))) + lenP (l.drop (n + 1)) := by
 have hd := dropC hi
 generalize hq : l.drop i = q at hw hd
 cases hw with
 | nil d => cases hd
 | one h1 h2 h => cases hd; exact absurd h0 h1
 | @rep d' c e b r h1 h2 hb hr =>
  injection hd with k1 k2
  have hm : matGo 0 i (c :: (b ++ e :: r)) = i + 1 + b.length := by
   rw [matGo, if_pos h1, wf_mat hb _ _ _ (by omega), matGo, if_neg (by rw [h2]; exact Ne.symm rep_end), if_pos h2, if_pos (by omega)]
  have hlen : l.length = i + 1 + b.length + 1 + r.length := by
   have := congrArg List.length hq
   simp only [List.length_drop, List.length_cons, List.length_append] at this
   omega
  have htb : (l.take (i + 1 + b.length)).drop (i + 1) = b := by
   rw [List.drop_take, ← k2, show i + 1 + b.length - (i + 1) = b.length by omega, List.take_left]
  have hdr : l.drop (i + 1 + b.length + 1) = r := by
   rw [show i + 1 + b.length + 1 = (i + 1) + (b.length + 1) by omega, ← List.drop_drop, ← k2, ← List.drop_drop, List.drop_left]; rfl
  refine ⟨d', i + 1 + b.length, rfl, hm.symm, by omega, by omega, by rw [htb]; exact hb, by rw [hdr]; exact hr, ?_⟩
  rw [htb, hdr, ← k1]
  exact wf_rep_len h1 h2 hb hr
theorem wf_next {d : Nat} {l : List Cmd} {i : Nat} (hw : Wf d (l.drop i)) (hi : i < l.length) (h0 : (l.getD i z3).1 ≠ kRep) : (l.getD i z3).1 ≠ kEnd ∧ Wf d (l.drop (i + 1)) ∧ lenP (l.drop i) = 1 + lenP (l.drop (i + 1)) := by
 have hd := dropC hi
 generalize hq : l.drop i = q at hw hd
 cases hw with
 | nil d => cases hd
 | one h1 h2 h =>
  injection hd with k1 k2
  rw [← k1, ← k2]
  exact ⟨h2, h, wf_one_len h1 h2 h⟩
 | rep h1 h2 hb hr => injection hd with k1 k2; rw [k1] at h1; exact absurd h1 h0
end Go.Lens.Tm
end
section
namespace Go.Lens
set_option linter.unusedSectionVars false
variable [Lz]
section
variable {P : Program} {Y : Tab} [TabOk P Y] {nb : Nat} {s : St} {dst : Option Tmp} {ty u : TypeId} {pos : String} {af : Array Edge} {gd : Option (Nat × Bool)} {t : TypeId} {x y z : Operand}
theorem B.loadE {α : Type} {enc : α → List PV} {l : List α} {z0 : α} {p : PV} {h v sz n : Nat} {T : TypeId} (hx : ev1 s x = .eref h v n 0) (hm : lookM s.ms h = some (.arr v sz T (l.map enc))) (ha : aggT Y t = some false) (hs : szT Y t = some 1)
  (hlt : n < l.length) (hz : enc (l.getD n z0) = [p]) : Body P Y nb s ⟨dst, .load t x, ty, pos, af, gd⟩ (.pv p) [] [h] := by
 refine .inr (SBody.of fun σ G a w hv hl I => ?_)
 have hX := hv x (by simp [Op.operands])
 rw [hx] at hX
 have hlk : lookM σ.ms h = some (.arr v sz T (l.map enc)) := by rw [hl h (.inl (by simp))]; exact hm
 have hq : loadQ Y t (lookM σ.ms) (.eref h v n 0) = some (true, .pv p) := by
  have hg : (l.map enc).getD n [] = [p] := by
   rw [← hz, List.getD_eq_getElem?_getD, List.getElem?_map, List.getD_eq_getElem?_getD, List.getElem?_eq_getElem hlt]; rfl
  unfold loadQ
  simp only [ha, hs, hlk, if_true, hg, Bool.false_eq_true, if_false, List.length_map]
  simp [hlt]
 obtain ⟨r, h1, h2⟩ := loadQ_sound (P := P) I.ctxS.sees hq hX
 refine ⟨r, w, G, .inl ?_, stepped_same I.ctxS h2 (fun k hk => by simp [DV.refs] at hk)⟩
 simp only [execOp, Sem.run_bind, h1, Result.andThen_ok, Sem.run_pure]
theorem B.slA {α : Type} {enc : α → List PV} {l : List α} {h v sz n : Nat} {k : IntKind} {m : Int} {e T : TypeId} (hx : ev1 s x = .aref h v) (hm : lookM s.ms h = some (.arr v sz T (l.map enc))) (hy : ev1 s y = lit (.int k m)) (und : Y.underlying t = some (.slice e)) (hs : szT Y e = some sz)
  (hn : m = (n : Int)) (hle : n ≤ l.length) : Body P Y nb s ⟨dst, .slice t x none (some y) none, ty, pos, af, gd⟩ (.atrunc h v n) [] [h] := by
 refine .inr (SBody.of fun σ G a w hv hl I => ?_)
 have hX := hv x (by simp [Op.operands])
 have hY := hv y (by simp [Op.operands])
 rw [hx] at hX; rw [hy] at hY
 have hlk : lookM σ.ms h = some (.arr v sz T (l.map enc)) := by rw [hl h (.inl (by simp))]; exact hm
 have hq : sliceW Y t (lookM σ.ms) (.aref h v) none (some (lit (.int k m))) none = some (true, .atrunc h v n) := by
  show sliceQ Y t (lookM σ.ms) (.aref h v) none (some (lit (.int k m))) none = _
  unfold sliceQ lit
  subst hn
  have : decide ((0 : Int) ≤ (n : Int) ∧ (n : Int) ≤ ((l.map enc).length : Int)) = true := decide_eq_true ⟨by omega, by rw [List.length_map]; omega⟩
  simp only [und, bound, hs, hlk, if_true, this, Int.toNat_natCast]
 obtain ⟨r, h1, h2⟩ := sliceW_sound (P := P) I.ctxS.sees hq hX (vlo := none) (vhi := some (a.eval y)) (vmx := none) trivial hY trivial
 refine ⟨r, w, G, .inl ?_, stepped_same I.ctxS h2 (fun k hk => ?_)⟩
 ·simp only [execOp, Option.map_none, Option.map_some, Sem.run_bind, h1, Result.andThen_ok, Sem.run_pure]
 ·simp only [DV.refs, List.mem_singleton] at hk; subst hk; exact ⟨_, hlk⟩
end
theorem wk_trunc {nb : Nat} {s : St} {t h v k sz : Nat} {T0 : TypeId} {es : List (List PV)} (ht : getT s.tm t = .atrunc h v k) (hm : lookM s.ms h = some (.arr v sz T0 es)) : Wk nb s ⟨(t, .aref h (v + 1)) :: s.tm, (h, .arr (v + 1) sz T0 (es.take k)) :: s.ms⟩ := by
 intro G a w I
 have hv0 : RelDV G (G.rd w) (.atrunc h v k) (a.tmps.getD t undef) := by
  have := I.ts t
  have e : s.vw.get t = .atrunc h v k := ht
  rw [e] at this; exact this
 have ht2 : truncU (lookM s.ms) (.atrunc h v k) = some (.aref h (v + 1), h, .arr (v + 1) sz T0 (es.take k)) := by simp only [truncU, hm, if_true]
 obtain ⟨G1, S1⟩ := trunc_stepped I.mem hv0 ht2
 obtain ⟨I1, Sn1⟩ := I.eff (K := nb) S1 none (by simp)
 have I2 : Inv G1 (St.vw ⟨s.tm, (h, .arr (v + 1) sz T0 (es.take k)) :: s.ms⟩) a w := I1
 refine ⟨G1, ?_, Sn1⟩
 have hts : t < a.tmps.size := by
  rcases Nat.lt_or_ge t a.tmps.size with h | h
  ·exact h
  ·exact absurd (ht.symm.trans (I.size t h)) (by simp)
 refine ⟨fun u => ?_, fun u hu => ?_, I2.ms, I2.fresh, I2.own, fun u k hk => ?_, I2.refsM, I2.r0, I2.r0m, I2.baseLe, I2.laid⟩
 ·show RelDV _ _ (getT ((t, .aref h (v + 1)) :: s.tm) u) _
  rw [getT_cons]
  split
  ·rename_i e; subst e; exact S1.hval
  ·exact I2.ts u
 ·show getT ((t, .aref h (v + 1)) :: s.tm) u = .dead
  rw [getT_cons, if_neg (by omega)]
  exact I2.size u hu
 ·have hk' : k ∈ (getT ((t, .aref h (v + 1)) :: s.tm) u).refs := hk
  rw [getT_cons] at hk'
  split at hk'
  ·simp only [DV.refs, List.mem_singleton] at hk'
   subst hk'
   exact ⟨_, by show lookM ((k, _) :: s.ms) k = _; rw [lookM_cons, if_pos rfl]⟩
  ·exact I2.refsT u k hk'
section
variable {P : Program} {Y : Tab} {n nb : Nat} {Q : Exit → St → Prop} {K : List Fr} {c : Code} {s : St}
theorem TK.trunc {t h v k sz : Nat} {T0 : TypeId} {α : Type} {enc : α → List PV} {l : List α} (ht : getT s.tm t = .atrunc h v k) (hm : lookM s.ms h = some (.arr v sz T0 (l.map enc))) (q : TK P n nb Q c K ⟨(t, .aref h (v + 1)) :: s.tm, (h, .arr (v + 1) sz T0 ((l.take k).map enc)) :: s.ms⟩) : TK P n nb Q c K s := by
 refine T.weak (wk_trunc ht hm) ?_
 rw [← List.map_take]
 exact q
end
theorem relDVs_adopt {G1 G2 : Gh} {R : Rd} {h : Nat} (hq : ∀ v, RelDV G1 R .nils v → RelDV G2 R (.aref h 0) v) : ∀ {ps : List PV} {vs : List Value}, RelDVs G1 R (ps.map .pv ++ [.nils]) vs → RelDVs G2 R (ps.map .pv ++ [.aref h 0]) vs
 | [], vs, H => by
  simp only [List.map_nil, List.nil_append, RelDVs] at H ⊢
  obtain ⟨v, vs', rfl, k1, k2⟩ := H
  exact ⟨v, vs', rfl, hq v k1, k2⟩
 | p :: ps, vs, H => by
  simp only [List.map_cons, List.cons_append, RelDVs] at H ⊢
  obtain ⟨v, vs', rfl, k1, k2⟩ := H
  exact ⟨v, vs', rfl, by simpa only [RelDV] using k1, relDVs_adopt hq k2⟩
theorem Frz.aggNil {l : List (Nat × MO)} {h sz : Nat} {T : TypeId} (ps : List PV) (hl : lookM l h = none) : Frz l (.agg (ps.map .pv ++ [.nils])) [] (.agg (ps.map .pv ++ [.aref h 0])) [(h, .arr 0 sz T [])] := by
 intro G w G1 w1 r M S
 have hv := S.hval
 simp only [RelDV] at hv
 obtain ⟨vs, rfl, ho, hvs⟩ := hv
 refine ⟨G1.turn h ⟨none, 0, 0, sz, 0, 0, true⟩, ⟨⟨S.later.base, S.later.R0, S.later.R0c, S.later.R0m, S.later.os, S.later.tape, S.later.output, S.later.size, S.later.cold⟩, ?_, ?_, ?_, ?_, S.fresh, ?_, ?_, ?_, S.newb, S.r0, S.r0m⟩⟩
 ·simp only [RelDV]
  refine ⟨vs, rfl, ho, relDVs_adopt (G1 := G1) (fun v hv => ?_) hvs⟩
  simp only [RelDV] at hv
  simp only [RelDV, Gh.turn, if_true]
  exact ⟨Nat.le_refl _, fun _ => hv⟩
 ·intro k o hk
  simp only [List.mem_singleton, Prod.mk.injEq] at hk
  obtain ⟨rfl, rfl⟩ := hk
  simp only [RelMO, Gh.turn, if_true]
  exact ⟨trivial, trivial, trivial, rfl, Nat.le_refl _, (by simp), .inl ⟨trivial, trivial⟩⟩
 ·intro k o hk
  have hne : k ≠ h := by rintro rfl; rw [hl] at hk; cases hk
  have := S.keeps k o hk
  unfold Gh.keeps at this ⊢
  simp only [Gh.turn, hne, if_false]; exact this
 ·intro k hk
  simp only [List.map_cons, List.map_nil, List.mem_singleton] at hk
  have := S.old k (by simp)
  simp only [Gh.turn, hk, if_false]; exact this
 ·intro b k hk
  rcases S.own b k hk with e | e
  ·simp at e
  ·exact .inr e
 ·intro k hk
  have : ∀ (ps : List PV), DV.refsL (ps.map .pv ++ [.aref h 0]) = [h] := by
   intro ps
   induction ps with
   | nil => rfl
   | cons p ps ih => simp only [List.map_cons, List.cons_append, DV.refsL, DV.refs, List.nil_append]; exact ih
  simp only [DV.refs, this, List.mem_singleton] at hk
  exact .inl (by simp [hk])
 ·intro k o hk k2 hh
  simp only [List.mem_singleton, Prod.mk.injEq] at hk
  obtain ⟨rfl, rfl⟩ := hk
  simp [MO.refs] at hh
theorem eqv_i {k : IntKind} {a b : Int} : eqV (.int k) (.lit (.int .i64 a)) (.lit (.int .i64 b)) = some (decide (a = b)) := by
 have : (a == b) = decide (a = b) := rfl
 simp [eqV, this]
theorem eqv_s {a b : List UInt8} : eqV .string (.lit (.string (bsO a))) (.lit (.string (bsO b))) = some (decide (a = b)) := by
 have : decide (a = b) = ((bsO a).toList == (bsO b).toList) := by rw [Bool.eq_iff_iff]; simp [toList_inj, bsO_inj]
 rw [this]; rfl
theorem eqv_b {p q : Bool} : eqV .bool (.lit (.bool p)) (.lit (.bool q)) = some (p == q) := rfl
theorem eqv_cons {d : TypeDesc} {ds : List TypeDesc} {x y : PV} {xs ys : List PV} {a b : Bool} (h1 : eqV d x y = some a) (h2 : eqVs ds xs ys = some b) : eqVs (d :: ds) (x :: xs) (y :: ys) = some (a && b) := by simp only [eqVs, h1, h2]
theorem eqv_last {d : TypeDesc} {x y : PV} {a : Bool} (h1 : eqV d x y = some a) : eqVs [d] [x] [y] = some a := by simp only [eqVs, h1, Bool.and_true]
section
variable {P : Program} {Y : Tab} [TabOk P Y] {nb : Nat} {s : St} {dst : Option Tmp} {ty u : TypeId} {pos : String} {af : Array Edge} {gd : Option (Nat × Bool)} {t : TypeId} {x y : Operand}
theorem B.stqE {ds : List TypeDesc} {xs ys : List PV} {r : Bool} (hx : ev1 s x = .pv (.agg xs)) (hy : ev1 s y = .pv (.agg ys)) (hf : flatEq Y t = some ds) (he : eqVs ds xs ys = some r) : Body P Y nb s ⟨dst, .binOp .eql t x y u, ty, pos, af, gd⟩ (lit (.bool r)) [] [] := by
 refine B.bin hx hy ?_
 have h2 : binQ Y .eql t (.pv (.agg xs)) (.pv (.agg ys)) = some (true, lit (.bool r)) := by
  simp only [binQ, hf, he]
 show qE (binW Y .eql t (lookM []) (isNilC y) _ _) = _
 have h3 : binW Y .eql t (lookM []) (isNilC y) (.pv (.agg xs)) (.pv (.agg ys)) = some (true, lit (.bool r)) := by
  unfold binW
  simp only [nilQ, nilKind, samePQ, h2]
 rw [h3]; rfl
theorem B.stqN {ds : List TypeDesc} {xs ys : List PV} {r : Bool} (hx : ev1 s x = .pv (.agg xs)) (hy : ev1 s y = .pv (.agg ys)) (hf : flatEq Y t = some ds) (he : eqVs ds xs ys = some r) : Body P Y nb s ⟨dst, .binOp .neq t x y u, ty, pos, af, gd⟩ (lit (.bool (!r))) [] [] := by
 refine B.bin hx hy ?_
 have h2 : binQ Y .neq t (.pv (.agg xs)) (.pv (.agg ys)) = some (true, lit (.bool (!r))) := by
  simp only [binQ, hf, he]
 show qE (binW Y .neq t (lookM []) (isNilC y) _ _) = _
 have h3 : binW Y .neq t (lookM []) (isNilC y) (.pv (.agg xs)) (.pv (.agg ys)) = some (true, lit (.bool (!r))) := by
  unfold binW
  simp only [nilQ, nilKind, samePQ, h2]
 rw [h3]; rfl
end
section
variable {P : Program} {n nb : Nat} {Q : Exit → St → Prop} {c : Code} {s : St}
theorem pk_goto (hq : ∀ l s, ¬ Q (.goto l) s) : ∀ {K : List Fr} {l : Nat} {s : St}, ¬ PK P n nb Q K (.goto l) s
 | [], l, s, h => hq l s h
 | .seq y :: K, l, s, h => pk_goto hq (K := K) h
 | .blk id :: K, l, s, h => pk_goto hq (K := K) h
 | .lp C :: K, l, s, h => pk_goto hq (K := K) h
theorem TK.scope {K : List Fr} (hq : ∀ l s, ¬ Q (.goto l) s) (h : TK P n nb Q c K s) : TK P n nb Q (.scope c) K s := by
 intro G a w R I hn hK
 refine wp_scope_straight (h G a w _ I hn ?_)
 intro e s' G1 a1 w1 q I1 Sn1 hn1 hd1
 have := hK e s' G1 a1 w1 q I1 Sn1 hn1 hd1
 cases e with
 | goto l => exact absurd q (pk_goto hq)
 | _ => exact this
theorem TK.label {K : List Fr} {l : Nat} (h : PK P n nb Q K .normal s) : TK P n nb Q (.label l) K s := by
 intro G a w R I hn hK
 exact wp_label (hK _ s G a w h I (Since.refl _ _ _ _) hn rfl)
end
end Go.Lens
end
section
namespace Go.Lens.Tm
open Go.Lens.Tb Go.Proofs
set_option linter.unusedSectionVars false
theorem eqf {b : Bool} (h : (b == false) = true) : b = false := by cases b <;> simp_all
theorem lenP_nil : lenP [] = 0 := rfl
theorem words_zero {o : List UInt8} (h : wordsF o = 0) : o ≠ kAct ∧ o ≠ kWait ∧ o ≠ kRep ∧ o ≠ kEnd := by
 unfold wordsF at h
 refine ⟨fun e => ?_, fun e => ?_, fun e => ?_, fun e => ?_⟩ <;> (rw [e] at h; exact absurd h (by decide))
theorem words_some {o : List UInt8} (h : wordsF o ≠ 0) : o = kAct ∨ o = kWait ∨ o = kRep ∨ o = kEnd := by
 unfold wordsF at h
 by_cases h1 : o = kAct
 ·exact .inl h1
 ·by_cases h2 : o = kWait
  ·exact .inr (.inl h2)
  ·by_cases h3 : o = kRep
   ·exact .inr (.inr (.inl h3))
   ·by_cases h4 : o = kEnd
    ·exact .inr (.inr (.inr h4))
    ·rw [if_neg h1, if_neg h2, if_neg h3, if_neg h4] at h; exact absurd rfl h
theorem chk_kind {c : Cmd} (h : wordsF c.1 = 0) : chkC c = 13 := by
 obtain ⟨h1, h2, h3, h4⟩ := words_zero h
 unfold chkC
 rw [if_neg h1, if_neg h4, if_neg h2, if_neg h3]
theorem first_when {b : Bool} {e x : Int} (he : e ≠ 0) : firstF [whenF b e, x] = bif b then e else firstF [x] := by
 cases b
 ·rfl
 ·simp [whenF, firstF, he]
theorem first_one (x : Int) : firstF [x] = x := by
 by_cases h : x = 0 <;> simp [firstF, h]
theorem chk_name {c : Cmd} (h : (bif (decide (c.1 = [97, 99, 116])) then (!(isNameF (bsO c.2.1))) else false) = true) : chkC c = 8 := by
 rw [bif_and, Bool.and_eq_true] at h
 unfold chkC
 rw [if_pos (of_decide_eq_true h.1), first_when (by decide), h.2]; rfl
theorem chk_form {c : Cmd} (h0 : wordsF c.1 ≠ 0) (h : (bif (decide (c.1 ≠ [97, 99, 116])) then (decide (c.2.1 ≠ [])) else false) = true) : chkC c = 1 := by
 rw [bif_and, Bool.and_eq_true] at h
 have h1 : c.1 ≠ kAct := of_decide_eq_true h.1
 unfold chkC
 rw [if_neg h1]
 rcases words_some h0 with e | e | e | e
 ·exact absurd e h1
 ·rw [e, if_neg (by decide), if_pos rfl, first_when (by decide), h.2]; rfl
 ·rw [e, if_neg (by decide), if_neg (by decide), if_pos rfl, first_when (by decide), h.2]; rfl
 ·rw [e, if_pos rfl, first_when (by decide), h.2]; rfl
theorem chk_rest {c : Cmd} (h0 : wordsF c.1 ≠ 0) (h1 : (bif (decide (c.1 = [97, 99, 116])) then (!(isNameF (bsO c.2.1))) else false) = false) (h2 : (bif (decide (c.1 ≠ [97, 99, 116])) then (decide (c.2.1 ≠ [])) else false) = false) :
  chkC c = if c.1 = kWait then withinF c.2.2 1 100000 else if c.1 = kRep then withinF c.2.2 1 100 else withinF c.2.2 0 0 := by
 unfold chkC
 rcases words_some h0 with e | e | e | e
 ·rw [e] at h1 ⊢
  rw [decide_eq_true rfl, cond_true] at h1
  rw [if_pos rfl, if_neg (by decide), if_neg (by decide), first_when (by decide), h1]
  exact first_one _
 ·rw [e] at h2 ⊢
  rw [decide_eq_true (by decide), cond_true] at h2
  rw [if_neg (by decide), if_neg (by decide), if_pos rfl, first_when (by decide), h2]
  exact first_one _
 ·rw [e] at h2 ⊢
  rw [decide_eq_true (by decide), cond_true] at h2
  rw [if_neg (by decide), if_neg (by decide), if_neg (by decide), if_pos rfl, if_neg (by decide), if_pos rfl, first_when (by decide), h2]
  exact first_one _
 ·rw [e] at h2 ⊢
  rw [decide_eq_true (by decide), cond_true] at h2
  rw [if_neg (by decide), if_pos rfl, if_neg (by decide), if_neg (by decide), first_when (by decide), h2]
  exact first_one _
theorem with_out {n a b : Int} (h : outF n a b = true) : withinF n a b = 3 := by unfold withinF whenF; rw [h]; rfl
theorem with_in {n a b : Int} (h : outF n a b = false) : withinF n a b = 0 := by unfold withinF whenF; rw [h]; rfl
theorem chkS_many {l : List Cmd} (h : 64 < ((List.length l : Nat) : Int)) : chkS l = 5 := by unfold chkS; exact if_pos (by omega)
theorem chkS_bad {l : List Cmd} {e : Int} (h : ¬ 64 < ((List.length l : Nat) : Int)) (hb : badC l = e) (he : e ≠ 0) : chkS l = e := by
 unfold chkS
 rw [if_neg (by omega), if_pos (by rw [hb]; exact he), hb]
theorem chkS_dep {l : List Cmd} {e : Int} (h : ¬ 64 < ((List.length l : Nat) : Int)) (hb : badC l = 0) (hd : depC 0 l = e) (he : e ≠ 0) : chkS l = e := by
 unfold chkS
 rw [if_neg (by omega), if_neg (by rw [hb]; simp), if_pos (by rw [hd]; exact he), hd]
theorem chkS_len {l : List Cmd} (h : ¬ 64 < ((List.length l : Nat) : Int)) (hb : badC l = 0) (hd : depC 0 l = 0) : chkS l = whenF (decide (10000 < lenP l)) 22 := by
 unfold chkS
 rw [if_neg (by omega), if_neg (by rw [hb]; simp), if_neg (by rw [hd]; simp)]
theorem chkS_ok {l : List Cmd} (h : chkS l = 0) : l.length ≤ 64 ∧ (∀ c ∈ l, chkC c = 0) ∧ depC 0 l = 0 ∧ lenP l ≤ 10000 := by
 unfold chkS at h
 split at h
 ·cases h
 ·split at h
  ·rename_i h2; exact absurd h h2
  ·split at h
   ·rename_i h3; exact absurd h h3
   ·rename_i h1 h2 h3
    refine ⟨by omega, badC_all (Decidable.not_not.1 h2), Decidable.not_not.1 h3, ?_⟩
    unfold whenF at h
    cases hq : decide (10000 < lenP l) with
    | true => rw [hq] at h; cases h
    | false => have := of_decide_eq_false hq; omega
theorem bad_end {l : List Cmd} {k : Nat} (h : ¬ k < l.length) : badC (l.drop k) = 0 := by rw [List.drop_of_length_le (by omega)]; rfl
theorem dep_nil {l : List Cmd} {k d : Nat} (h : ¬ k < l.length) : depC d (l.drop k) = if 0 < d then 2 else 0 := by rw [List.drop_of_length_le (by omega)]; rfl
def shortS (l : List Cmd) (n : Int) : Bool :=
 bif (decide (n < (l.length : Int)) && decide ((l.length : Int) ≤ 64)) || decide (66 < (l.length : Int)) then false
 else (l.all fun c => decide (c.1.length ≤ 40) && decide (c.2.1.length ≤ 40)) && (bif decide (chkS l ≠ 0) then true else decide (lenP l ≤ 400))
theorem take_cmd (l : List Cmd) (k : Nat) (h : k < l.length) : l.take (k + 1) = l.take k ++ [l.getD k z3] := by
 rw [List.take_add_one, List.getElem?_eq_getElem h, List.getD_eq_getElem?_getD, List.getElem?_eq_getElem h]; rfl
section
variable {l : List Cmd} {n : Int} {k : Nat}
theorem ss_many (h : (bif (bif (decide (n < ((List.length l : Nat) : Int))) then (decide (((List.length l : Nat) : Int) ≤ 64)) else false) then true else (decide (66 < ((List.length l : Nat) : Int)))) = true) : shortS l n = false := by
 unfold shortS; rw [bif_or, bif_and] at h; rw [h]; rfl
theorem ss_few (h : (bif (bif (decide (n < ((List.length l : Nat) : Int))) then (decide (((List.length l : Nat) : Int) ≤ 64)) else false) then true else (decide (66 < ((List.length l : Nat) : Int)))) = false) : shortS l n = ((l.all fun c => decide (c.1.length ≤ 40) && decide (c.2.1.length ≤ 40)) && (bif decide (chkS l ≠ 0) then true else decide (lenP l ≤ 400))) := by
 unfold shortS; rw [bif_or, bif_and] at h; rw [h]; rfl
theorem ss_q {b : Bool} {c : Cmd} (h : (bif (decide (40 < ((List.length (Prod.fst c) : Nat) : Int))) then true else (decide (40 < ((List.length (Prod.fst (Prod.snd c)) : Nat) : Int)))) = b) : (decide (c.1.length ≤ 40) && decide (c.2.1.length ≤ 40)) = !b := by
 rw [← h, bif_or, Bool.not_or]
 congr 1
 ·rw [Bool.eq_iff_iff]; simp; omega
 ·rw [Bool.eq_iff_iff]; simp; omega
theorem ss_no (h1 : (bif (bif (decide (n < ((List.length l : Nat) : Int))) then (decide (((List.length l : Nat) : Int) ≤ 64)) else false) then true else (decide (66 < ((List.length l : Nat) : Int)))) = false) (hk : k < l.length)
  (h : (bif (decide (40 < ((List.length (Prod.fst (List.getD l k z3)) : Nat) : Int))) then true else (decide (40 < ((List.length (Prod.fst (Prod.snd (List.getD l k z3))) : Nat) : Int)))) = true) : shortS l n = false := by
 rw [ss_few h1]
 have : (l.all fun c => decide (c.1.length ≤ 40) && decide (c.2.1.length ≤ 40)) = false := by
  rw [List.all_eq_false]
  exact ⟨l.getD k z3, getD_mem hk, by rw [ss_q h]; simp⟩
 rw [this]; rfl
theorem ss_yes (h1 : (bif (bif (decide (n < ((List.length l : Nat) : Int))) then (decide (((List.length l : Nat) : Int) ≤ 64)) else false) then true else (decide (66 < ((List.length l : Nat) : Int)))) = false)
  (h : ∀ j, j < l.length → (decide (List.length (List.getD l j z3).1 ≤ 40) && decide (List.length (List.getD l j z3).2.1 ≤ 40)) = true) : shortS l n = (bif decide (chkS l ≠ 0) then true else decide (lenP l ≤ 400)) := by
 rw [ss_few h1]
 have : (l.all fun c => decide (c.1.length ≤ 40) && decide (c.2.1.length ≤ 40)) = true := by
  rw [List.all_eq_true]
  intro f hf
  obtain ⟨j, hj, rfl⟩ := List.getElem_of_mem hf
  have := h j hj
  rwa [List.getD_eq_getElem?_getD, List.getElem?_eq_getElem hj] at this
 rw [this]; rfl
end
def LnI (l : List Cmd) (k : Nat) (s : Int) (st : List (Int × Int)) : Prop := (lenGo s st (l.drop k) = lenP l ∧ depC st.length (l.drop k) = 0 ∧ st.length ≤ k) ∧ 0 ≤ s ∧ ∀ p ∈ st, 0 ≤ p.1 ∧ 1 ≤ p.2
theorem ln_init {l : List Cmd} (h : depC 0 l = 0) : LnI l 0 0 [] := ⟨⟨rfl, h, Nat.le_refl _⟩, Int.le_refl _, fun p hp => by cases hp⟩
section
variable {l : List Cmd} {k : Nat} {s : Int} {st : List (Int × Int)}
theorem ln_le (h : LnI l k s st) (hc : ∀ c ∈ l, chkC c = 0) : s ≤ lenP l ∧ ∀ p ∈ st, p.1 ≤ lenP l := by
 obtain ⟨⟨h1, h2, _⟩, h3, h4⟩ := h
 rw [← h1]
 exact len_ge h2 (fun c hx => hc c (List.mem_of_mem_drop hx)) h3 h4
theorem ln_rep (h : LnI l k s st) (hc : ∀ c ∈ l, chkC c = 0) (hk : k < l.length) (h0 : (l.getD k z3).1 = kRep) : LnI l (k + 1) 1 ((s, (l.getD k z3).2.2) :: st) := by
 obtain ⟨⟨h1, h2, h5⟩, h3, h4⟩ := h
 rw [dep_rep hk h0] at h2
 have hr := cnt_rep (hc _ (getD_mem (z := z3) hk)) h0
 split at h2
 ·cases h2
 ·refine ⟨⟨(len_rep hk h0).symm.trans h1, h2, by simp only [List.length_cons]; omega⟩, by decide, fun p hp => ?_⟩
  rcases List.mem_cons.1 hp with rfl | hp
  ·exact ⟨h3, hr.1⟩
  ·exact h4 p hp
theorem ln_some (h : LnI l k s st) (hk : k < l.length) (h0 : (l.getD k z3).1 = kEnd) : ∃ p st2, st = p :: st2 := by
 obtain ⟨⟨_, h2, _⟩, _, _⟩ := h
 rw [dep_end hk h0] at h2
 cases st with
 | nil => cases h2
 | cons p st => exact ⟨p, st, rfl⟩
theorem ln_pop {p : Int × Int} (h : LnI l k s (p :: st)) (hk : k < l.length) (h0 : (l.getD k z3).1 = kEnd) : LnI l (k + 1) (p.1 + p.2 * s) st := by
 obtain ⟨⟨h1, h2, h5⟩, h3, h4⟩ := h
 rw [dep_end hk h0] at h2
 have hp := h4 p (List.mem_cons_self ..)
 refine ⟨⟨(len_end hk h0).symm.trans h1, ?_, by simp only [List.length_cons] at h5; omega⟩, ?_, fun q hq => h4 q (List.mem_cons_of_mem _ hq)⟩
 ·simpa using h2
 ·have := Int.mul_nonneg (show 0 ≤ p.2 by omega) h3
  omega
theorem ln_one (h : LnI l k s st) (hk : k < l.length) (h0 : (l.getD k z3).1 ≠ kRep) (h6 : (l.getD k z3).1 ≠ kEnd) : LnI l (k + 1) (s + 1) st := by
 obtain ⟨⟨h1, h2, h5⟩, h3, h4⟩ := h
 rw [dep_one hk h0 h6] at h2
 exact ⟨⟨(len_one hk h0 h6).symm.trans h1, h2, by omega⟩, by omega, h4⟩
theorem ln_end (h : LnI l k s st) (hk : ¬ k < l.length) : (smL st s).getD 0 0 = lenP l := by
 obtain ⟨⟨h1, h2, _⟩, _, _⟩ := h
 rw [dep_nil hk] at h2
 have : st = [] := by
  split at h2
  ·cases h2
  ·exact List.eq_nil_of_length_eq_zero (by omega)
 subst this
 rw [List.drop_of_length_le (by omega)] at h1
 exact h1
end
end Go.Lens.Tm
end
section
namespace Go.Lens
set_option linter.unusedSectionVars false
variable [Lz]
section
variable {P : Program} {Y : Tab} [TabOk P Y] {nb : Nat} {s : St} {dst : Option Tmp} {ty u : TypeId} {pos : String} {af : Array Edge} {gd : Option (Nat × Bool)} {t : TypeId} {x y : Operand}
theorem B.ieqN {T : TypeId} {p : PV} {ms : Array (String × TypeId)} (hx : ev1 s x = .pv (.iface T p)) (und : Y.underlying t = some (.interface ms)) : Body P Y nb s ⟨dst, .binOp .eql t x (.const .nilIface) u, ty, pos, af, gd⟩ (lit (.bool false)) [] [] := by
 refine .inr (SBody.of fun σ G a w hv hl I => ?_)
 have hX := hv x (by simp [Op.operands])
 rw [hx] at hX
 simp only [RelDV, RelPV] at hX
 obtain ⟨v, e, _⟩ := hX
 have ht : P.underlying t = some (.interface ms) := TabOk.und P und
 refine ⟨.bool false, w, G, .inl ?_, stepped_same I.ctxS (RelDV_lit rfl) (fun k hk => by simp [lit, DV.refs] at hk)⟩
 have h1 : (binOp .eql t (.iface T v) .nilIface).run P w = .ok (.bool false) w := by
  have h : ∀ d : Nat, (Op.equalIn (d + 2) t (.iface T v) .nilIface).run P w = .ok false w := fun d => by
   simp [Op.equalIn, run_underlying ht]
  simp only [binOp]
  simp [Op.equal, Op.maxDepth, h 9998]
 have hy : a.eval (.const .nilIface) = .nilIface := rfl
 have hg : eqGuard .eql t x (.const .nilIface) (.iface T v) .nilIface = (Pure.pure () : Sem Unit) := by simp [eqGuard]
 simp only [execOp, e, hy, hg, Sem.run_bind, Sem.run_pure, Result.andThen_ok, h1]
theorem B.ieqE {ms : Array (String × TypeId)} (hx : ev1 s x = lit .nilIface) (und : Y.underlying t = some (.interface ms)) : Body P Y nb s ⟨dst, .binOp .eql t x (.const .nilIface) u, ty, pos, af, gd⟩ (lit (.bool true)) [] [] := by
 refine .inr (SBody.of fun σ G a w hv hl I => ?_)
 have hX := hv x (by simp [Op.operands])
 rw [hx] at hX
 have e := (RelDV_lit_eq hX).1
 have ht : P.underlying t = some (.interface ms) := TabOk.und P und
 refine ⟨.bool true, w, G, .inl ?_, stepped_same I.ctxS (RelDV_lit rfl) (fun k hk => by simp [lit, DV.refs] at hk)⟩
 have h1 : (binOp .eql t .nilIface .nilIface).run P w = .ok (.bool true) w := by
  have h : ∀ d : Nat, (Op.equalIn (d + 2) t .nilIface .nilIface).run P w = .ok true w := fun d => by
   simp [Op.equalIn, run_underlying ht]
  simp only [binOp]
  simp [Op.equal, Op.maxDepth, h 9998]
 have hy : a.eval (.const .nilIface) = .nilIface := rfl
 have hg : eqGuard .eql t x (.const .nilIface) .nilIface .nilIface = (Pure.pure () : Sem Unit) := by simp [eqGuard]
 simp only [execOp, e, hy, hg, Sem.run_bind, Sem.run_pure, Result.andThen_ok, h1]
theorem B.lenA {α : Type} {enc : α → List PV} {l : List α} {h v sz : Nat} {at' e T : TypeId} (hx : ev1 s x = .aref h v) (hm : lookM s.ms h = some (.arr v sz T (l.map enc))) (hu : Y.underlying at' = some (.slice e)) : Body P Y nb s ⟨dst, .call ⟨.builtin .len, ⟨[x]⟩, ⟨[at']⟩⟩, ty, pos, af, gd⟩ (lit (.int .i64 (l.length : Int))) [] [h] := by
 refine .inr (SBody.of fun σ G a w hv hl I => ?_)
 have hX := hv x (by simp [Op.operands, Call.operands])
 rw [hx] at hX
 have hlk : lookM σ.ms h = some (.arr v sz T (l.map enc)) := by rw [hl h (.inl (by simp))]; exact hm
 have hq : lenQ Y at' (lookM σ.ms) (.aref h v) = some (true, lit (.int .i64 (l.length : Int))) := by
  unfold lenQ
  rw [hu]
  simp [lenOf, hlk]
 obtain ⟨r, h1, h2⟩ := lenQ_sound (P := P) (ty := ty) I.ctxS.sees hq hX
 refine ⟨r, w, G, .inl ?_, stepped_same I.ctxS h2 (fun k hk => by simp [lit, DV.refs] at hk)⟩
 simp only [execOp, resolve, Sem.run_bind, Sem.run_pure, Result.andThen_ok, invoke, builtin, List.map_toArray, List.map_cons, List.map_nil]
 rw [h1]; rfl
theorem B.slTD {α : Type} {enc : α → List PV} {l : List α} {lo hi : Operand} {k k2 : IntKind} {n m : Int} {i j : Nat} {e : TypeId} {sz : Nat} (hx : ev1 s x = .pv (.slice (l.map enc))) (hy : ev1 s lo = lit (.int k n)) (hz : ev1 s hi = lit (.int k2 m)) (hu : Y.underlying t = some (.slice e)) (hs : szT Y e = some sz) (hsz : ∀ a, (enc a).length = sz) (hn : n = (i : Int)) (hm : m = (j : Int)) (hi1 : i ≤ j) (hj : j ≤ l.length) :
 Body P Y nb s ⟨dst, .slice t x (some lo) (some hi) none, ty, pos, af, gd⟩ (.pv (.slice (((l.take j).drop i).map enc))) [] [] := by
 refine B.pure (lo := 0) (nm := 0) (O0_ok P) ?_ ?_
 ·intro z hz'
  have : z = x ∨ z = lo ∨ z = hi := by simpa [Op.operands] using hz'
  rcases this with rfl | rfl | rfl
  ·rw [hx]; rfl
  ·rw [hy]; rfl
  ·rw [hz]; rfl
 ·have e1 : evU (tmpsOf [x, lo, hi]) s x = _ := (evU_own (by simp)).trans hx
  have e2 : evU (tmpsOf [x, lo, hi]) s lo = _ := (evU_own (by simp)).trans hy
  have e3 : evU (tmpsOf [x, lo, hi]) s hi = _ := (evU_own (by simp)).trans hz
  have hv : effV Y 0 dst (.slice t x (some lo) (some hi) none) (evU (tmpsOf [x, lo, hi]) s) (lookM []) = liftQ (sliceW Y t (lookM []) (evU (tmpsOf [x, lo, hi]) s x) (some (evU (tmpsOf [x, lo, hi]) s lo)) (some (evU (tmpsOf [x, lo, hi]) s hi)) none) := by
   show (match frzU (lookM []) (refsOf (evU (tmpsOf [x, lo, hi]) s) [x]) with
    | [] => stepV Y 0 dst (.slice t x (some lo) (some hi) none) (evU (tmpsOf [x, lo, hi]) s) (lookM []) (lookM [])
    | fz => match stepV Y 0 dst (.slice t x (some lo) (some hi) none) (evU (tmpsOf [x, lo, hi]) s) (upd fz (lookM [])) (upd fz (lookM [])) with
     | some ⟨s, v, ms⟩ => some ⟨s, v, mrg ms fz⟩
     | none => none) = _
   have hrf : refsOf (evU (tmpsOf [x, lo, hi]) s) [x] = [] := by simp [refsOf, e1, DV.refs]
   rw [hrf]; rfl
  show (match effV Y 0 dst (.slice t x (some lo) (some hi) none) (evU (tmpsOf [x, lo, hi]) s) (lookM []) with | some ⟨true, v, m⟩ => some (v, m) | _ => none) = _
  rw [hv, e1, e2, e3]
  have hal : allLen sz (l.map enc) = true := by
   unfold allLen
   rw [List.all_eq_true]
   intro b hb
   obtain ⟨c, _, rfl⟩ := List.mem_map.1 hb
   simpa using hsz c
  have hq : sliceW Y t (lookM []) (.pv (.slice (l.map enc))) (some (lit (.int k n))) (some (lit (.int k2 m))) none = some (true, .pv (.slice (((l.take j).drop i).map enc))) := by
   show sliceQ Y t (lookM []) (.pv (.slice (l.map enc))) (some (lit (.int k n))) (some (lit (.int k2 m))) none = _
   unfold sliceQ lit
   simp only [hu, hs, bound, Option.getD_some, hal, Bool.and_true]
   subst hn hm
   have : decide ((0 : Int) ≤ (i : Int) ∧ (i : Int) ≤ (j : Int) ∧ (j : Int) ≤ ((l.map enc).length : Int)) = true := decide_eq_true ⟨by omega, by omega, by rw [List.length_map]; omega⟩
   rw [this, Int.toNat_natCast, Int.toNat_natCast, List.map_drop, List.map_take]
  rw [hq]; rfl
theorem B.appendZ {α : Type} {enc : α → List PV} {l r : List α} {h v sz : Nat} {T : TypeId} {i : TypeInfo} {at1 : TypeId} {d : Tmp} (hx : ev1 s x = .aref h v) (hm : lookM s.ms h = some (.arr v sz T (l.map enc))) (hy : ev1 s y = .pv (.slice (r.map enc)))
  (hu : Y.underlying at1 = some (.slice T)) (hi : Y.info? T = some i) (hok : (Nat.blt 0 i.size && i.zero.isSome && Nat.beq (i.zero.getD default).cells.size i.size && Nat.beq sz i.size) = true) (hsz : ∀ a, (enc a).length = sz) {bs : Nat} (hbs : i.bytes = bs)
  (hlen : (l.length + r.length) * bs ≤ 140737488355328 ∧ l.length + r.length ≤ 9223372036854775807) :
  Body P Y nb s ⟨some d, .call ⟨.builtin .append, ⟨[x, y]⟩, ⟨[at1, at1]⟩⟩, ty, pos, af, gd⟩ (.pv (.slice ((l ++ r).map enc))) [(h, .farr (v + 1) ((l ++ r).map enc))] [h] := by
 subst hbs
 simp only [Bool.and_eq_true, Nat.beq_eq, Nat.blt_eq] at hok
 obtain ⟨⟨⟨k1, k2⟩, k3⟩, k4⟩ := hok
 subst k4
 have e1 : evU (tmpsOf [x, y]) s x = .aref h v := (evU_own (by simp)).trans hx
 have e2 : evU (tmpsOf [x, y]) s y = .pv (.slice (r.map enc)) := (evU_own (by simp)).trans hy
 have hrs : ([x, y].flatMap fun x' => (evU (tmpsOf [x, y]) s x').refs) = [h] := by simp [e1, e2, DV.refs]
 have hsel : sel s.ms (reachX s.ms 10000 [h] []) = [(h, .arr v i.size T (l.map enc))] := by
  have : reachX s.ms 10000 [h] [] = [h] := by
   show (bif ([] : List Nat).any (Nat.beq h) then _ else _) = _
   simp only [List.any_nil, cond_false, hm, MO.refs, List.nil_append]; rfl
  rw [this]; simp only [sel, hm]
 refine .inl ⟨O0, [(h, .arr v i.size T (l.map enc))], _, _, 0, 0, O0_ok P, ?_, ?_, ?_, ?_, Frz.arr _ h (v + 1) i.size T ((l ++ r).map enc), ?_⟩
 ·show ledM s.ms ([x, y].flatMap fun x' => (evU (tmpsOf [x, y]) s x').refs) 2 = _
  rw [hrs]; exact hsel
 ·show rdM s.ms ([x, y].flatMap fun x' => (evU (tmpsOf [x, y]) s x').refs) [(h, .arr v i.size T (l.map enc))] 2 = _
  rw [hrs]; rfl
 ·show (closedM [(h, .arr v i.size T (l.map enc))] && ([x, y].flatMap fun x' => (evU (tmpsOf [x, y]) s x').refs).all (hasM [(h, .arr v i.size T (l.map enc))])) = true
  rw [hrs]
  simp [closedM, MO.refs, hasM, lookM_cons]
 ·have ha : appendV Y 0 at1 at1 (.aref h v) (.pv (.slice (r.map enc))) (lookM [(h, .arr v i.size T (l.map enc))]) (lookM [(h, .arr v i.size T (l.map enc))]) = some ⟨true, .aref h (v + 1), [(h, .arr (v + 1) i.size T ((l ++ r).map enc))]⟩ := by
   unfold appendV
   have hl : lookM [(h, MO.arr v i.size T (l.map enc))] h = some (.arr v i.size T (l.map enc)) := by rw [lookM_cons, if_pos rfl]
   have hs : srcOf Y at1 at1 i (lookM [(h, .arr v i.size T (l.map enc))]) (.aref h v) (.pv (.slice (r.map enc))) = some (r.map enc) := by
    unfold srcOf; simp [conts]
   have hq : (decide (0 < i.size) && i.zero.isSome && decide ((i.zero.getD default).cells.size = i.size)) = true := by
    simp only [Bool.and_eq_true, decide_eq_true_eq]; exact ⟨⟨k1, k2⟩, k3⟩
   have hal : allLen i.size (r.map enc) = true := by
    unfold allLen
    rw [List.all_eq_true]
    intro a ha
    obtain ⟨b, _, rfl⟩ := List.mem_map.1 ha
    simpa using hsz b
   have hle : decide (((l.map enc).length + (r.map enc).length) * i.bytes ≤ 140737488355328 ∧ (l.map enc).length + (r.map enc).length ≤ 9223372036854775807) = true := by
    simp only [List.length_map]; exact decide_eq_true hlen
   simp only [hu, hi, hs, hq, hl, if_true, and_self, hal, hle, Bool.and_self, List.map_append]
  have hv : effV Y 0 (some d) (.call ⟨.builtin .append, ⟨[x, y]⟩, ⟨[at1, at1]⟩⟩) (evU (tmpsOf [x, y]) s) (lookM [(h, .arr v i.size T (l.map enc))]) = some ⟨true, .aref h (v + 1), [(h, .arr (v + 1) i.size T ((l ++ r).map enc))]⟩ := by
   show (match truncU _ (evU (tmpsOf [x, y]) s x) with | some (d', h', m) => _ | none => appendV Y 0 at1 at1 (evU (tmpsOf [x, y]) s x) (evU (tmpsOf [x, y]) s y) _ _) = _
   rw [e1, e2]
   exact ha
  show (match effV Y 0 (some d) (.call ⟨.builtin .append, ⟨[x, y]⟩, ⟨[at1, at1]⟩⟩) (evU (tmpsOf [x, y]) s) (lookM [(h, .arr v i.size T (l.map enc))]) with | some ⟨true, v, m⟩ => some (v, m) | _ => none) = _
  rw [hv]
 ·simp [hasM, lookM_cons]
end
end Go.Lens
end
section
namespace Go.Lens.Tm
open Go.Lens.Tb Go.Proofs
set_option linter.unusedSectionVars false
theorem cEq (b c : UInt8) : ((b.toNat : Nat) : Int) = ((c.toNat : Nat) : Int) ↔ b = c := ⟨fun h => UInt8.toNat_inj.1 (by omega), fun h => by rw [h]⟩
def splG (c : UInt8) : List UInt8 → List UInt8 → List (List UInt8)
 | acc, [] => [acc]
 | acc, b :: r => bif decide (((b.toNat : Nat) : Int) = ((c.toNat : Nat) : Int)) then acc :: splG c [] r else splG c (acc ++ [b]) r
def splC (c : UInt8) (s : List UInt8) : List (List UInt8) := splG c [] s
theorem splG_32 : ∀ (s acc : List UInt8), splG 32 acc s = splGo acc s
 | [], acc => rfl
 | b :: r, acc => by
  have h1 := splG_32 r []
  have h2 := splG_32 r (acc ++ [b])
  show (bif decide (((b.toNat : Nat) : Int) = 32) then acc :: splG 32 [] r else splG 32 (acc ++ [b]) r) = _
  rw [h1, h2]; rfl
theorem splC_32 (s : List UInt8) : splC 32 s = splS s := splG_32 s []
theorem splG_len (c : UInt8) : ∀ (s acc : List UInt8), (splG c acc s).length ≤ s.length + 1
 | [], acc => Nat.le_refl _
 | b :: r, acc => by
  simp only [splG]
  cases decide (((b.toNat : Nat) : Int) = ((c.toNat : Nat) : Int))
  ·have := splG_len c r (acc ++ [b]); simp only [cond_false, List.length_cons]; omega
  ·have := splG_len c r []; simp only [cond_true, List.length_cons]; omega
theorem splC_len (c : UInt8) (s : List UInt8) : (splC c s).length ≤ s.length + 1 := splG_len c s []
theorem splG_mem (c : UInt8) : ∀ (s acc : List UInt8), ∀ w ∈ splG c acc s, w.length ≤ acc.length + s.length
 | [], acc, w, h => by
  have : w = acc := by simpa [splG] using h
  rw [this]; simp
 | b :: r, acc, w, h => by
  simp only [splG] at h
  revert h
  cases decide (((b.toNat : Nat) : Int) = ((c.toNat : Nat) : Int))
  ·intro h; have := splG_mem c r (acc ++ [b]) w (by simpa using h); simp only [List.length_append, List.length_cons, List.length_nil] at this ⊢; omega
  ·intro h
   rcases List.mem_cons.1 (by simpa using h) with rfl | h
   ·omega
   ·have := splG_mem c r [] w h; simp only [List.length_cons, List.length_nil] at this ⊢; omega
theorem splC_mem {c : UInt8} {s w : List UInt8} (h : w ∈ splC c s) : w.length ≤ s.length := by
 have := splG_mem c s [] w h; simpa using this
def SpcI (c : UInt8) (s : List UInt8) (i f : Nat) (out : List (List UInt8)) : Prop := f ≤ i ∧ out.length ≤ i ∧ ((i ≤ s.length ∧ splC c s = out ++ splG c ((s.take i).drop f) (s.drop i)) ∨ (i = s.length + 1 ∧ splC c s = out))
theorem splG_none {c : UInt8} : ∀ (s acc : List UInt8), c ∉ s → splG c acc s = [acc ++ s]
 | [], acc, _ => by simp [splG]
 | b :: r, acc, h => by
  simp only [List.mem_cons, not_or] at h
  simp only [splG]
  rw [decide_eq_false (p := ((b.toNat : Nat) : Int) = ((c.toNat : Nat) : Int)) (fun e => h.1 ((cEq b c).1 e).symm), cond_false, splG_none r _ h.2]; simp
theorem splG_at {c : UInt8} : ∀ (s acc : List UInt8) (n : Nat), n < s.length → s.getD n 0 = c → (∀ j, j < n → s.getD j 0 ≠ c) → splG c acc s = (acc ++ s.take n) :: splG c [] (s.drop (n + 1)) ∧ List.count c s = List.count c (s.drop (n + 1)) + 1
 | [], _, n, h, _, _ => by simp at h
 | b :: r, acc, 0, _, h, _ => by
  have hb : b = c := h
  simp only [splG]
  rw [decide_eq_true (p := ((b.toNat : Nat) : Int) = ((c.toNat : Nat) : Int)) ((cEq b c).2 hb), cond_true]
  exact ⟨by simp, by rw [hb]; simp⟩
 | b :: r, acc, n + 1, h1, h2, h3 => by
  have hb : b ≠ c := h3 0 (by omega)
  obtain ⟨k1, k2⟩ := splG_at r (acc ++ [b]) n (by simpa using h1) (by simpa using h2) fun j hj => by simpa using h3 (j + 1) (by omega)
  simp only [splG]
  rw [decide_eq_false (p := ((b.toNat : Nat) : Int) = ((c.toNat : Nat) : Int)) (fun e => hb ((cEq b c).1 e)), cond_false, k1]
  exact ⟨by simp, by rw [List.count_cons_of_ne hb]; simpa using k2⟩
def GsC (c : UInt8) (s : List UInt8) (n2 i : Nat) (a : List (List UInt8)) (q : List UInt8) : Prop := a.length = n2 ∧ q.length ≤ s.length ∧ i + List.count c q + 1 = n2 ∧ splC c s = a.take i ++ splC c q
theorem gsc_step {c : UInt8} {s q : List UInt8} {n2 i m : Nat} {a : List (List UInt8)} (h : GsC c s n2 i a q) (e : Lib.indexByte q c = (m : Int)) (hm : m < q.length) (h2 : q.getD m 0 = c) (h3 : ∀ j, j < m → q.getD j 0 ≠ c) : GsC c s n2 (i + 1) (a.set i (q.take m)) (q.drop (m + 1)) := by
 obtain ⟨k1, k2, k3, k4⟩ := h
 obtain ⟨g1, g2⟩ := splG_at q [] m hm h2 h3
 refine ⟨by rw [List.length_set]; exact k1, by rw [List.length_drop]; omega, by omega, ?_⟩
 have hi : i < a.length := by omega
 rw [k4]
 unfold splC
 rw [g1, List.take_add_one, List.getElem?_set_self hi, List.take_set_of_le (Nat.le_refl _)]
 simp
theorem gsc_end {c : UInt8} {s q : List UInt8} {n2 i : Nat} {a : List (List UInt8)} (h : GsC c s n2 i a q) (hq : c ∉ q) : (a.set i q).take (i + 1) = splC c s := by
 obtain ⟨k1, k2, k3, k4⟩ := h
 have hi : i < a.length := by omega
 rw [k4]
 unfold splC
 rw [splG_none q [] hq, List.take_add_one, List.getElem?_set_self hi, List.take_set_of_le (Nat.le_refl _)]
 rfl
theorem gsc_no {c : UInt8} {s q : List UInt8} {n2 i : Nat} {a : List (List UInt8)} (h : GsC c s n2 i a q) (hc : ¬ ((i : Nat) : Int) < ((n2 : Nat) : Int) - 1) : c ∉ q := by
 obtain ⟨_, _, k3, _⟩ := h
 exact List.count_eq_zero.1 (by omega)
def fullW (l : List (List UInt8)) : List (List UInt8) := l.filter fun w => decide (w ≠ [])
def wordsP (s : List UInt8) : List (List UInt8) := fullW (splS s)
theorem fullW_take {l : List (List UInt8)} {k : Nat} (h : k < l.length) : fullW (l.take (k + 1)) = if l.getD k [] ≠ [] then fullW (l.take k) ++ [l.getD k []] else fullW (l.take k) := by
 unfold fullW
 rw [List.take_add_one, List.getElem?_eq_getElem h, List.getD_eq_getElem?_getD, List.getElem?_eq_getElem h, Option.getD_some, List.filter_append]
 by_cases h0 : l[k] = []
 ·simp [h0]
 ·simp [h0]
theorem wordsP_mem {s w : List UInt8} (h : w ∈ wordsP s) : w.length ≤ s.length := by
 have h1 : w ∈ splS s := (List.mem_filter.1 h).1
 rw [← splC_32] at h1
 exact splC_mem h1
def intG : Int → List UInt8 → Option Int
 | n, [] => some n
 | n, b :: r => if (bif decide (((b.toNat : Nat) : Int) < 48) then true else decide (57 < ((b.toNat : Nat) : Int))) = true then none else intG (10 * n + (((b.toNat : Nat) : Int) - 48)) r
def noI (s : List UInt8) : Bool := (bif (bif (decide (((List.length s : Nat) : Int) = 0)) then true else (decide (9 < ((List.length s : Nat) : Int)))) then true else (bif (decide (1 < ((List.length s : Nat) : Int))) then (decide ((byteAt (bsO s) 0) = 48)) else false))
def intR (s : List UInt8) : Option Int := if noI s = true then none else intG 0 s
theorem noI_len {s : List UInt8} (h : noI s = false) : 1 ≤ s.length ∧ s.length ≤ 9 ∧ (1 < s.length → ¬ byteAt (bsO s) 0 = 48) := by
 unfold noI at h
 simp only [bif_or, bif_and, Bool.or_eq_false_iff, decide_eq_false_iff_not, Bool.and_eq_false_iff] at h
 refine ⟨by omega, by omega, fun h1 => ?_⟩
 rcases h.2 with h2 | h2
 ·omega
 ·exact h2
theorem intR_no {s : List UInt8} (h : noI s = true) : intR s = none := if_pos h
theorem intR_go {s : List UInt8} (h : noI s = false) : intR s = intG 0 s := by unfold intR; rw [if_neg (by rw [h]; decide)]
def intV (s : List UInt8) : Int × Bool := match Lib.atoiAll s with
 | .ok v => (v, decide (0 ≤ v ∧ v ≤ 999999999 ∧ Lib.itoa v = s))
 | .range => (Lib.atoiSat s, false)
 | _ => (0, false)
theorem dd_small {u : Nat} (h : u < 10) : Lib.decDigits u = [UInt8.ofNat (48 + u)] := by rw [Lib.decDigits, dif_pos h]
theorem dd_big {u : Nat} (h : ¬ u < 10) : Lib.decDigits u = Lib.decDigits (u / 10) ++ [UInt8.ofNat (48 + u % 10)] := by rw [Lib.decDigits, dif_neg h]
theorem itoa_nat (n : Nat) : Lib.itoa (n : Int) = Lib.decDigits n := by
 unfold Lib.itoa; rw [if_neg (by omega), Int.toNat_natCast]
theorem byte_ok {b : UInt8} (h : 48 ≤ b.toNat ∧ b.toNat ≤ 57) : (bif decide (((b.toNat : Nat) : Int) < 48) then true else decide (57 < ((b.toNat : Nat) : Int))) = false := by
 rw [decide_eq_false (by omega), decide_eq_false (by omega)]; rfl
theorem byte_no {b : UInt8} (h : ¬ (48 ≤ b.toNat ∧ b.toNat ≤ 57)) : (bif decide (((b.toNat : Nat) : Int) < 48) then true else decide (57 < ((b.toNat : Nat) : Int))) = true := by
 rw [bif_or]; simp only [Bool.or_eq_true, decide_eq_true_eq]; omega
theorem intG_cons {b : UInt8} {r : List UInt8} {n : Int} (h : 48 ≤ b.toNat ∧ b.toNat ≤ 57) : intG n (b :: r) = intG (10 * n + (((b.toNat : Nat) : Int) - 48)) r := by
 rw [intG, byte_ok h, if_neg (by decide)]
theorem intG_none {b : UInt8} {r : List UInt8} {n : Int} (h : ¬ (48 ≤ b.toNat ∧ b.toNat ≤ 57)) : intG n (b :: r) = none := by
 rw [intG, byte_no h, if_pos rfl]
theorem intG_app : ∀ (l r : List UInt8) (n : Int), intG n (l ++ r) = (intG n l).bind fun m => intG m r
 | [], r, n => rfl
 | b :: l, r, n => by
  by_cases h : 48 ≤ b.toNat ∧ b.toNat ≤ 57
  ·rw [List.cons_append, intG_cons h, intG_cons h, intG_app l r]
  ·rw [List.cons_append, intG_none h, intG_none h]; rfl
theorem dg_nat {k : Nat} (h : k < 10) : (UInt8.ofNat (48 + k)).toNat = 48 + k := by
 rw [UInt8.toNat_ofNat']; omega
theorem intG_dec (n : Nat) : intG 0 (Lib.decDigits n) = some (n : Int) := by
 induction n using Nat.strongRecOn with
 | _ n ih =>
  by_cases h : n < 10
  ·rw [dd_small h, intG_cons (by rw [dg_nat h]; omega), dg_nat h]
   simp only [intG]; congr 1; omega
  ·rw [dd_big h, intG_app, ih (n / 10) (by omega)]
   show intG ((n / 10 : Nat) : Int) [UInt8.ofNat (48 + n % 10)] = _
   rw [intG_cons (by rw [dg_nat (by omega)]; omega), dg_nat (by omega)]
   simp only [intG]; congr 1; omega
theorem nd_le : ∀ (k n : Nat), n < 10 ^ (k + 1) → Lib.nDigits n ≤ k + 1
 | 0, n, h => by rw [Lib.nDigits_small (by simpa using h)]; exact Nat.le_refl _
 | k + 1, n, h => by
  by_cases h1 : n < 10
  ·rw [Lib.nDigits_small h1]; omega
  ·rw [Lib.nDigits_big h1]
   rw [Nat.pow_succ] at h
   have := nd_le k (n / 10) (by omega)
   omega
theorem dd_len {n : Nat} (h : n ≤ 999999999) : (Lib.decDigits n).length ≤ 9 := by
 rw [Lib.decDigits_length]
 exact nd_le 8 n (by omega)
theorem dd_pos (n : Nat) : 1 ≤ (Lib.decDigits n).length := by
 rw [Lib.decDigits_length]
 exact Lib.nDigits_pos n
theorem dd_head (n : Nat) (h : 1 ≤ n) : ((Lib.decDigits n).getD 0 0).toNat ≠ 48 := by
 induction n using Nat.strongRecOn with
 | _ n ih =>
  by_cases h1 : n < 10
  ·rw [dd_small h1]
   show (UInt8.ofNat (48 + n)).toNat ≠ 48
   rw [dg_nat h1]; omega
  ·rw [dd_big h1, List.getD_eq_getElem?_getD, List.getElem?_append_left (dd_pos _), ← List.getD_eq_getElem?_getD]
   exact ih (n / 10) (by omega) (by omega)
theorem noI_dec {n : Nat} (h : n ≤ 999999999) : noI (Lib.decDigits n) = false := by
 have h1 := dd_len h
 have h2 := dd_pos n
 unfold noI
 rw [decide_eq_false (p := ((List.length (Lib.decDigits n) : Nat) : Int) = 0) (by omega), decide_eq_false (p := 9 < ((List.length (Lib.decDigits n) : Nat) : Int)) (by omega)]
 show (bif (decide (1 < ((List.length (Lib.decDigits n) : Nat) : Int))) then (decide ((byteAt (bsO (Lib.decDigits n)) 0) = 48)) else false) = false
 rw [bif_and]
 by_cases h10 : n < 10
 ·rw [decide_eq_false (p := 1 < ((List.length (Lib.decDigits n) : Nat) : Int)) (by rw [dd_small h10]; simp)]; rfl
 ·have := dd_head n (by omega)
  rw [decide_eq_false (p := (byteAt (bsO (Lib.decDigits n)) 0) = 48) (by
   show ¬ ((((Lib.decDigits n).getD 0 0).toNat : Nat) : Int) = 48
   omega)]
  simp
theorem intR_dec {n : Nat} (h : n ≤ 999999999) : intR (Lib.decDigits n) = some (n : Int) := by
 rw [intR_go (noI_dec h), intG_dec]
theorem dec_of : ∀ (s : List UInt8) (a : Nat) (m : Int), 1 ≤ a → intG (a : Int) s = some m → ∃ q : Nat, m = (q : Int) ∧ Lib.decDigits q = Lib.decDigits a ++ s
 | [], a, m, _, h => by
  simp only [intG, Option.some.injEq] at h
  exact ⟨a, h.symm, by simp⟩
 | b :: r, a, m, ha, h => by
  by_cases hb : 48 ≤ b.toNat ∧ b.toNat ≤ 57
  ·rw [intG_cons hb, show (10 * (a : Int) + (((b.toNat : Nat) : Int) - 48)) = ((10 * a + (b.toNat - 48) : Nat) : Int) by omega] at h
   obtain ⟨q, h1, h2⟩ := dec_of r (10 * a + (b.toNat - 48)) m (by omega) h
   refine ⟨q, h1, ?_⟩
   rw [h2, dd_big (u := 10 * a + (b.toNat - 48)) (by omega), show (10 * a + (b.toNat - 48)) / 10 = a by omega, show 48 + (10 * a + (b.toNat - 48)) % 10 = b.toNat by omega]
   simp
  ·rw [intG_none hb] at h; cases h
theorem decFrom_of : ∀ (s : List UInt8) (a : Nat), Lib.decFrom a s = (intG (a : Int) s).map Int.toNat
 | [], a => by simp [Lib.decFrom, intG]
 | b :: l, a => by
  by_cases hb : 48 ≤ b.toNat ∧ b.toNat ≤ 57
  ·rw [intG_cons hb, show (10 * (a : Int) + (((b.toNat : Nat) : Int) - 48)) = ((a * 10 + (b.toNat - 48) : Nat) : Int) by omega, ← decFrom_of l]
   simp only [Lib.decFrom, Lib.digitVal, if_pos hb]
  ·rw [intG_none hb]
   simp only [Lib.decFrom, Lib.digitVal, if_neg hb]; rfl
theorem intR_some {s : List UInt8} {m : Int} (h : intR s = some m) : ∃ q : Nat, m = (q : Int) ∧ q ≤ 999999999 ∧ Lib.decDigits q = s ∧ Lib.atoiAll s = .ok m := by
 have hn : noI s = false := by
  cases hq : noI s with
  | true => rw [intR_no hq] at h; cases h
  | false => rfl
 rw [intR_go hn] at h
 obtain ⟨l1, l9, lz⟩ := noI_len hn
 match s, h, l1, l9, lz with
 | b :: r, h, l1, l9, lz =>
 by_cases hb : 48 ≤ b.toNat ∧ b.toNat ≤ 57
 ·have h' := h
  rw [intG_cons hb, show (10 * (0 : Int) + (((b.toNat : Nat) : Int) - 48)) = ((b.toNat - 48 : Nat) : Int) by omega] at h
  have hq : ∃ q : Nat, m = (q : Int) ∧ Lib.decDigits q = b :: r := by
   by_cases h0 : b.toNat = 48
   ·cases r with
    | nil =>
     simp only [intG, Option.some.injEq] at h
     refine ⟨0, by omega, ?_⟩
     rw [dd_small (by omega)]
     have : b = 48 := UInt8.toNat_inj.1 h0
     rw [this]; rfl
    | cons b2 r2 =>
     exact absurd (show byteAt (bsO (b :: b2 :: r2)) 0 = 48 by
      show ((b.toNat : Nat) : Int) = 48
      omega) (lz (by simp))
   ·obtain ⟨q, h1, h2⟩ := dec_of r (b.toNat - 48) m (by omega) h
    refine ⟨q, h1, ?_⟩
    rw [h2, dd_small (by omega), show 48 + (b.toNat - 48) = b.toNat by omega]
    simp
  obtain ⟨q, rfl, hd⟩ := hq
  have hf : Lib.decFrom 0 (b :: r) = some q := by
   rw [decFrom_of]
   show (intG 0 (b :: r)).map Int.toNat = _
   rw [h']; rfl
  have hlt := Lib.decFrom_lt _ _ _ hf
  have hp : (10 : Nat) ^ (b :: r).length ≤ 10 ^ 9 := Nat.pow_le_pow_right (by decide) l9
  refine ⟨q, rfl, by omega, hd, ?_⟩
  rw [Lib.atoiAll_short _ (by omega)]
  have hbe : (b == 45) = false ∧ (b == 43) = false := by
   constructor <;> (rw [beq_eq_false_iff_ne]; rintro rfl; revert hb; decide)
  simp only [Lib.atoi, hbe.1, hbe.2, Lib.decNat, List.isEmpty_cons, hf]
  rfl
 ·rw [intG_none hb] at h; cases h
theorem int_same (s : List UInt8) : (intV s).2 = (intR s).isSome ∧ ((intR s).isSome = true → (intV s).1 = (intR s).getD 0) := by
 cases h : intR s with
 | some m =>
  obtain ⟨q, rfl, hq, hd, ha⟩ := intR_some h
  simp only [intV, ha]
  exact ⟨by
   rw [decide_eq_true (p := 0 ≤ (q : Int) ∧ (q : Int) ≤ 999999999 ∧ Lib.itoa (q : Int) = s) ⟨by omega, by omega, by rw [itoa_nat, hd]⟩]; rfl, fun _ => rfl⟩
 | none =>
  refine ⟨?_, fun h => by cases h⟩
  show (intV s).2 = false
  unfold intV
  split
  ·rename_i v hv
   refine decide_eq_false ?_
   rintro ⟨h0, h1, h2⟩
   obtain ⟨n, rfl⟩ : ∃ n : Nat, v = (n : Int) := ⟨v.toNat, by omega⟩
   rw [itoa_nat] at h2
   rw [← h2, intR_dec (by omega)] at h
   cases h
  ·rfl
  ·rfl
end Go.Lens.Tm
end
section
namespace Go.Lens.Tm
open Go.Lens.Tb Go.Proofs
set_option linter.unusedSectionVars false
def joinC : List (List UInt8) → List UInt8
 | [] => []
 | w :: r => w ++ r.flatMap fun x => 59 :: 32 :: x
theorem joinC_len (N : Nat) : ∀ (ws : List (List UInt8)), (∀ w ∈ ws, w.length ≤ N) → (joinC ws).length ≤ ws.length * (N + 2)
 | [], _ => by simp [joinC]
 | w :: r, h => by
  have key : ∀ r : List (List UInt8), (∀ w ∈ r, w.length ≤ N) → (r.flatMap fun x => 59 :: 32 :: x).length ≤ r.length * (N + 2) := by
   intro r
   induction r with
   | nil => intro _; simp
   | cons a r ih =>
    intro hr
    have h1 := ih fun w hw => hr w (by simp [hw])
    have h2 := hr a (by simp)
    simp only [List.flatMap_cons, List.length_append, List.length_cons, Nat.add_mul, Nat.one_mul]
    omega
  have h1 := key r fun w hw => h w (by simp [hw])
  have h2 := h w (by simp)
  simp only [joinC, List.length_append, List.length_cons, Nat.add_mul, Nat.one_mul]
  omega
def Join2Ok [Lz] : Prop := ∀ ws : List (List UInt8), ws.length ≤ 1000 → (∀ w ∈ ws, w.length ≤ 1000) → CallOk Tryz.prog 169 [vL eN ws, vS (bsO [59, 32])] (lookM []) (vS (bsO (joinC ws))) []
def prtW (c : Cmd) : List UInt8 := if c.1 = kAct then [97, 99, 116, 32] ++ c.2.1 else if c.1 = kEnd then kEnd else (c.1 ++ [32]) ++ Lib.itoa c.2.2
def sA (s : List UInt8) (k : Nat) : List UInt8 := if 0 < k then s ++ [59, 32] else s
def sB (c : Cmd) (q : List UInt8) : List UInt8 := if c.2.1 = [] then q else (q ++ [32]) ++ c.2.1
def sC (c : Cmd) (q : List UInt8) : List UInt8 := if c.2.2 = 0 then q else (q ++ [32]) ++ Lib.itoa c.2.2
theorem itoa_len {n : Int} (h0 : 0 ≤ n) (h1 : n ≤ 999999999) : (Lib.itoa n).length ≤ 9 := by
 obtain ⟨k, rfl⟩ : ∃ k : Nat, n = (k : Int) := ⟨n.toNat, by omega⟩
 rw [itoa_nat]; exact dd_len (by omega)
theorem name24 {w : List UInt8} (h : isNameF (bsO w) = true) : 1 ≤ w.length ∧ w.length ≤ 24 := by
 unfold isNameF at h
 simp only [Bool.and_eq_true, decide_eq_true_eq] at h
 exact h.1
theorem cmd_cases {c : Cmd} (h : chkC c = 0) : (c.1 = kAct ∧ isNameF (bsO c.2.1) = true ∧ c.2.2 = 0) ∨ (c.1 = kEnd ∧ c.2.1 = [] ∧ c.2.2 = 0) ∨ ((c.1 = kWait ∨ c.1 = kRep) ∧ c.2.1 = [] ∧ 1 ≤ c.2.2 ∧ c.2.2 ≤ 100000) := by
 have hw : ∀ {b : Bool}, whenF b 1 = 0 → b = false := by intro b; cases b <;> decide
 have hw8 : ∀ {b : Bool}, whenF b 8 = 0 → b = false := by intro b; cases b <;> decide
 have h' := h
 unfold chkC at h
 rcases ops_of h' with h1 | h1 | h1 | h1
 ·rw [if_pos h1] at h
  obtain ⟨k1, k2⟩ := first2 h
  have := with_rng k2
  exact .inl ⟨h1, by have := hw8 k1; simpa using this, by omega⟩
 ·rw [if_neg (by rw [h1]; decide), if_pos h1] at h
  obtain ⟨k1, k2⟩ := first2 h
  have := with_rng k2
  exact .inr (.inl ⟨h1, by have := hw k1; simpa using this, by omega⟩)
 ·rw [if_neg (by rw [h1]; decide), if_neg (by rw [h1]; decide), if_pos h1] at h
  obtain ⟨k1, k2⟩ := first2 h
  have := with_rng k2
  exact .inr (.inr ⟨.inl h1, by have := hw k1; simpa using this, by omega, by omega⟩)
 ·rw [if_neg (by rw [h1]; decide), if_neg (by rw [h1]; decide), if_neg (by rw [h1]; decide), if_pos h1] at h
  obtain ⟨k1, k2⟩ := first2 h
  have := with_rng k2
  exact .inr (.inr ⟨.inr h1, by have := hw k1; simpa using this, by omega, by omega⟩)
theorem cmd_sz {c : Cmd} (h : chkC c = 0) : c.1.length ≤ 6 ∧ c.2.1.length ≤ 24 ∧ 0 ≤ c.2.2 ∧ c.2.2 ≤ 100000 := by
 rcases cmd_cases h with ⟨h1, h2, h3⟩ | ⟨h1, h2, h3⟩ | ⟨h1 | h1, h2, h3, h4⟩
 ·rw [h1, h3]; exact ⟨by decide, (name24 h2).2, by omega, by omega⟩
 ·rw [h1, h2, h3]; exact ⟨by decide, by decide, by omega, by omega⟩
 ·rw [h1, h2]; exact ⟨by decide, by decide, by omega, h4⟩
 ·rw [h1, h2]; exact ⟨by decide, by decide, by omega, h4⟩
theorem prtW_len {c : Cmd} (h : chkC c = 0) : (prtW c).length ≤ 40 := by
 have hz := cmd_sz h
 have hi := itoa_len (n := c.2.2) (by omega) (by omega)
 unfold prtW
 split
 ·simp only [List.length_append, List.length_cons, List.length_nil]; omega
 ·split
  ·decide
  ·simp only [List.length_append, List.length_cons, List.length_nil]; omega
def prtS (l : List Cmd) : List UInt8 := joinC (l.map prtW)
theorem prtS_len {l : List Cmd} (h : ∀ c ∈ l, chkC c = 0) : (prtS l).length ≤ l.length * 42 := by
 have := joinC_len 40 (l.map prtW) (fun w hw => by
  obtain ⟨c, hc, rfl⟩ := List.mem_map.1 hw
  exact prtW_len (h c hc))
 rwa [List.length_map] at this
theorem prtW_mem {l : List Cmd} (h : ∀ c ∈ l, chkC c = 0) : ∀ w ∈ l.map prtW, w.length ≤ 1000 := by
 intro w hw
 obtain ⟨c, hc, rfl⟩ := List.mem_map.1 hw
 have := prtW_len (h c hc); omega
theorem take_cmd2 (l : List Cmd) (k : Nat) (h : k < l.length) : l.take (k + 1) = l.take k ++ [l.getD k z3] := by
 rw [List.take_add_one, List.getElem?_eq_getElem h, List.getD_eq_getElem?_getD, List.getElem?_eq_getElem h]; rfl
theorem prt_next {l : List Cmd} {k : Nat} {out : List (List UInt8)} (hk : k < l.length) (hs : out = (l.take k).map prtW) {w : List UInt8} (hw : prtW (l.getD k z3) = w) : out ++ [w] = (l.take (k + 1)).map prtW := by
 rw [take_cmd2 l k hk, List.map_append, hs, ← hw]; rfl
def srcX (l : List Cmd) : List UInt8 := if chkS l = 0 then prtS l else []
def cmdV (s : List UInt8) : Cmd × Bool :=
 if (wordsP s).length = 0 then (z3, false)
 else if (wordsP s).getD 0 [] = kEnd ∧ (wordsP s).length = 1 then (((wordsP s).getD 0 [], [], 0), true)
 else if (wordsP s).getD 0 [] = kAct ∧ (wordsP s).length = 2 then (((wordsP s).getD 0 [], (wordsP s).getD 1 [], 0), true)
 else if ((wordsP s).getD 0 [] = kWait ∨ (wordsP s).getD 0 [] = kRep) ∧ (wordsP s).length = 2 then (((wordsP s).getD 0 [], [], (intV ((wordsP s).getD 1 [])).1), (intV ((wordsP s).getD 1 [])).2)
 else (((wordsP s).getD 0 [], [], 0), false)
def badR (s : List UInt8) : Bool := (bif (bif (decide (((List.length (wordsP s) : Nat) : Int) = 0)) then true else (decide ((wordsF (List.getD (wordsP s) 0 [])) = 0))) then true else (decide (((List.length (wordsP s) : Nat) : Int) ≠ (wordsF (List.getD (wordsP s) 0 [])))))
def cmdR (s : List UInt8) : Cmd × Bool :=
 if badR s = true then (z3, false)
 else if (wordsP s).getD 0 [] = kAct then (((wordsP s).getD 0 [], (wordsP s).getD 1 [], 0), true)
 else if (wordsP s).length = 2 then (if (intR ((wordsP s).getD 1 [])).isSome = true then (((wordsP s).getD 0 [], [], (intR ((wordsP s).getD 1 [])).getD 0), true) else (z3, false))
 else (((wordsP s).getD 0 [], [], 0), true)
abbrev Prs := List Cmd × Int × Int
def parG (f : List UInt8 → Cmd × Bool) : List (List UInt8) → Nat → List Cmd → Prs
 | [], _, out => if chkS out ≠ 0 then ([], 0, chkS out) else (out, 0, 0)
 | p :: r, i, out => if (f p).2 = false then ([], (i : Int) + 1, 25) else parG f r (i + 1) (out ++ [(f p).1])
def parScr (f : List UInt8 → Cmd × Bool) (s : List UInt8) : Prs := if 4096 < s.length then ([], 0, 26) else if (wordsP s).length = 0 then ([], 0, 0) else parG f (splC 59 s) 0 []
section
variable {f : List UInt8 → Cmd × Bool} {l : List (List UInt8)} {k : Nat} {out : List Cmd}
theorem parG_no (hk : k < l.length) (h : (f (l.getD k [])).2 = false) : parG f (l.drop k) k out = ([], (k : Int) + 1, 25) := by
 rw [drop_at l k [] hk, parG, if_pos h]
theorem parG_go (hk : k < l.length) (h : (f (l.getD k [])).2 = true) : parG f (l.drop k) k out = parG f (l.drop (k + 1)) (k + 1) (out ++ [(f (l.getD k [])).1]) := by
 rw [drop_at l k [] hk, parG, if_neg (by rw [h]; decide)]
theorem parG_bad (hk : ¬ k < l.length) (h : chkS out ≠ 0) : parG f (l.drop k) k out = ([], 0, chkS out) := by
 rw [List.drop_of_length_le (by omega), parG, if_pos h]
theorem parG_end (hk : ¬ k < l.length) (h : ¬ chkS out ≠ 0) : parG f (l.drop k) k out = (out, 0, 0) := by
 rw [List.drop_of_length_le (by omega), parG, if_neg h]
end
section
variable {f : List UInt8 → Cmd × Bool} {s : List UInt8}
theorem parScr_long (h : 4096 < ((List.length s : Nat) : Int)) : parScr f s = ([], 0, 26) := by unfold parScr; rw [if_pos (by omega)]
theorem parScr_none (h : ¬ 4096 < ((List.length s : Nat) : Int)) (h1 : ((List.length (wordsP s) : Nat) : Int) = 0) : parScr f s = ([], 0, 0) := by unfold parScr; rw [if_neg (by omega), if_pos (by omega)]
theorem parScr_go (h : ¬ 4096 < ((List.length s : Nat) : Int)) (h1 : ¬ ((List.length (wordsP s) : Nat) : Int) = 0) : parScr f s = parG f (List.drop 0 (splC 59 s)) 0 [] := by unfold parScr; rw [if_neg (by omega), if_neg (by omega)]; rfl
end
section
variable {n m : Int} {s : List UInt8}
abbrev dgs : List UInt8 := [48, 49, 50, 51, 52, 53, 54, 55, 56, 57]
def DecI (n m : Int) (s : List UInt8) : Prop := 0 ≤ m ∧ m ≤ n ∧ ((s = [] ∧ m = n) ∨ (s ≠ [] ∧ ((m = 0 ∧ s = Lib.itoa n) ∨ (0 < m ∧ Lib.itoa m ++ s = Lib.itoa n))))
def txtF (l : List Int) : List UInt8 := if l.length = 0 then [48] else Lib.itoa (l.getD (l.length - 1) 0)
def wF (n : Int) : List Int := if n = 0 then [] else [n]
def WhI (n m : Int) (out : List Int) : Prop := (m = n ∧ out = []) ∨ (m = 0 ∧ out = [n] ∧ n ≠ 0)
variable {out : List Int}
end
theorem splS_len (s : List UInt8) : (splS s).length ≤ s.length + 1 := by
 have := splC_len 32 s
 rwa [splC_32] at this
section
variable {n : Nat} {a b : Bool}
end
section
variable {s : List UInt8}
theorem cv_0 (h1 : ((List.length (wordsP s) : Nat) : Int) = 0) : cmdV s = (z3, false) := by unfold cmdV; rw [if_pos (by omega)]
theorem cv_q1 {n : Nat} {p : Prop} [Decidable p] (q : Nat) : (bif (decide p) then (decide (((n : Nat) : Int) = ((q : Nat) : Int))) else false) = true ↔ p ∧ n = q := by
 rw [bif_and, Bool.and_eq_true, decide_eq_true_eq, decide_eq_true_eq]
 exact ⟨fun h => ⟨h.1, by omega⟩, fun h => ⟨h.1, by omega⟩⟩
theorem cv_q2 {n : Nat} {p q : Prop} [Decidable p] [Decidable q] (k : Nat) : (bif (bif (decide p) then true else (decide q)) then (decide (((n : Nat) : Int) = ((k : Nat) : Int))) else false) = true ↔ (p ∨ q) ∧ n = k := by
 rw [bif_and, bif_or, Bool.and_eq_true, Bool.or_eq_true, decide_eq_true_eq, decide_eq_true_eq, decide_eq_true_eq]
 exact ⟨fun h => ⟨h.1, by omega⟩, fun h => ⟨h.1, by omega⟩⟩
theorem b_ne {b : Bool} (h : b = false) : ¬ b = true := by rw [h]; decide
abbrev cE (s : List UInt8) : Bool := (bif (decide ((List.getD (wordsP s) 0 []) = [101, 110, 100])) then (decide (((List.length (wordsP s) : Nat) : Int) = 1)) else false)
abbrev cA (s : List UInt8) : Bool := (bif (decide ((List.getD (wordsP s) 0 []) = [97, 99, 116])) then (decide (((List.length (wordsP s) : Nat) : Int) = 2)) else false)
abbrev cI (s : List UInt8) : Bool := (bif (bif (decide ((List.getD (wordsP s) 0 []) = [119, 97, 105, 116])) then true else (decide ((List.getD (wordsP s) 0 []) = [114, 101, 112, 101, 97, 116]))) then (decide (((List.length (wordsP s) : Nat) : Int) = 2)) else false)
theorem cv_two (h : cI s = true) : (wordsP s).length = 2 := ((cv_q2 2).1 h).2
theorem cv_two2 (h : cA s = true) : (wordsP s).length = 2 := ((cv_q1 2).1 h).2
variable (h1 : ¬ ((List.length (wordsP s) : Nat) : Int) = 0)
include h1
theorem cv_E (h2 : cE s = true) : cmdV s = (((wordsP s).getD 0 [], [], 0), true) := by
 unfold cmdV; rw [if_neg (by omega), if_pos ((cv_q1 1).1 h2)]
theorem cv_A (h2 : cE s = false) (h3 : cA s = true) : cmdV s = (((wordsP s).getD 0 [], (wordsP s).getD 1 [], 0), true) := by
 unfold cmdV; rw [if_neg (by omega), if_neg (fun h => b_ne h2 ((cv_q1 1).2 h)), if_pos ((cv_q1 2).1 h3)]
theorem cv_I (h2 : cE s = false) (h3 : cA s = false) (h4 : cI s = true) : cmdV s = (((wordsP s).getD 0 [], [], (intV ((wordsP s).getD 1 [])).1), (intV ((wordsP s).getD 1 [])).2) := by
 unfold cmdV; rw [if_neg (by omega), if_neg (fun h => b_ne h2 ((cv_q1 1).2 h)), if_neg (fun h => b_ne h3 ((cv_q1 2).2 h)), if_pos ((cv_q2 2).1 h4)]
theorem cv_N (h2 : cE s = false) (h3 : cA s = false) (h4 : cI s = false) : cmdV s = (((wordsP s).getD 0 [], [], 0), false) := by
 unfold cmdV; rw [if_neg (by omega), if_neg (fun h => b_ne h2 ((cv_q1 1).2 h)), if_neg (fun h => b_ne h3 ((cv_q1 2).2 h)), if_neg (fun h => b_ne h4 ((cv_q2 2).2 h))]
end
section
variable {s : List UInt8}
variable (h : badR s = false) (h5 : ¬ (List.getD (wordsP s) 0 []) = [97, 99, 116])
include h h5
end
theorem srcX_ok {l : List Cmd} (h : chkS l = 0) : srcX l = prtS l := if_pos h
theorem srcX_no {l : List Cmd} (h : chkS l ≠ 0) : srcX l = [] := if_neg h
theorem cm_eq {x y : Cmd} (h : (!((decide ((Prod.fst x) = (Prod.fst y))) && ((decide ((Prod.fst (Prod.snd x)) = (Prod.fst (Prod.snd y)))) && (decide ((Prod.snd (Prod.snd x)) = (Prod.snd (Prod.snd y))))))) = false) : x = y := by
 simp only [Bool.not_eq_false', Bool.and_eq_true, decide_eq_true_eq] at h
 exact Prod.ext h.1 (Prod.ext h.2.1 h.2.2)
theorem cm_ne {x y : Cmd} (h : (!((decide ((Prod.fst x) = (Prod.fst y))) && ((decide ((Prod.fst (Prod.snd x)) = (Prod.fst (Prod.snd y)))) && (decide ((Prod.snd (Prod.snd x)) = (Prod.snd (Prod.snd y))))))) = true) : ¬ x = y := by
 rintro rfl
 simp at h
theorem int_chk {v : Int} {s : List UInt8} : (bif (bif (bif true then (decide (0 ≤ v)) else false) then (decide (v ≤ 999999999)) else false) then (decide (Lib.itoa v = s)) else false) = decide (0 ≤ v ∧ v ≤ 999999999 ∧ Lib.itoa v = s) := by
 rw [Bool.eq_iff_iff]
 simp only [bif_and, Bool.and_eq_true, decide_eq_true_eq, true_and, and_assoc]
section
variable [Lz]
theorem w185 (hp : PowLaid) (n : Int) (h : R64 n) : CallOk Tryz.prog 185 [vI n] (lookM []) (vS (bsO (Lib.itoa n))) [] := by
 have h1 : extO ext 185 0 [vI n] [] = some (lit (.string ⟨(itoaF n).toArray⟩), []) := by
  show (bif in64 n then some (lit (.string ⟨(itoaF n).toArray⟩), []) else none) = _
  have : in64 n = true := decide_eq_true h
  rw [this]; rfl
 rw [itoaF_eq h.1 (by have := h.2; omega)] at h1
 exact extO_ok (ext_ok hp) _ _ _ _ _ _ h1
end
end Go.Lens.Tm
end
section
namespace Go.Lens.Tm
open Go.Lens.Tb Go.Proofs
set_option linter.unusedSectionVars false
theorem splG_cut (c : UInt8) : ∀ (w acc s : List UInt8), c ∉ w → splG c acc (w ++ c :: s) = (acc ++ w) :: splG c [] s
 | [], acc, s, _ => by
  rw [List.nil_append, splG, decide_eq_true (p := ((c.toNat : Nat) : Int) = ((c.toNat : Nat) : Int)) rfl, cond_true, List.append_nil]
 | b :: w, acc, s, h => by
  simp only [List.mem_cons, not_or] at h
  rw [List.cons_append, splG, decide_eq_false (p := ((b.toNat : Nat) : Int) = ((c.toNat : Nat) : Int)) (fun e => h.1 ((cEq b c).1 e).symm), cond_false, splG_cut c w (acc ++ [b]) s h.2]
  simp
theorem splC_join : ∀ (r : List (List UInt8)) (w acc : List UInt8), 59 ∉ w → (∀ x ∈ r, 59 ∉ x) → splG 59 acc (w ++ r.flatMap fun x => 59 :: 32 :: x) = (acc ++ w) :: r.map fun x => 32 :: x
 | [], w, acc, hw, _ => by
  rw [List.flatMap_nil, List.append_nil, splG_none _ _ hw]; rfl
 | x :: r, w, acc, hw, hr => by
  rw [List.flatMap_cons, List.cons_append, splG_cut 59 w acc _ hw]
  have := splC_join r (32 :: x) [] (by
   simp only [List.mem_cons, not_or]
   exact ⟨by decide, hr x (List.mem_cons_self ..)⟩) fun y hy => hr y (List.mem_cons_of_mem _ hy)
  rw [this]; rfl
theorem splS_cut (w s : List UInt8) (h : 32 ∉ w) : splS (w ++ 32 :: s) = w :: splS s := by
 rw [← splC_32, ← splC_32]
 exact splG_cut 32 w [] s h
theorem splS_one {w : List UInt8} (h : 32 ∉ w) : splS w = [w] := by
 rw [← splC_32]
 exact splG_none w [] h
theorem words_sp (s : List UInt8) : wordsP (32 :: s) = wordsP s := by
 have := splS_cut [] s (by simp)
 rw [List.nil_append] at this
 unfold wordsP fullW
 rw [this]
 rfl
theorem words_one {w : List UInt8} (h : 32 ∉ w) (h0 : w ≠ []) : wordsP w = [w] := by
 unfold wordsP fullW
 rw [splS_one h]
 simp [h0]
theorem words_two {w v : List UInt8} (h : 32 ∉ w) (h0 : w ≠ []) (k : 32 ∉ v) (k0 : v ≠ []) : wordsP (w ++ 32 :: v) = [w, v] := by
 unfold wordsP fullW
 rw [splS_cut w v h, splS_one k]
 simp [h0, k0]
theorem splG_head (c : UInt8) : ∀ (s acc : List UInt8), ∃ p r, splG c acc s = (acc ++ p) :: r
 | [], acc => ⟨[], [], by simp [splG]⟩
 | b :: s, acc => by
  rw [splG]
  cases decide (((b.toNat : Nat) : Int) = ((c.toNat : Nat) : Int))
  ·obtain ⟨p, r, h⟩ := splG_head c s (acc ++ [b])
   exact ⟨b :: p, r, by rw [cond_false, h]; simp⟩
  ·exact ⟨[], splG c [] s, by rw [cond_true, List.append_nil]⟩
theorem words_some2 {b : UInt8} {s : List UInt8} (h : b ≠ 32) : (wordsP (b :: s)).length ≠ 0 := by
 obtain ⟨p, r, e⟩ := splG_head 32 s [b]
 have e2 : splS (b :: s) = ([b] ++ p) :: r := by
  rw [← splC_32]
  show splG 32 [] (b :: s) = _
  rw [splG, decide_eq_false (p := ((b.toNat : Nat) : Int) = (((32 : UInt8).toNat : Nat) : Int)) (fun e => h ((cEq b 32).1 e)), cond_false]
  exact e
 unfold wordsP fullW
 rw [e2]
 simp
theorem nameAt_no {i : Nat} {c : Int} (h : c = 32 ∨ c = 59) : nameAt i c = false := by
 unfold nameAt
 generalize decide ((i : Int) = 0) = z
 rcases h with rfl | rfl <;> cases z <;> decide
theorem name_bytes {w : List UInt8} (h : isNameF (bsO w) = true) : 32 ∉ w ∧ 59 ∉ w ∧ w ≠ [] := by
 have h1 := name24 h
 unfold isNameF at h
 simp only [Bool.and_eq_true, List.all_eq_true, List.mem_range] at h
 have key : ∀ b ∈ w, b ≠ 32 ∧ b ≠ 59 := by
  intro b hb
  obtain ⟨i, hi, rfl⟩ := List.getElem_of_mem hb
  have := h.2 i hi
  have e : byteAt (bsO w) i = ((w[i].toNat : Nat) : Int) := by
   show (((w.getD i 0).toNat : Nat) : Int) = _
   rw [List.getD_eq_getElem?_getD, List.getElem?_eq_getElem hi]; rfl
  rw [e] at this
  constructor
  ·rintro e2; rw [e2, nameAt_no (.inl (by decide))] at this; cases this
  ·rintro e2; rw [e2, nameAt_no (.inr (by decide))] at this; cases this
 exact ⟨fun h => (key _ h).1 rfl, fun h => (key _ h).2 rfl, by rintro rfl; simp at h1⟩
theorem dd_bytes (n : Nat) : ∀ b ∈ Lib.decDigits n, 48 ≤ b.toNat ∧ b.toNat ≤ 57 := by
 induction n using Nat.strongRecOn with
 | _ n ih =>
  by_cases h : n < 10
  ·rw [dd_small h]
   intro b hb
   have : b = UInt8.ofNat (48 + n) := by simpa using hb
   rw [this, dg_nat h]; omega
  ·rw [dd_big h]
   intro b hb
   rcases List.mem_append.1 hb with hb | hb
   ·exact ih (n / 10) (by omega) b hb
   ·have : b = UInt8.ofNat (48 + n % 10) := by simpa using hb
    rw [this, dg_nat (by omega)]; omega
theorem itoa_bytes {n : Int} (h : 0 ≤ n) : 32 ∉ Lib.itoa n ∧ 59 ∉ Lib.itoa n ∧ Lib.itoa n ≠ [] := by
 obtain ⟨k, rfl⟩ : ∃ k : Nat, n = (k : Int) := ⟨n.toNat, by omega⟩
 rw [itoa_nat]
 have hb := dd_bytes k
 have hp := dd_pos k
 refine ⟨fun h => ?_, fun h => ?_, fun h => ?_⟩
 ·have := hb _ h; revert this; decide
 ·have := hb _ h; revert this; decide
 ·rw [h] at hp; simp at hp
theorem intV_itoa {n : Int} (h0 : 0 ≤ n) (h1 : n ≤ 999999999) : intV (Lib.itoa n) = (n, true) := by
 obtain ⟨k, rfl⟩ : ∃ k : Nat, n = (k : Int) := ⟨n.toNat, by omega⟩
 rw [itoa_nat]
 obtain ⟨e1, e2⟩ := int_same (Lib.decDigits k)
 rw [intR_dec (by omega)] at e1 e2
 exact Prod.ext (e2 rfl) e1
theorem prtW_bytes {c : Cmd} (h : chkC c = 0) : 59 ∉ prtW c ∧ ∃ b r, prtW c = b :: r ∧ b ≠ 32 := by
 rcases cmd_cases h with ⟨h1, h2, h3⟩ | ⟨h1, h2, h3⟩ | ⟨h1, h2, h3, h4⟩
 ·have := name_bytes h2
  unfold prtW
  rw [if_pos h1]
  refine ⟨?_, 97, _, rfl, by decide⟩
  simp only [List.mem_append, not_or]
  exact ⟨by decide, this.2.1⟩
 ·unfold prtW
  rw [if_neg (by rw [h1]; decide), if_pos h1]
  exact ⟨by decide, 101, _, rfl, by decide⟩
 ·have hi := itoa_bytes (n := c.2.2) (by omega)
  have hk : c.1 ≠ kAct ∧ c.1 ≠ kEnd := by rcases h1 with h1 | h1 <;> rw [h1] <;> decide
  unfold prtW
  rw [if_neg hk.1, if_neg hk.2]
  constructor
  ·simp only [List.mem_append, not_or]
   exact ⟨⟨by rcases h1 with h1 | h1 <;> rw [h1] <;> decide, by decide⟩, hi.2.1⟩
  ·rcases h1 with h1 | h1
   ·rw [h1]; exact ⟨119, _, rfl, by decide⟩
   ·rw [h1]; exact ⟨114, _, rfl, by decide⟩
theorem cmdV_prt {c : Cmd} (h : chkC c = 0) : cmdV (prtW c) = (c, true) := by
 obtain ⟨o, nm, ct⟩ := c
 rcases cmd_cases h with ⟨h1, h2, h3⟩ | ⟨h1, h2, h3⟩ | ⟨h1, h2, h3, h4⟩
 ·simp only at h1 h2 h3
  subst h1 h3
  obtain ⟨n1, _, n3⟩ := name_bytes h2
  have hw : wordsP (prtW (kAct, nm, 0)) = [kAct, nm] := by
   have : prtW (kAct, nm, 0) = kAct ++ 32 :: nm := by simp [prtW]
   rw [this]
   exact words_two (by decide) (by decide) n1 n3
  unfold cmdV
  rw [hw]
  rfl
 ·simp only at h1 h2 h3
  subst h1 h2 h3
  have hw : wordsP (prtW (kEnd, [], 0)) = [kEnd] := words_one (by decide) (by decide)
  unfold cmdV
  rw [hw]
  rfl
 ·simp only at h1 h2 h3 h4
  subst h2
  have hi := itoa_bytes (n := ct) (by omega)
  have hk : o ≠ kAct ∧ o ≠ kEnd := by rcases h1 with h1 | h1 <;> rw [h1] <;> decide
  have ho : 32 ∉ o ∧ o ≠ [] := by rcases h1 with h1 | h1 <;> rw [h1] <;> decide
  have hw : wordsP (prtW (o, [], ct)) = [o, Lib.itoa ct] := by
   have : prtW (o, [], ct) = o ++ 32 :: Lib.itoa ct := by
    unfold prtW
    rw [if_neg hk.1, if_neg hk.2]; simp
   rw [this]
   exact words_two ho.1 ho.2 hi.1 hi.2.2
  unfold cmdV
  rw [hw]
  have e := intV_itoa (n := ct) (by omega) (by omega)
  have c1 : ¬ (([o, Lib.itoa ct] : List (List UInt8)).length = 0) := by simp
  rw [if_neg (by simp), if_neg (by simp), if_neg (fun hh => hk.1 hh.1), if_pos ⟨h1, rfl⟩]
  show ((o, [], (intV (Lib.itoa ct)).1), (intV (Lib.itoa ct)).2) = _
  rw [e]
theorem cmdV_sp (s : List UInt8) : cmdV (32 :: s) = cmdV s := by
 unfold cmdV
 rw [words_sp]
theorem parG_all (f : List UInt8 → Cmd × Bool) : ∀ (ps : List (List UInt8)) (cs : List Cmd) (i : Nat) (out : List Cmd), ps.map f = cs.map (fun c => (c, true)) → parG f ps i out = if chkS (out ++ cs) ≠ 0 then ([], 0, chkS (out ++ cs)) else (out ++ cs, 0, 0)
 | [], [], i, out, _ => by rw [parG, List.append_nil]
 | p :: ps, c :: cs, i, out, h => by
  simp only [List.map_cons, List.cons.injEq] at h
  rw [parG, if_neg (by rw [h.1]; simp), h.1, parG_all f ps cs _ _ h.2]
  simp
 | [], c :: cs, _, _, h => by simp at h
 | p :: ps, [], _, _, h => by simp at h
theorem par_prtS {l : List Cmd} (h : chkS l = 0) : parScr cmdV (prtS l) = (l, 0, 0) := by
 obtain ⟨h1, h2, _, _⟩ := chkS_ok h
 have hlen := prtS_len h2
 unfold parScr
 rw [if_neg (by omega)]
 match l, h, h2 with
 | [], _, _ => rfl
 | c :: r, h, h2 =>
  have hc := h2 c (List.mem_cons_self ..)
  have hr : ∀ x ∈ r, chkC x = 0 := fun x hx => h2 x (List.mem_cons_of_mem _ hx)
  have e : prtS (c :: r) = prtW c ++ (r.map prtW).flatMap fun x => 59 :: 32 :: x := rfl
  obtain ⟨k1, b, q, k2, k3⟩ := prtW_bytes hc
  rw [if_neg (by rw [e, k2, List.cons_append]; exact words_some2 k3)]
  have hs : splC 59 (prtS (c :: r)) = prtW c :: (r.map prtW).map fun x => 32 :: x := by
   rw [e]
   exact splC_join (r.map prtW) (prtW c) [] k1 fun x hx => by
    obtain ⟨y, hy, rfl⟩ := List.mem_map.1 hx
    exact (prtW_bytes (hr y hy)).1
  rw [hs, parG_all cmdV _ (c :: r) 0 [] (by
   rw [List.map_cons, List.map_cons, cmdV_prt hc, List.map_map, List.map_map]
   congr 1
   refine List.map_congr_left fun x hx => ?_
   show cmdV (32 :: prtW x) = _
   rw [cmdV_sp, cmdV_prt (hr x hx)]), List.nil_append, if_neg (by rw [h]; decide)]
end Go.Lens.Tm
end
section
namespace Go.Lens.Tm
open Go.Lens.Tb Go.Proofs
set_option linter.unusedSectionVars false
def unrGo : List Cmd → List (List Cmd × Nat) → List Cmd → List Cmd
 | a, _, [] => a
 | a, st, c :: l => if c.1 = kRep then unrGo [] ((a, c.2.2.toNat) :: st) l else if c.1 = kEnd then (match st with
   | [] => a
   | p :: st => unrGo (p.1 ++ (List.replicate p.2 a).flatten) st l) else unrGo (a ++ [c]) st l
theorem unrGo_cons (a : List Cmd) (st : List (List Cmd × Nat)) (c : Cmd) (l : List Cmd) : unrGo a st (c :: l) = if c.1 = kRep then unrGo [] ((a, c.2.2.toNat) :: st) l else if c.1 = kEnd then (match st with
   | [] => a
   | p :: st => unrGo (p.1 ++ (List.replicate p.2 a).flatten) st l) else unrGo (a ++ [c]) st l := by cases st <;> rfl
def unrP (l : List Cmd) : List Cmd := unrGo [] [] l
def tms (n : Nat) (a : List Cmd) : List Cmd := (List.replicate n a).flatten
theorem tms_zero (a : List Cmd) : tms 0 a = [] := rfl
theorem tms_succ (n : Nat) (a : List Cmd) : tms (n + 1) a = tms n a ++ a := by
 unfold tms
 rw [List.replicate_succ', List.flatten_append]; simp
theorem wf_unr {d : Nat} {l : List Cmd} (h : Wf d l) : ∀ (a : List Cmd) (st : List (List Cmd × Nat)) (r : List Cmd), unrGo a st (l ++ r) = unrGo (a ++ unrP l) st r := by
 induction h with
 | nil d => intro a st r; rw [List.nil_append]; simp [unrP, unrGo]
 | @one d c l h1 h2 h ih =>
  intro a st r
  have e : unrP (c :: l) = [c] ++ unrP l := by
   have := ih [c] [] []
   rw [List.append_nil] at this
   rw [unrP, unrGo_cons, if_neg h1, if_neg h2, List.nil_append, this]; rfl
  rw [List.cons_append, unrGo_cons, if_neg h1, if_neg h2, ih, e, List.append_assoc]
 | @rep d c e b l h1 h2 hb hl ihb ihl =>
  have key : ∀ (a : List Cmd) (st : List (List Cmd × Nat)) (r : List Cmd), unrGo a st ((c :: (b ++ e :: l)) ++ r) = unrGo (a ++ (tms c.2.2.toNat (unrP b) ++ unrP l)) st r := by
   intro a st r
   rw [List.cons_append, unrGo_cons, if_pos h1, List.append_assoc, ihb, List.cons_append, unrGo_cons, if_neg (by rw [h2]; exact Ne.symm rep_end), if_pos h2]
   show unrGo (a ++ tms c.2.2.toNat ([] ++ unrP b)) st (l ++ r) = _
   rw [List.nil_append, ihl, List.append_assoc]
  have e0 : unrP (c :: (b ++ e :: l)) = tms c.2.2.toNat (unrP b) ++ unrP l := by
   have := key [] [] []
   rw [List.append_nil, List.nil_append] at this
   exact this
  intro a st r
  rw [key, e0]
theorem wf_one_unr {d : Nat} {c : Cmd} {l : List Cmd} (h1 : c.1 ≠ kRep) (h2 : c.1 ≠ kEnd) (h : Wf d l) : unrP (c :: l) = c :: unrP l := by
 have := wf_unr h [c] [] []
 rw [List.append_nil] at this
 rw [unrP, unrGo_cons, if_neg h1, if_neg h2, List.nil_append, this]; rfl
theorem wf_rep_unr {d : Nat} {c e : Cmd} {b l : List Cmd} (h1 : c.1 = kRep) (h2 : e.1 = kEnd) (hb : Wf d b) (hl : Wf (d + 1) l) : unrP (c :: (b ++ e :: l)) = tms c.2.2.toNat (unrP b) ++ unrP l := by
 have h3 := wf_unr hl (tms c.2.2.toNat (unrP b)) [] []
 rw [List.append_nil] at h3
 rw [unrP, unrGo_cons, if_pos h1, wf_unr hb, unrGo_cons, if_neg (by rw [h2]; exact Ne.symm rep_end), if_pos h2]
 show unrGo ([] ++ tms c.2.2.toNat ([] ++ unrP b)) [] l = _
 rw [List.nil_append, List.nil_append, h3]; rfl
theorem unrP_nil : unrP [] = [] := rfl
theorem tms_len (n : Nat) (a : List Cmd) : (tms n a).length = n * a.length := by
 induction n with
 | zero => simp [tms]
 | succ n ih => rw [tms_succ, List.length_append, ih, Nat.add_mul]; omega
theorem tms_mem {n : Nat} {a : List Cmd} {c : Cmd} (h : c ∈ tms n a) : c ∈ a := by
 unfold tms at h
 obtain ⟨l, hl, hc⟩ := List.mem_flatten.1 h
 rw [(List.mem_replicate.1 hl).2] at hc
 exact hc
theorem wf_unr_len {d : Nat} {l : List Cmd} (h : Wf d l) (hc : ∀ c ∈ l, chkC c = 0) : ((unrP l).length : Int) ≤ lenP l ∧ ∀ c ∈ unrP l, c ∈ l ∧ c.1 ≠ kRep ∧ c.1 ≠ kEnd := by
 induction h with
 | nil d => exact ⟨by simp [unrP_nil, lenP_nil], fun c h => by cases h⟩
 | @one d c l h1 h2 h ih =>
  have := ih fun x hx => hc x (List.mem_cons_of_mem _ hx)
  rw [wf_one_len h1 h2 h, wf_one_unr h1 h2 h]
  refine ⟨by simp only [List.length_cons]; omega, fun x hx => ?_⟩
  rcases List.mem_cons.1 hx with rfl | hx
  ·exact ⟨List.mem_cons_self .., h1, h2⟩
  ·have k := this.2 x hx; exact ⟨List.mem_cons_of_mem _ k.1, k.2⟩
 | @rep d c e b l h1 h2 hb hl ihb ihl =>
  have kb := ihb fun x hx => hc x (by simp [hx])
  have kl := ihl fun x hx => hc x (by simp [hx])
  have hr := cnt_rep (hc c (List.mem_cons_self ..)) h1
  rw [wf_rep_len h1 h2 hb hl, wf_rep_unr h1 h2 hb hl]
  refine ⟨?_, fun x hx => ?_⟩
  ·rw [List.length_append, tms_len]
   have h3 : c.2.2 * ((unrP b).length : Int) ≤ c.2.2 * (1 + lenP b) := Int.mul_le_mul_of_nonneg_left (by omega) (by omega)
   have h4 : ((c.2.2.toNat * (unrP b).length : Nat) : Int) = c.2.2 * ((unrP b).length : Int) := by
    rw [Int.natCast_mul, Int.toNat_of_nonneg (by omega)]
   omega
  ·rcases List.mem_append.1 hx with hx | hx
   ·have k := kb.2 x (tms_mem hx); exact ⟨by simp [k.1], k.2⟩
   ·have k := kl.2 x hx; exact ⟨by simp [k.1], k.2⟩
theorem wf_at_unr {d : Nat} {l : List Cmd} {i : Nat} (hw : Wf d (l.drop i)) (hi : i < l.length) (h0 : (l.getD i z3).1 = kRep) :
  unrP (l.drop i) = tms (l.getD i z3).2.2.toNat (unrP ((l.take (matGo 0 i (l.drop i))).drop (i + 1))) ++ unrP (l.drop (matGo 0 i (l.drop i) + 1)) := by
 have hd := dropC hi
 generalize hq : l.drop i = q at hw hd
 cases hw with
 | nil d => cases hd
 | one h1 h2 h => cases hd; exact absurd h0 h1
 | @rep d' c e b r h1 h2 hb hr =>
  injection hd with k1 k2
  have hm : matGo 0 i (c :: (b ++ e :: r)) = i + 1 + b.length := by
   rw [matGo, if_pos h1, wf_mat hb _ _ _ (by omega), matGo, if_neg (by rw [h2]; exact Ne.symm rep_end), if_pos h2, if_pos (by omega)]
  have htb : (l.take (i + 1 + b.length)).drop (i + 1) = b := by
   rw [List.drop_take, ← k2, show i + 1 + b.length - (i + 1) = b.length by omega, List.take_left]
  have hdr : l.drop (i + 1 + b.length + 1) = r := by
   rw [show i + 1 + b.length + 1 = (i + 1) + (b.length + 1) by omega, ← List.drop_drop, ← k2, ← List.drop_drop, List.drop_left]; rfl
  rw [hm, htb, hdr, ← k1]
  exact wf_rep_unr h1 h2 hb hr
theorem wf_next_unr {d : Nat} {l : List Cmd} {i : Nat} (hw : Wf d (l.drop i)) (hi : i < l.length) (h0 : (l.getD i z3).1 ≠ kRep) : unrP (l.drop i) = l.getD i z3 :: unrP (l.drop (i + 1)) := by
 have hd := dropC hi
 generalize hq : l.drop i = q at hw hd
 cases hw with
 | nil d => cases hd
 | one h1 h2 h =>
  injection hd with k1 k2
  rw [← k1, ← k2]
  exact wf_one_unr h1 h2 h
 | rep h1 h2 hb hr => injection hd with k1 k2; rw [k1] at h1; exact absurd h1 h0
end Go.Lens.Tm
end
section
namespace Go.Lens.Tm
open Go.Lens.Tb Go.Proofs
set_option linter.unusedSectionVars false
abbrev LSt := List UInt8 × Int × Bool × Bool
abbrev gS (s : LSt) : PV := .agg [pS (bsO s.1), pI s.2.1, pB s.2.2.1, pB s.2.2.2]
abbrev bS (s : LSt) : MO := .box 81 [vS (bsO s.1), vI s.2.1, vB s.2.2.1, vB s.2.2.2]
abbrev mIdle : List UInt8 := [105, 100, 108, 101]
abbrev mOpen : List UInt8 := [111, 112, 101, 110]
abbrev mClosed : List UInt8 := [99, 108, 111, 115, 101, 100]
abbrev mSafe : List UInt8 := [115, 97, 102, 101]
def stPV (s : LSt) : List PV := [.lit (.string (bsO s.1)), .lit (.int .i64 s.2.1), .lit (.bool s.2.2.1), .lit (.bool s.2.2.2)]
def knownB (m : List UInt8) : Bool := decide (m = mIdle) || (decide (m = mOpen) || (decide (m = mClosed) || decide (m = mSafe)))
def wrongB (s : LSt) : Bool := ((decide (0 < s.2.1) && decide (s.1 ≠ mClosed)) || (s.2.2.1 && decide (s.1 = mClosed))) || (s.2.2.2 && (decide (s.1 = mOpen) || decide (s.1 = mClosed)))
def chkSt (s : LSt) : Int := firstF [whenF (!knownB s.1) 13, withinF s.2.1 0 2, whenF (wrongB s) 18]
abbrev aStart : List UInt8 := [115, 116, 97, 114, 116]
abbrev aClose : List UInt8 := [99, 108, 111, 115, 101]
abbrev aOpen : List UInt8 := [111, 112, 101, 110]
abbrev aStop : List UInt8 := [115, 116, 111, 112]
abbrev aSat : List UInt8 := [115, 97, 116, 117, 114, 97, 116, 101]
abbrev aClear : List UInt8 := [99, 108, 101, 97, 114]
abbrev aLose : List UInt8 := [108, 111, 115, 101]
abbrev aFind : List UInt8 := [102, 105, 110, 100]
abbrev aGust : List UInt8 := [103, 117, 115, 116]
abbrev aCalm : List UInt8 := [99, 97, 108, 109]
abbrev aReset : List UInt8 := [114, 101, 115, 101, 116]
def actNs : List (List UInt8) := [aStart, aClose, aOpen, aStop, aSat, aClear, aLose, aFind, aGust, aCalm, aReset]
def toM (s : LSt) (m : List UInt8) : LSt := (m, if s.1 = m then s.2.1 else 0, s.2.2.1, s.2.2.2)
def permA (s : LSt) (a : List UInt8) : Bool :=
 if a = aStart then decide (s.1 = mIdle) && !s.2.2.2
 else if a = aClose then decide (s.1 = mOpen) && !s.2.2.1
 else if a = aOpen then decide (s.1 = mClosed)
 else if a = aStop then decide (s.1 = mOpen) || decide (s.1 = mClosed)
 else if a = aSat then decide (s.1 = mClosed)
 else if a = aClear then decide (s.1 = mClosed)
 else if a = aLose then !s.2.2.1
 else if a = aFind then s.2.2.1
 else if a = aGust then !s.2.2.2
 else if a = aCalm then s.2.2.2
 else decide (s.1 = mSafe) && !s.2.2.2
def effA (s : LSt) (a : List UInt8) : LSt :=
 if a = aStart then toM s mOpen
 else if a = aClose then toM s mClosed
 else if a = aOpen then toM s mOpen
 else if a = aStop then toM s mIdle
 else if a = aSat then (if s.2.1 + 1 = 3 then toM s mSafe else (s.1, s.2.1 + 1, s.2.2.1, s.2.2.2))
 else if a = aClear then (s.1, 0, s.2.2.1, s.2.2.2)
 else if a = aLose then (if s.1 = mClosed then toM (s.1, s.2.1, true, s.2.2.2) mSafe else (s.1, s.2.1, true, s.2.2.2))
 else if a = aFind then (s.1, s.2.1, false, s.2.2.2)
 else if a = aGust then (if s.1 = mOpen ∨ s.1 = mClosed then toM (s.1, s.2.1, s.2.2.1, true) mSafe else (s.1, s.2.1, s.2.2.1, true))
 else if a = aCalm then (s.1, s.2.1, s.2.2.1, false)
 else toM s mIdle
def zSt : LSt := ([], 0, false, false)
def actP (s : LSt) (a : List UInt8) : LSt × Int := if a ∈ actNs then (if permA s a then (effA s a, 0) else (zSt, 18)) else (zSt, 13)
def bools : List Bool := [false, true]
def sts : List LSt :=
 [(mIdle, 0, false, false), (mIdle, 0, false, true), (mIdle, 0, true, false), (mIdle, 0, true, true), (mOpen, 0, false, false), (mOpen, 0, true, false), (mClosed, 0, false, false), (mClosed, 1, false, false), (mClosed, 2, false, false),
  (mSafe, 0, false, false), (mSafe, 0, false, true), (mSafe, 0, true, false), (mSafe, 0, true, true)]
theorem first3c {a b c : Int} (h : firstF [a, b, c] = 0) : a = 0 ∧ b = 0 ∧ c = 0 := by
 rw [firstF] at h
 split at h
 ·rename_i ha
  exact ⟨ha, first2 h⟩
 ·rename_i ha; exact absurd h ha
theorem when_zero {b : Bool} {e : Int} (he : e ≠ 0) (h : whenF b e = 0) : b = false := by
 cases b
 ·rfl
 ·exact absurd h he
theorem st_valid {s : LSt} (h : chkSt s = 0) : s ∈ sts := by
 obtain ⟨h1, h2, h3⟩ := first3c h
 have k1 := when_zero (by decide) h1
 have k2 := with_rng h2
 have k3 := when_zero (by decide) h3
 obtain ⟨m, n, lo, wi⟩ := s
 simp only [Bool.not_eq_false'] at k1
 have hn : n = 0 ∨ n = 1 ∨ n = 2 := by simp only at k2; omega
 have hm : m = mIdle ∨ m = mOpen ∨ m = mClosed ∨ m = mSafe := by
  simpa [knownB] using k1
 rcases hm with rfl | rfl | rfl | rfl <;> rcases hn with rfl | rfl | rfl <;> cases lo <;> cases wi <;> first | decide | (exact absurd k3 (by decide))
theorem st_chk : ∀ s ∈ sts, chkSt s = 0 := by decide
theorem act_stays : ∀ s ∈ sts, ∀ a ∈ actNs, (actP s a).2 = 0 → (actP s a).1 ∈ sts := by decide
theorem act_valid {s : LSt} {a : List UInt8} (hs : s ∈ sts) (h : (actP s a).2 = 0) : (actP s a).1 ∈ sts := by
 by_cases ha : a ∈ actNs
 ·exact act_stays s hs a ha h
 ·rw [actP, if_neg ha] at h; cases h
end Go.Lens.Tm
end
section
namespace Go.Lens.Tm
open Go.Lens.Tb Go.Proofs
set_option linter.unusedSectionVars false
theorem cL [Lz] {f : FuncId} {F : FnI} {c : Code} (lo : Nat) (l : List (Nat × MO)) {ds : List DV} {val : DV} {out : List (Nat × MO)} (q : QF f F) (hb : F.body = some c) (hl : ds.length ≤ F.n) (hrf : (DV.refsL ds).all (hasM l) = true) (hnb : l.all (fun p => Nat.blt p.1 lo) = true)
 (h : TK Tryz.prog F.n lo (PostL tab F lo l val out) c [] ⟨zipT 0 ds, l⟩) : CallOk Tryz.prog f ds (lookM l) val out := by
 obtain ⟨fn, f1, f2, f3, f4, _, f6⟩ := q
 exact callOk_ofL (Y := tab) (F := F) lo l f1 (f2.trans hb) f3 f4 f6 hl hrf hnb h
abbrev Stp := Int × List UInt8
def eP (p : Stp) : List PV := [.lit (.int .i64 (Prod.fst p)), .lit (.string (bsO (Prod.snd p)))]
abbrev Mc := LSt × Int × List Stp
abbrev bM (m : Mc) : MO := .box 217 [vS (bsO m.1.1), vI m.1.2.1, vB m.1.2.2.1, vB m.1.2.2.2, vI m.2.1, vI 0, .aref 900 m.2.2.length]
abbrev aM (m : Mc) : MO := .arr m.2.2.length 2 164 (List.map eP m.2.2)
abbrev bE (m : Mc) : MO := .box 220 [vS (bsO m.1.1), vI m.1.2.1, vB m.1.2.2.1, vB m.1.2.2.2, vI m.2.1, vL eP m.2.2, vI 0]
abbrev gE (m : Mc) : PV := .agg [pS (bsO m.1.1), pI m.1.2.1, pB m.1.2.2.1, pB m.1.2.2.2, pI m.2.1, pL eP m.2.2, pI 0]
def take1 (m : Mc) (c : Cmd) : Mc × Int :=
 if c.1 = kWait then (if 999999999 < m.2.1 + c.2.2 then (m, 3) else ((m.1, m.2.1 + c.2.2, m.2.2), 0))
 else if 1000 ≤ m.2.2.length then (m, 5)
 else if (actP m.1 c.2.1).2 ≠ 0 then (m, (actP m.1 c.2.1).2) else (((actP m.1 c.2.1).1, m.2.1, m.2.2 ++ [(m.2.1, c.2.1)]), 0)
def takes (m : Mc) : List Cmd → Mc × Int
 | [] => (m, 0)
 | c :: l => if (take1 m c).2 ≠ 0 then take1 m c else takes (take1 m c).1 l
theorem takes_nil (m : Mc) : takes m [] = (m, 0) := rfl
theorem takes_bad {m : Mc} {c : Cmd} {l : List Cmd} (h : (take1 m c).2 ≠ 0) : takes m (c :: l) = take1 m c := by rw [takes, if_pos h]
theorem takes_ok {m : Mc} {c : Cmd} {l : List Cmd} (h : (take1 m c).2 = 0) : takes m (c :: l) = takes (take1 m c).1 l := by rw [takes, if_neg (by rw [h]; simp)]
theorem takes_app : ∀ (a : List Cmd) (m : Mc) (b : List Cmd), takes m (a ++ b) = if (takes m a).2 ≠ 0 then takes m a else takes (takes m a).1 b
 | [], m, b => by simp [takes]
 | c :: a, m, b => by
  rw [List.cons_append]
  by_cases h : (take1 m c).2 = 0
  ·rw [takes_ok h, takes_ok h, takes_app a]
  ·rw [takes_bad h, takes_bad h, if_pos h]
def OkM (m : Mc) : Prop := m.1 ∈ sts ∧ 0 ≤ m.2.1 ∧ m.2.1 ≤ 999999999 ∧ m.2.2.length ≤ 1000
theorem take1_ok {m : Mc} {c : Cmd} (h : OkM m) (hc : chkC c = 0) : OkM (take1 m c).1 := by
 obtain ⟨h1, h2, h3, h4⟩ := h
 unfold take1
 split
 ·rename_i hw
  have := cnt_wait hc hw
  split
  ·exact ⟨h1, h2, h3, h4⟩
  ·exact ⟨h1, by show 0 ≤ m.2.1 + c.2.2; omega, by show m.2.1 + c.2.2 ≤ 999999999; omega, h4⟩
 ·split
  ·exact ⟨h1, h2, h3, h4⟩
  ·split
   ·exact ⟨h1, h2, h3, h4⟩
   ·rename_i hl ha
    refine ⟨act_valid h1 (Decidable.not_not.1 ha), h2, h3, ?_⟩
    simp only [List.length_append, List.length_cons, List.length_nil]
    omega
theorem takes_okM : ∀ {l : List Cmd} {m : Mc}, OkM m → (∀ c ∈ l, chkC c = 0) → OkM (takes m l).1
 | [], m, h, _ => h
 | c :: l, m, h, hc => by
  have k := take1_ok h (hc c (List.mem_cons_self ..))
  by_cases h0 : (take1 m c).2 = 0
  ·rw [takes_ok h0]; exact takes_okM k fun x hx => hc x (List.mem_cons_of_mem _ hx)
  ·rw [takes_bad h0]; exact k
def runX (s : LSt) (t : Int) (l : List Cmd) : Int := firstF [chkSt s, withinF t 0 999999999, chkS l]
def runP (s : LSt) (t : Int) (l : List Cmd) : Mc × Int := if runX s t l ≠ 0 then ((zSt, 0, []), runX s t l) else takes (s, t, []) (unrP l)
end Go.Lens.Tm
end
