/- A part of the proof that NightFieldsCardSaid holds, without conditions. -/
import Derived.Test.YtomghboflcafbaaGreatDoorS3
import Derived.Test.YtomghboflcafbaaGreatDoorS4
import Derived.Laws.RangeAny
import Derived.Test.YtomghboflcafbaaGreatDoorS10
set_option linter.unusedVariables false
set_option linter.unusedSimpArgs false
section
namespace Go.Lens
set_option linter.unusedSectionVars false
variable [Lz]
theorem bsO_size (a : List UInt8) : (bsO a).size = a.length := rfl
theorem bsO_toList (a : List UInt8) : (bsO a).toList = a := by rw [ByteArray.toList_eq]; rfl
theorem bsO_append (a b : List UInt8) : bsO a ++ bsO b = bsO (a ++ b) := by
 apply ByteArray.ext
 apply Array.toList_inj.1
 simp [bsO]
theorem bsO_extract (a : List UInt8) (i j : Nat) : (bsO a).extract i j = bsO ((a.take j).drop i) := by
 apply ByteArray.ext
 apply Array.toList_inj.1
 simp [bsO, ByteArray.data_extract, List.drop_take]
def ltS (a b : List UInt8) : Bool := Op.bytesLess a b
def leS (a b : List UInt8) : Bool := Op.bytesLess a b || a == b
section
variable {P : Program} {Y : Tab} [TabOk P Y] {nb : Nat} {s : St} {dst : Option Tmp} {ty u : TypeId} {pos : String} {af : Array Edge} {gd : Option (Nat × Bool)} {t : TypeId} {x y z : Operand} {a b : List UInt8}
theorem Body.catB (hx : ev1 s x = lit (.string (bsO a))) (hy : ev1 s y = lit (.string (bsO b))) (h : a.length + b.length ≤ 9223372036854775807) : Body P Y nb s ⟨dst, .binOp .add t x y u, ty, pos, af, gd⟩ (lit (.string (bsO (a ++ b)))) [] [] := by
 refine Body.bin hx hy ?_
 show qE (some (decide ((bsO a).size + (bsO b).size ≤ 9223372036854775807), lit (.string (bsO a ++ bsO b)))) = _
 have : decide ((bsO a).size + (bsO b).size ≤ 9223372036854775807) = true := decide_eq_true h
 rw [this, bsO_append]; rfl
theorem Body.seqB (hx : ev1 s x = lit (.string (bsO a))) (hy : ev1 s y = lit (.string (bsO b))) : Body P Y nb s ⟨dst, .binOp .eql t x y u, ty, pos, af, gd⟩ (lit (.bool (decide (a = b)))) [] [] := by
 have := Body.seql (P := P) (Y := Y) (nb := nb) (s := s) (dst := dst) (ty := ty) (u := u) (pos := pos) (af := af) (gd := gd) (t := t) hx hy
 rwa [show decide (bsO a = bsO b) = decide (a = b) by rw [Bool.eq_iff_iff]; simp [bsO_inj]] at this
theorem Body.sneB (hx : ev1 s x = lit (.string (bsO a))) (hy : ev1 s y = lit (.string (bsO b))) : Body P Y nb s ⟨dst, .binOp .neq t x y u, ty, pos, af, gd⟩ (lit (.bool (decide (a ≠ b)))) [] [] := by
 have := Body.sneq (P := P) (Y := Y) (nb := nb) (s := s) (dst := dst) (ty := ty) (u := u) (pos := pos) (af := af) (gd := gd) (t := t) hx hy
 rwa [show decide (bsO a ≠ bsO b) = decide (a ≠ b) by rw [Bool.eq_iff_iff]; simp [bsO_inj]] at this
theorem Body.sltB (hx : ev1 s x = lit (.string (bsO a))) (hy : ev1 s y = lit (.string (bsO b))) : Body P Y nb s ⟨dst, .binOp .lss t x y u, ty, pos, af, gd⟩ (lit (.bool (ltS a b))) [] [] := by
 refine Body.bin hx hy ?_
 show qE (some (true, lit (.bool (Op.bytesLess (bsO a).toList (bsO b).toList)))) = _
 rw [bsO_toList, bsO_toList]; rfl
theorem Body.sleB (hx : ev1 s x = lit (.string (bsO a))) (hy : ev1 s y = lit (.string (bsO b))) : Body P Y nb s ⟨dst, .binOp .leq t x y u, ty, pos, af, gd⟩ (lit (.bool (leS a b))) [] [] := by
 refine Body.bin hx hy ?_
 show qE (some (true, lit (.bool (Op.bytesLess (bsO a).toList (bsO b).toList || (bsO a).toList == (bsO b).toList)))) = _
 rw [bsO_toList, bsO_toList]; rfl
theorem Body.bqB {p q : Bool} (hx : ev1 s x = lit (.bool p)) (hy : ev1 s y = lit (.bool q)) (und : Y.underlying t = some .bool) : Body P Y nb s ⟨dst, .binOp .eql t x y u, ty, pos, af, gd⟩ (lit (.bool (p == q))) [] [] := by
 refine Body.bin hx hy ?_
 have h3 : binQ Y .eql t (lit (.bool p)) (lit (.bool q)) = some (true, lit (.bool (p == q))) := by
  simp only [binQ, lit, und]
 show qE (binW Y .eql t (lookM []) (isNilC y) (lit (.bool p)) (lit (.bool q))) = _
 have h4 : binW Y .eql t (lookM []) (isNilC y) (lit (.bool p)) (lit (.bool q)) = some (true, lit (.bool (p == q))) := by
  unfold binW
  simp only [lit] at h3 ⊢
  simp only [nilQ, nilKind, samePQ, h3]
 rw [h4]; rfl
theorem Body.lenB {at' : TypeId} (hx : ev1 s x = lit (.string (bsO a))) (hu : Y.underlying at' = some .string) : Body P Y nb s ⟨dst, .call ⟨.builtin .len, ⟨[x]⟩, ⟨[at']⟩⟩, ty, pos, af, gd⟩ (lit (.int .i64 ((a.length : Nat) : Int))) [] [] := Body.lenS hx hu
theorem Body.slHB {hi : Operand} {k : IntKind} {n : Int} {j : Nat} (hx : ev1 s x = lit (.string (bsO a))) (hy : ev1 s hi = lit (.int k n)) (hu : Y.underlying t = some .string) (hn : n = (j : Int)) (hj : j ≤ a.length) :
 Body P Y nb s ⟨dst, .slice t x none (some hi) none, ty, pos, af, gd⟩ (lit (.string (bsO (a.take j)))) [] [] := by
 refine Body.pure (lo := 0) (nm := 0) (O0_ok P) ?_ ?_
 ·intro z hz
  have : z = x ∨ z = hi := by simpa [Op.operands] using hz
  rcases this with rfl | rfl
  ·rw [hx]; rfl
  ·rw [hy]; rfl
 ·have e1 : evU (tmpsOf [x, hi]) s x = _ := (evU_own (by simp)).trans hx
  have e2 : evU (tmpsOf [x, hi]) s hi = _ := (evU_own (by simp)).trans hy
  have hv : effV Y 0 dst (.slice t x none (some hi) none) (evU (tmpsOf [x, hi]) s) (lookM []) = liftQ (sliceW Y t (lookM []) (evU (tmpsOf [x, hi]) s x) none (some (evU (tmpsOf [x, hi]) s hi)) none) := rfl
  show (match effV Y 0 dst (.slice t x none (some hi) none) (evU (tmpsOf [x, hi]) s) (lookM []) with | some ⟨true, v, m⟩ => some (v, m) | _ => none) = _
  rw [hv, e1, e2]
  have hq : sliceW Y t (lookM []) (lit (.string (bsO a))) none (some (lit (.int k n))) none = some (true, lit (.string (bsO (a.take j)))) := by
   show sliceQ Y t (lookM []) (lit (.string (bsO a))) none (some (lit (.int k n))) none = _
   unfold sliceQ lit
   simp only [hu, bound, Option.getD_some, Option.getD_none]
   subst hn
   have : decide ((0 : Int) ≤ 0 ∧ (0 : Int) ≤ (j : Int) ∧ (j : Int) ≤ ((bsO a).size : Int)) = true := decide_eq_true ⟨by omega, by omega, by rw [bsO_size]; omega⟩
   rw [this, Int.toNat_natCast, bsO_extract]; rfl
  rw [hq]; rfl
theorem Body.slLB {lo : Operand} {k : IntKind} {n : Int} {i : Nat} (hx : ev1 s x = lit (.string (bsO a))) (hy : ev1 s lo = lit (.int k n)) (hu : Y.underlying t = some .string) (hn : n = (i : Int)) (hi : i ≤ a.length) :
 Body P Y nb s ⟨dst, .slice t x (some lo) none none, ty, pos, af, gd⟩ (lit (.string (bsO (a.drop i)))) [] [] := by
 refine Body.pure (lo := 0) (nm := 0) (O0_ok P) ?_ ?_
 ·intro z hz
  have : z = x ∨ z = lo := by simpa [Op.operands] using hz
  rcases this with rfl | rfl
  ·rw [hx]; rfl
  ·rw [hy]; rfl
 ·have e1 : evU (tmpsOf [x, lo]) s x = _ := (evU_own (by simp)).trans hx
  have e2 : evU (tmpsOf [x, lo]) s lo = _ := (evU_own (by simp)).trans hy
  have hv : effV Y 0 dst (.slice t x (some lo) none none) (evU (tmpsOf [x, lo]) s) (lookM []) = liftQ (sliceW Y t (lookM []) (evU (tmpsOf [x, lo]) s x) (some (evU (tmpsOf [x, lo]) s lo)) none none) := by
   show (match frzU (lookM []) (refsOf (evU (tmpsOf [x, lo]) s) [x]) with
    | [] => stepV Y 0 dst (.slice t x (some lo) none none) (evU (tmpsOf [x, lo]) s) (lookM []) (lookM [])
    | fz => match stepV Y 0 dst (.slice t x (some lo) none none) (evU (tmpsOf [x, lo]) s) (upd fz (lookM [])) (upd fz (lookM [])) with
     | some ⟨s, v, ms⟩ => some ⟨s, v, mrg ms fz⟩
     | none => none) = _
   have hrf : refsOf (evU (tmpsOf [x, lo]) s) [x] = [] := by simp [refsOf, e1, lit, DV.refs]
   rw [hrf]; rfl
  show (match effV Y 0 dst (.slice t x (some lo) none none) (evU (tmpsOf [x, lo]) s) (lookM []) with | some ⟨true, v, m⟩ => some (v, m) | _ => none) = _
  rw [hv, e1, e2]
  have hq : sliceW Y t (lookM []) (lit (.string (bsO a))) (some (lit (.int k n))) none none = some (true, lit (.string (bsO (a.drop i)))) := by
   show sliceQ Y t (lookM []) (lit (.string (bsO a))) (some (lit (.int k n))) none none = _
   unfold sliceQ lit
   simp only [hu, bound, Option.getD_some, Option.getD_none]
   subst hn
   have : decide ((0 : Int) ≤ (i : Int) ∧ (i : Int) ≤ ((bsO a).size : Int) ∧ ((bsO a).size : Int) ≤ ((bsO a).size : Int)) = true := decide_eq_true ⟨by omega, by rw [bsO_size]; omega, by omega⟩
   rw [this, Int.toNat_natCast, Int.toNat_natCast, bsO_extract, bsO_size, List.take_of_length_le (Nat.le_refl _)]
  rw [hq]; rfl
theorem Body.slMB {lo hi : Operand} {k k' : IntKind} {n m : Int} {i j : Nat} (hx : ev1 s x = lit (.string (bsO a))) (hy : ev1 s lo = lit (.int k n)) (hz : ev1 s hi = lit (.int k' m)) (hu : Y.underlying t = some .string) (hn : n = (i : Int)) (hm : m = (j : Int)) (hij : i ≤ j) (hj : j ≤ a.length) :
 Body P Y nb s ⟨dst, .slice t x (some lo) (some hi) none, ty, pos, af, gd⟩ (lit (.string (bsO ((a.take j).drop i)))) [] [] := by
 refine Body.pure (lo := 0) (nm := 0) (O0_ok P) ?_ ?_
 ·intro z hz'
  have : z = x ∨ z = lo ∨ z = hi := by simpa [Op.operands] using hz'
  rcases this with rfl | rfl | rfl
  ·rw [hx]; rfl
  ·rw [hy]; rfl
  ·rw [hz]; rfl
 ·have e1 : evU (tmpsOf [x, lo, hi]) s x = _ := (evU_own (by simp)).trans hx
  have e2 : evU (tmpsOf [x, lo, hi]) s lo = _ := (evU_own (by simp)).trans hy
  have e3 : evU (tmpsOf [x, lo, hi]) s hi = _ := (evU_own (by simp)).trans hz
  have hv : effV Y 0 dst (.slice t x (some lo) (some hi) none) (evU (tmpsOf [x, lo, hi]) s) (lookM []) = liftQ (sliceW Y t (lookM []) (evU (tmpsOf [x, lo, hi]) s x) (some (evU (tmpsOf [x, lo, hi]) s lo)) (some (evU (tmpsOf [x, lo, hi]) s hi)) none) := by
   show (match frzU (lookM []) (refsOf (evU (tmpsOf [x, lo, hi]) s) [x]) with
    | [] => stepV Y 0 dst (.slice t x (some lo) (some hi) none) (evU (tmpsOf [x, lo, hi]) s) (lookM []) (lookM [])
    | fz => match stepV Y 0 dst (.slice t x (some lo) (some hi) none) (evU (tmpsOf [x, lo, hi]) s) (upd fz (lookM [])) (upd fz (lookM [])) with
     | some ⟨s, v, ms⟩ => some ⟨s, v, mrg ms fz⟩
     | none => none) = _
   have hrf : refsOf (evU (tmpsOf [x, lo, hi]) s) [x] = [] := by simp [refsOf, e1, lit, DV.refs]
   rw [hrf]; rfl
  show (match effV Y 0 dst (.slice t x (some lo) (some hi) none) (evU (tmpsOf [x, lo, hi]) s) (lookM []) with | some ⟨true, v, m⟩ => some (v, m) | _ => none) = _
  rw [hv, e1, e2, e3]
  have hq : sliceW Y t (lookM []) (lit (.string (bsO a))) (some (lit (.int k n))) (some (lit (.int k' m))) none = some (true, lit (.string (bsO ((a.take j).drop i)))) := by
   show sliceQ Y t (lookM []) (lit (.string (bsO a))) (some (lit (.int k n))) (some (lit (.int k' m))) none = _
   unfold sliceQ lit
   simp only [hu, bound, Option.getD_some]
   subst hn; subst hm
   have : decide ((0 : Int) ≤ (i : Int) ∧ (i : Int) ≤ (j : Int) ∧ (j : Int) ≤ ((bsO a).size : Int)) = true := decide_eq_true ⟨by omega, by omega, by rw [bsO_size]; omega⟩
   rw [this, Int.toNat_natCast, Int.toNat_natCast, bsO_extract]
  rw [hq]; rfl
theorem Body.st2neq {a b c d : List UInt8} (hx : ev1 s x = .pv (.agg [.lit (.string (bsO a)), .lit (.string (bsO b))])) (hy : ev1 s y = .pv (.agg [.lit (.string (bsO c)), .lit (.string (bsO d))])) (hf : flatEq Y t = some [.string, .string]) :
 Body P Y nb s ⟨dst, .binOp .neq t x y u, ty, pos, af, gd⟩ (lit (.bool (!(decide (a = c) && decide (b = d))))) [] [] := by
 refine Body.bin hx hy ?_
 have h1 : decide (a = c) = ((bsO a).toList == (bsO c).toList) := by rw [Bool.eq_iff_iff]; simp [toList_inj, bsO_inj]
 have h2 : decide (b = d) = ((bsO b).toList == (bsO d).toList) := by rw [Bool.eq_iff_iff]; simp [toList_inj, bsO_inj]
 have h3 : binQ Y .neq t (.pv (.agg [.lit (.string (bsO a)), .lit (.string (bsO b))])) (.pv (.agg [.lit (.string (bsO c)), .lit (.string (bsO d))])) = some (true, lit (.bool (!(decide (a = c) && decide (b = d))))) := by
  simp only [binQ, hf, eqVs, eqV, h1, h2, Bool.and_true]
 show qE (binW Y .neq t (lookM []) (isNilC y) _ _) = _
 have h4 : binW Y .neq t (lookM []) (isNilC y) (.pv (.agg [.lit (.string (bsO a)), .lit (.string (bsO b))])) (.pv (.agg [.lit (.string (bsO c)), .lit (.string (bsO d))])) = some (true, lit (.bool (!(decide (a = c) && decide (b = d))))) := by
  unfold binW
  simp only [nilQ, nilKind, samePQ, h3]
 rw [h4]; rfl
theorem Body.slDL {α : Type} {enc : α → List PV} {l : List α} {lo : Operand} {k : IntKind} {n : Int} {i : Nat} {e : TypeId} {sz : Nat} (hx : ev1 s x = .pv (.slice (l.map enc))) (hy : ev1 s lo = lit (.int k n)) (hu : Y.underlying t = some (.slice e)) (hs : szT Y e = some sz) (hsz : ∀ a, (enc a).length = sz) (hn : n = (i : Int)) (hi : i ≤ l.length) :
 Body P Y nb s ⟨dst, .slice t x (some lo) none none, ty, pos, af, gd⟩ (.pv (.slice ((l.drop i).map enc))) [] [] := by
 refine Body.pure (lo := 0) (nm := 0) (O0_ok P) ?_ ?_
 ·intro z hz
  have : z = x ∨ z = lo := by simpa [Op.operands] using hz
  rcases this with rfl | rfl
  ·rw [hx]; rfl
  ·rw [hy]; rfl
 ·have e1 : evU (tmpsOf [x, lo]) s x = _ := (evU_own (by simp)).trans hx
  have e2 : evU (tmpsOf [x, lo]) s lo = _ := (evU_own (by simp)).trans hy
  have hv : effV Y 0 dst (.slice t x (some lo) none none) (evU (tmpsOf [x, lo]) s) (lookM []) = liftQ (sliceW Y t (lookM []) (evU (tmpsOf [x, lo]) s x) (some (evU (tmpsOf [x, lo]) s lo)) none none) := by
   show (match frzU (lookM []) (refsOf (evU (tmpsOf [x, lo]) s) [x]) with
    | [] => stepV Y 0 dst (.slice t x (some lo) none none) (evU (tmpsOf [x, lo]) s) (lookM []) (lookM [])
    | fz => match stepV Y 0 dst (.slice t x (some lo) none none) (evU (tmpsOf [x, lo]) s) (upd fz (lookM [])) (upd fz (lookM [])) with
     | some ⟨s, v, ms⟩ => some ⟨s, v, mrg ms fz⟩
     | none => none) = _
   have hrf : refsOf (evU (tmpsOf [x, lo]) s) [x] = [] := by simp [refsOf, e1, DV.refs]
   rw [hrf]; rfl
  show (match effV Y 0 dst (.slice t x (some lo) none none) (evU (tmpsOf [x, lo]) s) (lookM []) with | some ⟨true, v, m⟩ => some (v, m) | _ => none) = _
  rw [hv, e1, e2]
  have hal : allLen sz (l.map enc) = true := by
   unfold allLen
   rw [List.all_eq_true]
   intro b hb
   obtain ⟨c, _, rfl⟩ := List.mem_map.1 hb
   simpa using hsz c
  have hq : sliceW Y t (lookM []) (.pv (.slice (l.map enc))) (some (lit (.int k n))) none none = some (true, .pv (.slice ((l.drop i).map enc))) := by
   show sliceQ Y t (lookM []) (.pv (.slice (l.map enc))) (some (lit (.int k n))) none none = _
   unfold sliceQ lit
   simp only [hu, hs, bound, Option.getD_none, hal, Bool.and_true]
   subst hn
   have : decide ((0 : Int) ≤ (i : Int) ∧ (i : Int) ≤ ((l.map enc).length : Int) ∧ ((l.map enc).length : Int) ≤ ((l.map enc).length : Int)) = true := decide_eq_true ⟨by omega, by rw [List.length_map]; omega, by omega⟩
   rw [this, Int.toNat_natCast, Int.toNat_natCast, List.take_of_length_le (Nat.le_refl _), List.map_drop]
  rw [hq]; rfl
end
end Go.Lens
end
section
namespace Go.Lens.Tb
open Go.Proofs
variable [Lz]
set_option linter.unusedSectionVars false
set_option maxRecDepth 100000
attribute [local irreducible] TK PK T RG EfR Body
theorem ag34 : aggT tab 34 = some false := by kernel_rfl
theorem sz34 : szT tab 34 = some 1 := by kernel_rfl
theorem un289 : tab.underlying 289 = some (.slice 34) := by kernel_rfl
theorem w101 (b : Bool) (e : Int) : CallOk Tryz.prog 101 [vB b, vI e] (lookM []) (vI (whenF b e)) [] := by
 haveI := tab_ok
 obtain ⟨fn, f1, f2, f3, f4, _, f6⟩ := qf101
 refine callOk_of (Y := tab) (F := fn101) f1 (f2.trans rfl) f3 f4 f6 (Nat.le_of_ble_eq_true rfl) rfl ?_
 clear f1 f2 f3 f4 f6
 show TK _ _ _ _ _ _ ⟨[(0, vB b), (1, vI e)], []⟩
 refine At rfl ?_
 refine NR ⟨[(0, vB b), (1, vI e)], []⟩ (sb rfl rfl rfl) rfl ?_
 refine ag rfl ?_
 refine RN ?_
 refine Ap rfl ?_
 refine NR ⟨[(0, vB b), (1, vI e)], []⟩ (sb rfl rfl rfl) rfl ?_
 refine mv rfl ?_
 refine RN ?_
 refine Ap rfl ?_
 refine TK.norm ⟨[(1, vI e), (5, vB b)], []⟩ (sb rfl rfl rfl) ?_
 refine TK.cond rfl (fun h1 => ?_) (fun h1 => ?_)
 ·
  refine At rfl ?_
  refine NR ⟨[(1, vI e)], []⟩ (sb rfl rfl rfl) rfl ?_
  refine mv rfl ?_
  refine ag rfl ?_
  refine RN ?_
  refine Ap rfl ?_
  refine TK.ret ?_
  refine PK.ret ?_
  refine leaf (val0 := vI e) (by kernel_rfl) ?_
  exact li (by subst h1; rfl)
 ·
  refine At rfl ?_
  refine NR ⟨[], []⟩ (sb rfl rfl rfl) rfl ?_
  refine ag rfl ?_
  refine RN ?_
  refine Ap rfl ?_
  refine TK.ret ?_
  refine PK.ret ?_
  refine leaf (val0 := vI 0) (by kernel_rfl) ?_
  exact li (by subst h1; rfl)
theorem w100 (l : List Int) (hl : l.length ≤ 1000000000000000) : CallOk Tryz.prog 100 [vL eI l] (lookM []) (vI (firstF l)) [] := by
 haveI := tab_ok
 obtain ⟨fn, f1, f2, f3, f4, _, f6⟩ := qf100
 refine callOk_of (Y := tab) (F := fn100) f1 (f2.trans rfl) f3 f4 f6 (Nat.le_of_ble_eq_true rfl) rfl ?_
 clear f1 f2 f3 f4 f6
 show TK _ _ _ _ _ _ ⟨[(0, vL eI l)], []⟩
 refine At rfl ?_
 refine NR ⟨[(0, vL eI l)], []⟩ (sb rfl rfl rfl) rfl ?_
 refine ag rfl ?_
 refine RN ?_
 refine Ap rfl ?_
 refine NR ⟨[(0, vL eI l)], []⟩ (sb rfl rfl rfl) rfl ?_
 refine mv rfl ?_
 refine RO (Body.lenL rfl un289) ?_
 refine mv rfl ?_
 refine RN ?_
 refine Ap rfl ?_
 refine TK.loop (α := Nat) (fun x => ⟨[(5, vL eI l), (6, vI ((List.length l : Nat) : Int)), (7, vI ((x : Nat) : Int))], []⟩) (fun x => x ≤ List.length l ∧ firstF l = firstF (List.drop x l)) (fun x => List.length l - x) 0 ?_ (sb rfl rfl rfl) ?_
 · show 0 ≤ List.length l ∧ firstF l = firstF (List.drop 0 l)
   exact ⟨Nat.zero_le _, rfl⟩
 rintro k hI0
 replace hI0 : k ≤ List.length l ∧ firstF l = firstF (List.drop k l) := hI0
 show TK _ _ _ _ _ _ ⟨[(5, vL eI l), (6, vI ((List.length l : Nat) : Int)), (7, vI ((k : Nat) : Int))], []⟩
 refine At rfl ?_
 refine NR ⟨[(5, vL eI l), (6, vI ((List.length l : Nat) : Int)), (7, vI ((k : Nat) : Int))], []⟩ (sb rfl rfl rfl) rfl ?_
 refine RO (Body.lss rfl rfl) ?_
 refine RN ?_
 refine Ap rfl ?_
 refine TK.norm ⟨[(5, vL eI l), (6, vI ((List.length l : Nat) : Int)), (7, vI ((k : Nat) : Int)), (8, vB (decide (((k : Nat) : Int) < ((List.length l : Nat) : Int))))], []⟩ (sb rfl rfl rfl) ?_
 refine TK.condP rfl (fun h1 => ?_) (fun h1 => ?_)
 ·
  refine At rfl ?_
  refine NR ⟨[(5, vL eI l), (6, vI ((List.length l : Nat) : Int)), (7, vI ((k : Nat) : Int))], []⟩ (sb rfl rfl rfl) rfl ?_
  refine RO (Body.idx (z := 0) (i := k) rfl rfl un289 sz34 (fun _ => rfl) rfl (by omega)) ?_
  refine RO (Body.loadP rfl ag34 sz34) ?_
  refine ag rfl ?_
  refine RN ?_
  refine Ap rfl ?_
  refine NR ⟨[(4, vI (List.getD l k 0)), (5, vL eI l), (6, vI ((List.length l : Nat) : Int)), (7, vI ((k : Nat) : Int))], []⟩ (sb rfl rfl rfl) rfl ?_
  refine mv rfl ?_
  refine RO (Body.neq rfl rfl) ?_
  refine RN ?_
  refine Ap rfl ?_
  refine TK.norm ⟨[(4, vI (List.getD l k 0)), (5, vL eI l), (6, vI ((List.length l : Nat) : Int)), (7, vI ((k : Nat) : Int)), (12, vB (decide ((List.getD l k 0) ≠ 0)))], []⟩ (sb rfl rfl rfl) ?_
  refine TK.condP rfl (fun h2 => ?_) (fun h2 => ?_)
  ·
   refine At rfl ?_
   refine NR ⟨[(4, vI (List.getD l k 0))], []⟩ (sb rfl rfl rfl) rfl ?_
   refine mv rfl ?_
   refine ag rfl ?_
   refine RN ?_
   refine Ap rfl ?_
   refine TK.ret ?_
   refine PK.ret ?_
   refine leaf (val0 := vI (List.getD l k 0)) (by kernel_rfl) ?_
   exact li (by first | (rw [hI0.2, drop_at l k 0 (by omega), firstF, if_neg (by omega)]) | (rw [hI0.2, List.drop_eq_nil_of_le (by omega)]; rfl))
  ·
   refine At rfl ?_
   refine NR ⟨[(5, vL eI l), (6, vI ((List.length l : Nat) : Int)), (7, vI ((k : Nat) : Int))], []⟩ (sb rfl rfl rfl) rfl ?_
   refine RO (Body.add rfl rfl (by unfold R64; omega)) ?_
   refine mv rfl ?_
   refine RN ?_
   refine Aq rfl ?_
   refine PK.lp ?_
   refine LP.mk (k + 1) ?_ ?_ (sb rfl rfl rfl)
   · show (k + 1) ≤ List.length l ∧ firstF l = firstF (List.drop (k + 1) l)
     refine ⟨by omega, ?_⟩; rw [hI0.2, drop_at l k 0 (by omega), firstF, if_pos (by omega)]
   · show List.length l - (k + 1) < List.length l - k
     omega
 ·
  refine At rfl ?_
  refine TK.exit ?_
  refine PK.exit rfl ?_
  refine Ap rfl ?_
  refine NR ⟨[], []⟩ (sb rfl rfl rfl) rfl ?_
  refine ag rfl ?_
  refine RN ?_
  refine Ap rfl ?_
  refine TK.ret ?_
  refine PK.ret ?_
  refine leaf (val0 := vI 0) (by kernel_rfl) ?_
  exact li (by first | (rw [hI0.2, drop_at l k 0 (by omega), firstF, if_neg (by omega)]) | (rw [hI0.2, List.drop_eq_nil_of_le (by omega)]; rfl))
end Go.Lens.Tb
end
section
namespace Go.Lens.Tb
set_option linter.unusedSectionVars false
theorem bnot_t {b : Bool} (h : (!b) = true) : b = false := by cases b <;> first | rfl | cases h
theorem bnot_f {b : Bool} (h : (!b) = false) : b = true := by cases b <;> first | rfl | cases h
def letterF (c : Int) : Bool := (decide (97 ≤ c) && decide (c ≤ 122)) || (decide (65 ≤ c) && decide (c ≤ 90))
def nameAt (i : Nat) (c : Int) : Bool := letterF c || (!decide ((i : Int) = 0) && ((decide (48 ≤ c) && decide (c ≤ 57)) || decide (c = 95)))
def isNameF (s : ByteArray) : Bool := decide (1 ≤ s.size) && decide (s.size ≤ 24) && (List.range s.size).all fun i => nameAt i (byteAt s i)
theorem nm8 : ∀ a b c d z e f g : Bool, (bif !(bif (bif a then b else false) then true else (bif c then d else false)) then (bif z then true else !(bif (bif e then f else false) then true else g)) else false) = !(((a && b) || (c && d)) || (!z && ((e && f) || g))) := by decide
theorem isName_no {s : ByteArray} (k : Nat) (hk : k < s.size) (h : nameAt k (byteAt s k) = false) : isNameF s = false := by
  unfold isNameF
  have : ((List.range s.size).all fun i => nameAt i (byteAt s i)) = false := by
    rw [List.all_eq_false]
    exact ⟨k, List.mem_range.2 hk, by simp [h]⟩
  rw [this, Bool.and_false]
theorem isName_yes {s : ByteArray} (h1 : 1 ≤ s.size) (h2 : s.size ≤ 24) (h : ∀ j, j < s.size → nameAt j (byteAt s j) = true) : isNameF s = true := by
  unfold isNameF
  rw [decide_eq_true h1, decide_eq_true h2]
  simp only [Bool.true_and, List.all_eq_true, List.mem_range]
  exact h
theorem isName_len {s : ByteArray} (h : s.size < 1 ∨ 24 < s.size) : isNameF s = false := by
  unfold isNameF
  rcases h with h | h
  · rw [decide_eq_false (by omega)]; simp
  · rw [decide_eq_false (p := s.size ≤ 24) (by omega)]; simp
def findI {α : Type} (p : α → Bool) : List α → Int
  | [] => -1
  | a :: l => bif p a then 0 else (bif decide (findI p l < 0) then -1 else findI p l + 1)
section
variable {α : Type} {p : α → Bool} {z : α}
theorem findI_none : ∀ {l : List α}, (∀ j, j < l.length → p (l.getD j z) = false) → findI p l = -1
  | [], _ => rfl
  | a :: l, h => by
    have h0 := h 0 (by simp)
    have h1 := findI_none (l := l) fun j hj => h (j + 1) (by simpa using hj)
    simp only [List.getD_cons_zero] at h0
    simp [findI, h0, h1]
theorem findI_some : ∀ {l : List α} (k : Nat), k < l.length → (∀ j, j < k → p (l.getD j z) = false) → p (l.getD k z) = true → findI p l = k
  | [], k, hk, _, _ => by simp at hk
  | a :: l, 0, _, _, h => by
    simp only [List.getD_cons_zero] at h
    simp [findI, h]
  | a :: l, k + 1, hk, hj, h => by
    have h0 := hj 0 (by omega)
    have h1 := findI_some (l := l) k (by simpa using hk) (fun j hj' => hj (j + 1) (by omega)) h
    simp only [List.getD_cons_zero] at h0
    simp only [findI, h0, h1, cond_false]
    rw [decide_eq_false (by omega)]; simp
theorem findI_nonneg : ∀ (l : List α), decide (0 ≤ findI p l) = l.any p
  | [] => rfl
  | a :: l => by
    have ih := findI_nonneg l
    simp only [findI, List.any_cons]
    by_cases hp : p a = true
    · simp only [hp, cond_true, Bool.true_or]; rfl
    · rw [Bool.not_eq_true] at hp
      simp only [hp, cond_false, Bool.false_or]
      rw [← ih]
      by_cases h : findI p l < 0
      · rw [decide_eq_true h, decide_eq_false (p := 0 ≤ findI p l) (by omega)]; rfl
      · rw [decide_eq_false h, decide_eq_true (p := 0 ≤ findI p l) (by omega)]
        exact decide_eq_true (by simp only [cond_false]; omega)
end
theorem any_getD_none {α : Type} {p : α → Bool} {l : List α} (z : α) (h : ∀ j, j < l.length → p (l.getD j z) = false) : l.any p = false := by
  rw [List.any_eq_false]
  intro a ha
  obtain ⟨j, hj, rfl⟩ := List.getElem_of_mem ha
  have := h j hj
  rw [List.getD_eq_getElem?_getD, List.getElem?_eq_getElem hj] at this
  simpa using this
def inRangeF (t : Tgt) : Bool := !outF t.bright 1 1000 && !outF t.place 0 360 && !outF t.length 1 1440 && !outF t.from_ 0 1440 && !outF t.to 0 1440 && !outF t.limit 0 100
def chkNightF (start : Int) (W : List Int) : Int := bif outF start 0 1440 then 3 else bif decide (W.length = 0) then 12 else bif decide (24 < W.length) then 5 else bif W.any (fun x => outF x 0 100) then 3 else 0
def chkOne (pre : List Tgt) (t : Tgt) : Int := bif !isNameF t.name then 8 else bif pre.any (fun o => decide (o.name = t.name)) then 9 else bif !inRangeF t then 3 else 0
def chkGo : List Tgt → List Tgt → Int
  | _, [] => 0
  | pre, t :: r => if chkOne pre t = 0 then chkGo (pre ++ [t]) r else chkOne pre t
def chkTgtsF (l : List Tgt) : Int := bif decide (32 < l.length) then 5 else chkGo [] l
def ordOne (n : Int) (pre : List Int) (i : Int) : Int := bif outF i 0 (n - 1) then 10 else bif pre.any (fun j => decide (j = i)) then 9 else 0
def ordGo (n : Int) : List Int → List Int → Int
  | _, [] => 0
  | pre, t :: r => if ordOne n pre t = 0 then ordGo n (pre ++ [t]) r else ordOne n pre t
def chkOrdF (n : Int) (o : List Int) : Int := ordGo n [] o
def calmM (W : List Int) (lim b : Int) (n : Nat) : Bool := (List.range n).all fun j => decide (W.getD ((b + (j : Int)) / 60).toNat 0 ≤ lim)
def canF (W : List Int) (t : Tgt) (b : Int) : Bool := !(decide (b < t.from_)) && !(decide (t.to < b + t.length)) && !(decide (60 * (W.length : Int) < b + t.length)) && calmM W t.limit b t.length.toNat
def searchF (p : Int → Bool) (b : Int) : Nat → Int
  | 0 => -1
  | n + 1 => bif p b then b else searchF p (b + 1) n
def begF (W : List Int) (t : Tgt) (e : Int) : Int := searchF (canF W t) e (1441 - e).toNat
def shortN (W : List Int) : Bool := decide ((W.length : Int) ≤ 6) || (decide (24 < (W.length : Int)) && decide ((W.length : Int) ≤ 26))
def shortT (l : List Tgt) (k limit : Int) : Bool := bif ((decide (k < (l.length : Int)) && decide ((l.length : Int) ≤ limit)) || decide (34 < (l.length : Int))) then false else l.all fun t => decide (t.name.size ≤ 40)
def tlGo (W : List Int) (l : List Tgt) : Option Tgt → Int → List Int → Option (List Int)
  | _, _, [] => some []
  | prev, at_, i :: r =>
    let t := l.getD i.toNat default
    let b := begF W t (match prev with | none => at_ | some p => at_ + apartF t.place p.place)
    if b < 0 then none else (tlGo W l (some t) (b + t.length) r).map (b :: ·)
def tlF (start : Int) (W : List Int) (l : List Tgt) (order : List Int) : Option (List Int) := tlGo W l none start order
end Go.Lens.Tb
end
section
namespace Go.Lens.Tb
open Go.Proofs
variable [Lz]
set_option linter.unusedSectionVars false
set_option maxRecDepth 100000
attribute [local irreducible] TK PK T RG EfR Body
theorem un9 : tab.underlying 9 = some (.string) := by kernel_rfl
theorem w94 (s : ByteArray) : CallOk Tryz.prog 94 [vS s] (lookM []) (vB (isNameF s)) [] := by
 haveI := tab_ok
 obtain ⟨fn, f1, f2, f3, f4, _, f6⟩ := qf94
 refine callOk_of (Y := tab) (F := fn94) f1 (f2.trans rfl) f3 f4 f6 (Nat.le_of_ble_eq_true rfl) rfl ?_
 clear f1 f2 f3 f4 f6
 show TK _ _ _ _ _ _ ⟨[(0, vS s)], []⟩
 refine At rfl ?_
 refine NR ⟨[(0, vS s)], []⟩ (sb rfl rfl rfl) rfl ?_
 refine ag rfl ?_
 refine RN ?_
 refine Ap rfl ?_
 refine NR ⟨[(0, vS s)], []⟩ (sb rfl rfl rfl) rfl ?_
 refine mv rfl ?_
 refine RO (Body.lenS rfl un9) ?_
 refine RO (Body.lss rfl rfl) ?_
 refine mv rfl ?_
 refine RG.cons (EfR.sym rfl (fun hc => Body.move rfl) rfl) ?_
 refine RG.cons (EfR.sym rfl (fun hc => Body.lenS (ev1_gd rfl hc) un9) rfl) ?_
 refine RG.cons (EfR.sym rfl (fun hc => Body.gtr (ev1_gd rfl hc) rfl) rfl) ?_
 refine RO (Body.pick rfl rfl rfl rfl (gdB rfl) (pick_or _)) ?_
 refine RN ?_
 refine Ap rfl ?_
 refine TK.norm ⟨[(0, vS s), (13, vB (bif (decide (((ByteArray.size s : Nat) : Int) < 1)) then true else (decide (24 < ((ByteArray.size s : Nat) : Int)))))], []⟩ (sb rfl rfl rfl) ?_
 refine TK.cond rfl (fun h1 => ?_) (fun h1 => ?_)
 ·
  refine At rfl ?_
  refine NR ⟨[], []⟩ (sb rfl rfl rfl) rfl ?_
  refine ag rfl ?_
  refine RN ?_
  refine Ap rfl ?_
  refine TK.ret ?_
  refine PK.ret ?_
  refine leaf (val0 := vB false) (by kernel_rfl) ?_
  exact lb (by first | (refine (isName_len ?_).symm; simp only [bif_or, Bool.or_eq_true, decide_eq_true_eq] at h1; omega) | (exact (isName_no k (by omega) (bnot_t ((nm8 _ _ _ _ _ _ _ _).symm.trans h3))).symm) | exact (isName_yes hI0.2.1 hI0.2.2.1 fun j hj => hI0.2.2.2 j (by omega)).symm)
 ·
  refine At rfl ?_
  refine NR ⟨[(0, vS s)], []⟩ (sb rfl rfl rfl) rfl ?_
  refine ag rfl ?_
  refine RN ?_
  refine Ap rfl ?_
  refine TK.loop (α := Nat) (fun x => ⟨[(0, vS s), (3, vI ((x : Nat) : Int))], []⟩) (fun x => x ≤ ByteArray.size s ∧ 1 ≤ ByteArray.size s ∧ ByteArray.size s ≤ 24 ∧ ∀ j, j < x → nameAt j (byteAt s j) = true) (fun x => ByteArray.size s - x) 0 ?_ (sb rfl rfl rfl) ?_
  · show 0 ≤ ByteArray.size s ∧ 1 ≤ ByteArray.size s ∧ ByteArray.size s ≤ 24 ∧ ∀ j, j < 0 → nameAt j (byteAt s j) = true
    simp only [bif_or, Bool.or_eq_false_iff, decide_eq_false_iff_not] at h1; exact ⟨by omega, by omega, by omega, fun j hj => by omega⟩
  rintro k hI0
  replace hI0 : k ≤ ByteArray.size s ∧ 1 ≤ ByteArray.size s ∧ ByteArray.size s ≤ 24 ∧ ∀ j, j < k → nameAt j (byteAt s j) = true := hI0
  show TK _ _ _ _ _ _ ⟨[(0, vS s), (3, vI ((k : Nat) : Int))], []⟩
  refine At rfl ?_
  refine NR ⟨[(0, vS s), (3, vI ((k : Nat) : Int))], []⟩ (sb rfl rfl rfl) rfl ?_
  refine mv rfl ?_
  refine mv rfl ?_
  refine RO (Body.lenS rfl un9) ?_
  refine RO (Body.lss rfl rfl) ?_
  refine RN ?_
  refine Ap rfl ?_
  refine TK.norm ⟨[(0, vS s), (3, vI ((k : Nat) : Int)), (17, vB (decide (((k : Nat) : Int) < ((ByteArray.size s : Nat) : Int))))], []⟩ (sb rfl rfl rfl) ?_
  refine TK.condP rfl (fun h2 => ?_) (fun h2 => ?_)
  ·
   refine At rfl ?_
   refine NR ⟨[(0, vS s), (3, vI ((k : Nat) : Int))], []⟩ (sb rfl rfl rfl) rfl ?_
   refine mv rfl ?_
   refine mv rfl ?_
   refine RO (Body.sidx (i := k) rfl rfl un9 rfl (by omega)) ?_
   refine ag rfl ?_
   refine RN ?_
   refine Ap rfl ?_
   refine NR ⟨[(0, vS s), (3, vI ((k : Nat) : Int)), (4, .pv (.lit (.int .u8 (byteAt s k))))], []⟩ (sb rfl rfl rfl) rfl ?_
   refine mv rfl ?_
   refine RO (Body.geq rfl rfl) ?_
   refine mv rfl ?_
   refine RG.cons (EfR.sym rfl (fun hc => Body.move rfl) rfl) ?_
   refine RG.cons (EfR.sym rfl (fun hc => Body.leq (ev1_gd rfl hc) rfl) rfl) ?_
   refine RO (Body.pick rfl rfl rfl (gdB rfl) rfl (pick_and _)) ?_
   refine mv rfl ?_
   refine RG.cons (EfR.sym rfl (fun hc => Body.move rfl) rfl) ?_
   refine RG.cons (EfR.sym rfl (fun hc => Body.geq (ev1_gd rfl hc) rfl) rfl) ?_
   refine RG.cons (EfR.sym rfl (fun hc => Body.move (ev1_gd rfl hc)) rfl) ?_
   refine RG.cons (EfR.sym rfl (fun hc => Body.move rfl) rfl) ?_
   refine RG.cons (EfR.sym rfl (fun hc => Body.leq (ev1_gd rfl hc) rfl) rfl) ?_
   refine RG.cons (EfR.sym rfl (fun hc => Body.pick (ev1_gd rfl hc) rfl rfl (gdB rfl) rfl (pick_and2 hc)) rfl) ?_
   refine RO (Body.pick rfl rfl rfl rfl (gdB rfl) (pick_or _)) ?_
   refine ag rfl ?_
   refine RN ?_
   refine Ap rfl ?_
   refine NR ⟨[(0, vS s), (3, vI ((k : Nat) : Int)), (4, .pv (.lit (.int .u8 (byteAt s k)))), (5, vB (bif (bif (decide (97 ≤ (byteAt s k))) then (decide ((byteAt s k) ≤ 122)) else false) then true else (bif (decide (65 ≤ (byteAt s k))) then (decide ((byteAt s k) ≤ 90)) else false)))], []⟩ (sb rfl rfl rfl) rfl ?_
   refine mv rfl ?_
   refine RO (Body.not rfl) ?_
   refine mv rfl ?_
   refine RG.cons (EfR.sym rfl (fun hc => Body.move rfl) rfl) ?_
   refine RG.cons (EfR.sym rfl (fun hc => Body.eql (ev1_gd rfl hc) rfl) rfl) ?_
   refine RG.cons (EfR.sym rfl (fun hc => Body.move (ev1_gd rfl hc)) rfl) ?_
   refine RG.cons (EfR.sym rfl (fun hc => Body.move rfl) rfl) ?_
   refine RG.cons (EfR.sym rfl (fun hc => Body.geq (ev1_gd rfl hc) rfl) rfl) ?_
   refine RG.cons (EfR.sym rfl (fun hc => Body.move (ev1_gd rfl hc)) rfl) ?_
   refine RG.cons (EfR.sym rfl (fun hc => Body.move rfl) rfl) ?_
   refine RG.cons (EfR.sym rfl (fun hc => Body.leq (ev1_gd rfl hc) rfl) rfl) ?_
   refine RG.cons (EfR.sym rfl (fun hc => Body.pick (ev1_gd rfl hc) rfl rfl (gdB rfl) rfl (pick_and2 hc)) rfl) ?_
   refine RG.cons (EfR.sym rfl (fun hc => Body.move (ev1_gd rfl hc)) rfl) ?_
   refine RG.cons (EfR.sym rfl (fun hc => Body.move rfl) rfl) ?_
   refine RG.cons (EfR.sym rfl (fun hc => Body.eql (ev1_gd rfl hc) rfl) rfl) ?_
   refine RG.cons (EfR.sym rfl (fun hc => Body.pick (ev1_gd rfl hc) rfl rfl rfl (gdB rfl) (pick_or2 hc)) rfl) ?_
   refine RG.cons (EfR.sym rfl (fun hc => Body.not (ev1_gd rfl hc)) rfl) ?_
   refine RG.cons (EfR.sym rfl (fun hc => Body.pick (ev1_gd rfl hc) rfl rfl rfl (gdB rfl) (pick_or2 hc)) rfl) ?_
   refine RO (Body.pick rfl rfl rfl (gdB rfl) rfl (pick_and _)) ?_
   refine RN ?_
   refine Ap rfl ?_
   refine TK.norm ⟨[(0, vS s), (3, vI ((k : Nat) : Int)), (55, vB (bif (!(bif (bif (decide (97 ≤ (byteAt s k))) then (decide ((byteAt s k) ≤ 122)) else false) then true else (bif (decide (65 ≤ (byteAt s k))) then (decide ((byteAt s k) ≤ 90)) else false))) then (bif (decide (((k : Nat) : Int) = 0)) then true else (!(bif (bif (decide (48 ≤ (byteAt s k))) then (decide ((byteAt s k) ≤ 57)) else false) then true else (decide ((byteAt s k) = 95))))) else false))], []⟩ (sb rfl rfl rfl) ?_
   refine TK.cond rfl (fun h3 => ?_) (fun h3 => ?_)
   ·
    refine At rfl ?_
    refine NR ⟨[], []⟩ (sb rfl rfl rfl) rfl ?_
    refine ag rfl ?_
    refine RN ?_
    refine Ap rfl ?_
    refine TK.ret ?_
    refine PK.ret ?_
    refine leaf (val0 := vB false) (by kernel_rfl) ?_
    exact lb (by first | (refine (isName_len ?_).symm; simp only [bif_or, Bool.or_eq_true, decide_eq_true_eq] at h1; omega) | (exact (isName_no k (by omega) (bnot_t ((nm8 _ _ _ _ _ _ _ _).symm.trans h3))).symm) | exact (isName_yes hI0.2.1 hI0.2.2.1 fun j hj => hI0.2.2.2 j (by omega)).symm)
   ·
    refine At rfl ?_
    refine NR ⟨[(0, vS s), (3, vI ((k : Nat) : Int))], []⟩ (sb rfl rfl rfl) rfl ?_
    refine mv rfl ?_
    refine RO (Body.add rfl rfl (by unfold R64; omega)) ?_
    refine ag rfl ?_
    refine RN ?_
    refine Aq rfl ?_
    refine PK.lp ?_
    refine LP.mk (k + 1) ?_ ?_ (sb rfl rfl rfl)
    · show (k + 1) ≤ ByteArray.size s ∧ 1 ≤ ByteArray.size s ∧ ByteArray.size s ≤ 24 ∧ ∀ j, j < (k + 1) → nameAt j (byteAt s j) = true
      refine ⟨by omega, hI0.2.1, hI0.2.2.1, fun j hj => ?_⟩; rcases Nat.lt_succ_iff_lt_or_eq.1 hj with h | h; exact hI0.2.2.2 j h; subst h; exact bnot_f ((nm8 _ _ _ _ _ _ _ _).symm.trans h3)
    · show ByteArray.size s - (k + 1) < ByteArray.size s - k
      omega
  ·
   refine At rfl ?_
   refine TK.exit ?_
   refine PK.exit rfl ?_
   refine Ap rfl ?_
   refine NR ⟨[], []⟩ (sb rfl rfl rfl) rfl ?_
   refine ag rfl ?_
   refine RN ?_
   refine Ap rfl ?_
   refine TK.ret ?_
   refine PK.ret ?_
   refine leaf (val0 := vB true) (by kernel_rfl) ?_
   exact lb (by first | (refine (isName_len ?_).symm; simp only [bif_or, Bool.or_eq_true, decide_eq_true_eq] at h1; omega) | (exact (isName_no k (by omega) (bnot_t ((nm8 _ _ _ _ _ _ _ _).symm.trans h3))).symm) | exact (isName_yes hI0.2.1 hI0.2.2.1 fun j hj => hI0.2.2.2 j (by omega)).symm)
end Go.Lens.Tb
end
section
namespace Go.Lens.Tb
open Go.Proofs
variable [Lz]
set_option linter.unusedSectionVars false
set_option maxRecDepth 100000
attribute [local irreducible] TK PK T RG EfR Body
end Go.Lens.Tb
end
section
namespace Go.Lens.Tb
open Go.Proofs
variable [Lz]
set_option linter.unusedSectionVars false
set_option maxRecDepth 100000
attribute [local irreducible] TK PK T RG EfR Body
end Go.Lens.Tb
end
section
namespace Go.Lens.Tb
set_option linter.unusedSectionVars false
abbrev VT (t : Tgt) : Prop := 1 ≤ t.bright ∧ t.bright ≤ 1000 ∧ 0 ≤ t.place ∧ t.place ≤ 360 ∧ 1 ≤ t.length ∧ t.length ≤ 1440 ∧ 0 ≤ t.from_ ∧ t.from_ ≤ 1440 ∧ 0 ≤ t.to ∧ t.to ≤ 1440 ∧ 0 ≤ t.limit ∧ t.limit ≤ 100
abbrev VI (l : List Tgt) (n : Int) : Prop := 0 ≤ n ∧ n < (l.length : Int) ∧ VT (l.getD n.toNat default)
theorem getD_mem {α : Type} {l : List α} {k : Nat} {z : α} (h : k < l.length) : l.getD k z ∈ l := by
  rw [List.getD_eq_getElem?_getD, List.getElem?_eq_getElem h]; exact List.getElem_mem h
def prevT (l : List Tgt) (o : List Int) (i : Nat) : Option Tgt := if i = 0 then none else some (l.getD (o.getD (i - 1) 0).toNat default)
def startA (prev : Option Tgt) (t : Tgt) (a : Int) : Int := match prev with | none => a | some p => a + apartF t.place p.place
end Go.Lens.Tb
end
section
namespace Go.Lens.Tb
open Go.Proofs
variable [Lz]
set_option linter.unusedSectionVars false
set_option maxRecDepth 100000
attribute [local irreducible] TK PK T RG EfR Body
end Go.Lens.Tb
end
section
namespace Go.Lens.Tb
set_option linter.unusedSectionVars false
theorem byteAt_get {s : ByteArray} {p : Nat} (h : p < s.size) : byteAt s p = ((s[p]'h).toNat : Int) := by
  unfold byteAt
  have h' : p < s.data.toList.length := by simpa using h
  rw [List.getD_eq_getElem?_getD, List.getElem?_eq_getElem h']
  simp [ByteArray.getElem_eq_getElem_data]
theorem nameAt_high {p : Nat} {c : Int} (h : 128 ≤ c) : nameAt p c = false := by
  unfold nameAt letterF
  rw [decide_eq_false (p := c ≤ 122) (by omega), decide_eq_false (p := c ≤ 90) (by omega), decide_eq_false (p := c ≤ 57) (by omega), decide_eq_false (p := c = 95) (by omega)]
  simp
theorem rune_name {s : ByteArray} {p : Nat} (h : p < s.size) : nameAt p (((Utf8.decode s p).1 : Nat) : Int) = nameAt p (byteAt s p) ∧ (nameAt p (byteAt s p) = true → (Utf8.decode s p).2 = 1) := by
  rw [byteAt_get h]
  rcases Nat.lt_or_ge (s[p]'h).toNat 128 with ha | ha
  · rw [decode_ascii s p h ha]
    exact ⟨rfl, fun _ => rfl⟩
  · have := decode_high s p h ha
    rw [nameAt_high (by omega), nameAt_high (by omega)]
    exact ⟨rfl, fun h => by cases h⟩
theorem nm8r : ∀ L z n95 l48 g57 : Bool, (bif !L then (bif z then true else (bif n95 then (bif l48 then true else g57) else false)) else false) = !(L || (!z && ((!l48 && !g57) || !n95))) := by decide
theorem nameAt_r (p : Nat) (c : Int) : (letterF c || (!decide ((p : Int) = 0) && ((!decide (c < 48) && !decide (57 < c)) || !decide (c ≠ 95)))) = nameAt p c := by
  unfold nameAt
  congr 2
  have h1 : (!decide (c < 48)) = decide (48 ≤ c) := by rw [Bool.eq_iff_iff]; simp
  have h2 : (!decide (57 < c)) = decide (c ≤ 57) := by rw [Bool.eq_iff_iff]; simp
  have h3 : (!decide (c ≠ 95)) = decide (c = 95) := by rw [Bool.eq_iff_iff]; simp
  rw [h1, h2, h3]
theorem rune_cond {s : ByteArray} {p : Nat} (h : p < s.size) {c : Int} (hc : c = (((Utf8.decode s p).1 : Nat) : Int)) {b : Bool}
    (hb : (bif !(letterF c) then (bif decide ((p : Int) = 0) then true else (bif decide (c ≠ 95) then (bif decide (c < 48) then true else decide (57 < c)) else false)) else false) = b) : nameAt p (byteAt s p) = !b := by
  rw [nm8r, nameAt_r, hc, (rune_name h).1] at hb
  rw [← hb, Bool.not_not]
theorem empty_iff {s : ByteArray} : s = ⟨#[]⟩ ↔ s.size = 0 := by
  constructor
  · rintro rfl; rfl
  · intro h; exact ByteArray.ext (Array.eq_empty_of_size_eq_zero h)
end Go.Lens.Tb
end
section
namespace Go.Lens.Tb
open Go.Proofs
variable [Lz]
set_option linter.unusedSectionVars false
set_option maxRecDepth 100000
attribute [local irreducible] TK PK T RG EfR Body
theorem w241 (c : Int) : CallOk Tryz.prog 241 [.pv (.lit (.int .i32 c))] (lookM []) (vB (letterF c)) [] := by
 haveI := tab_ok
 obtain ⟨fn, f1, f2, f3, f4, _, f6⟩ := qf241
 refine callOk_of (Y := tab) (F := fn241) f1 (f2.trans rfl) f3 f4 f6 (Nat.le_of_ble_eq_true rfl) rfl ?_
 clear f1 f2 f3 f4 f6
 show TK _ _ _ _ _ _ ⟨[(0, .pv (.lit (.int .i32 c)))], []⟩
 refine At rfl ?_
 refine NR ⟨[(0, .pv (.lit (.int .i32 c)))], []⟩ (sb rfl rfl rfl) rfl ?_
 refine ag rfl ?_
 refine RN ?_
 refine Ap rfl ?_
 refine NR ⟨[(0, .pv (.lit (.int .i32 c)))], []⟩ (sb rfl rfl rfl) rfl ?_
 refine mv rfl ?_
 refine RO (Body.geq rfl rfl) ?_
 refine mv rfl ?_
 refine RG.cons (EfR.sym rfl (fun hc => Body.move rfl) rfl) ?_
 refine RG.cons (EfR.sym rfl (fun hc => Body.leq (ev1_gd rfl hc) rfl) rfl) ?_
 refine RO (Body.pick rfl rfl rfl (gdB rfl) rfl (pick_and _)) ?_
 refine mv rfl ?_
 refine RG.cons (EfR.sym rfl (fun hc => Body.move rfl) rfl) ?_
 refine RG.cons (EfR.sym rfl (fun hc => Body.geq (ev1_gd rfl hc) rfl) rfl) ?_
 refine RG.cons (EfR.sym rfl (fun hc => Body.move (ev1_gd rfl hc)) rfl) ?_
 refine RG.cons (EfR.sym rfl (fun hc => Body.move rfl) rfl) ?_
 refine RG.cons (EfR.sym rfl (fun hc => Body.leq (ev1_gd rfl hc) rfl) rfl) ?_
 refine RG.cons (EfR.sym rfl (fun hc => Body.pick (ev1_gd rfl hc) rfl rfl (gdB rfl) rfl (pick_and2 hc)) rfl) ?_
 refine RO (Body.pick rfl rfl rfl rfl (gdB rfl) (pick_or _)) ?_
 refine ag rfl ?_
 refine RN ?_
 refine Ap rfl ?_
 refine TK.ret ?_
 refine PK.ret ?_
 refine leaf (val0 := vB (bif (bif (decide (97 ≤ c)) then (decide (c ≤ 122)) else false) then true else (bif (decide (65 ≤ c)) then (decide (c ≤ 90)) else false))) (by kernel_rfl) ?_
 exact lb (by simp only [letterF, bif_or, bif_and])
theorem w164 (s : ByteArray) : CallOk Tryz.prog 164 [vS s] (lookM []) (vB (isNameF s)) [] := by
 haveI := tab_ok
 obtain ⟨fn, f1, f2, f3, f4, _, f6⟩ := qf164
 refine callOk_of (Y := tab) (F := fn164) f1 (f2.trans rfl) f3 f4 f6 (Nat.le_of_ble_eq_true rfl) rfl ?_
 clear f1 f2 f3 f4 f6
 show TK _ _ _ _ _ _ ⟨[(0, vS s)], []⟩
 refine At rfl ?_
 refine NR ⟨[(0, vS s)], []⟩ (sb rfl rfl rfl) rfl ?_
 refine ag rfl ?_
 refine RN ?_
 refine Ap rfl ?_
 refine NR ⟨[(0, vS s)], []⟩ (sb rfl rfl rfl) rfl ?_
 refine mv rfl ?_
 refine RO (Body.rangeS rfl un9 rfl rfl) ?_
 refine RN ?_
 refine Ap rfl ?_
 refine TK.loop (α := Nat) (fun x => ⟨[(0, vS s), (6, .bref 7 0)], [(7, .siter s x)]⟩) (fun x => x ≤ ByteArray.size s ∧ ∀ j, j < x → nameAt j (byteAt s j) = true) (fun x => ByteArray.size s - x) 0 ?_ (sb rfl rfl rfl) ?_
 · show 0 ≤ ByteArray.size s ∧ ∀ j, j < 0 → nameAt j (byteAt s j) = true
   exact ⟨Nat.zero_le _, fun j hj => by omega⟩
 rintro p hI0
 replace hI0 : p ≤ ByteArray.size s ∧ ∀ j, j < p → nameAt j (byteAt s j) = true := hI0
 show TK _ _ _ _ _ _ ⟨[(0, vS s), (6, .bref 7 0)], [(7, .siter s p)]⟩
 refine At rfl ?_
 refine NR ⟨[(0, vS s), (6, .bref 7 0)], [(7, .siter s p)]⟩ (sb rfl rfl rfl) rfl ?_
 refine RG.next rfl rfl rfl (fun h1 => ?_) (fun h1 => ?_)
 ·
  refine rn rfl ?_
  refine RN ?_
  refine Ap rfl ?_
  refine TK.norm ⟨[(0, vS s), (6, .bref 7 0), (7, .tup [vB true, vI ((p : Nat) : Int), .pv (.lit (.int .i32 (((Utf8.decode s p).1 : Nat) : Int)))]), (8, vB true)], [(7, .siter s (p + (Utf8.decode s p).2))]⟩ (sb rfl rfl rfl) ?_
  refine TK.condT rfl ?_
  refine At rfl ?_
  refine NR ⟨[(0, vS s), (6, .bref 7 0), (7, .tup [vB true, vI ((p : Nat) : Int), .pv (.lit (.int .i32 (((Utf8.decode s p).1 : Nat) : Int)))])], [(7, .siter s (p + (Utf8.decode s p).2))]⟩ (sb rfl rfl rfl) rfl ?_
  refine rn rfl ?_
  refine rn rfl ?_
  refine ag rfl ?_
  refine ag rfl ?_
  refine RN ?_
  refine Ap rfl ?_
  refine NR ⟨[(0, vS s), (3, vI ((p : Nat) : Int)), (4, .pv (.lit (.int .i32 (((Utf8.decode s p).1 : Nat) : Int)))), (6, .bref 7 0)], [(7, .siter s (p + (Utf8.decode s p).2))]⟩ (sb rfl rfl rfl) rfl ?_
  refine mv rfl ?_
  refine RO (Body.call (w241 (((Utf8.decode s p).1 : Nat) : Int)) rfl rfl rfl) ?_
  refine RO (Body.not rfl) ?_
  refine mv rfl ?_
  refine RG.cons (EfR.sym rfl (fun hc => Body.move rfl) rfl) ?_
  refine RG.cons (EfR.sym rfl (fun hc => Body.eql (ev1_gd rfl hc) rfl) rfl) ?_
  refine RG.cons (EfR.sym rfl (fun hc => Body.move (ev1_gd rfl hc)) rfl) ?_
  refine RG.cons (EfR.sym rfl (fun hc => Body.move rfl) rfl) ?_
  refine RG.cons (EfR.sym rfl (fun hc => Body.neq (ev1_gd rfl hc) rfl) rfl) ?_
  refine RG.cons (EfR.sym rfl (fun hc => Body.move (ev1_gd rfl hc)) rfl) ?_
  refine RG.cons (EfR.sym rfl (fun hc => Body.move rfl) rfl) ?_
  refine RG.cons (EfR.sym rfl (fun hc => Body.lss (ev1_gd rfl hc) rfl) rfl) ?_
  refine RG.cons (EfR.sym rfl (fun hc => Body.move (ev1_gd rfl hc)) rfl) ?_
  refine RG.cons (EfR.sym rfl (fun hc => Body.move rfl) rfl) ?_
  refine RG.cons (EfR.sym rfl (fun hc => Body.gtr (ev1_gd rfl hc) rfl) rfl) ?_
  refine RG.cons (EfR.sym rfl (fun hc => Body.pick (ev1_gd rfl hc) rfl rfl rfl (gdB rfl) (pick_or2 hc)) rfl) ?_
  refine RG.cons (EfR.sym rfl (fun hc => Body.pick (ev1_gd rfl hc) rfl rfl (gdB rfl) rfl (pick_and2 hc)) rfl) ?_
  refine RG.cons (EfR.sym rfl (fun hc => Body.pick (ev1_gd rfl hc) rfl rfl rfl (gdB rfl) (pick_or2 hc)) rfl) ?_
  refine RO (Body.pick rfl rfl rfl (gdB rfl) rfl (pick_and _)) ?_
  refine RN ?_
  refine Ap rfl ?_
  refine TK.norm ⟨[(0, vS s), (6, .bref 7 0), (29, vB (bif (!(letterF (((Utf8.decode s p).1 : Nat) : Int))) then (bif (decide (((p : Nat) : Int) = 0)) then true else (bif (decide ((((Utf8.decode s p).1 : Nat) : Int) ≠ 95)) then (bif (decide ((((Utf8.decode s p).1 : Nat) : Int) < 48)) then true else (decide (57 < (((Utf8.decode s p).1 : Nat) : Int)))) else false)) else false))], [(7, .siter s (p + (Utf8.decode s p).2))]⟩ (sb rfl rfl rfl) ?_
  refine TK.cond rfl (fun h2 => ?_) (fun h2 => ?_)
  ·
   refine At rfl ?_
   refine NR ⟨[], []⟩ (sb rfl rfl rfl) rfl ?_
   refine ag rfl ?_
   refine RN ?_
   refine Ap rfl ?_
   refine TK.ret ?_
   refine PK.ret ?_
   refine leaf (val0 := vB false) (by kernel_rfl) ?_
   exact lb (by first
          | exact (isName_no p h1 (rune_cond h1 rfl h2)).symm
          | (have he : p = ByteArray.size s := by omega
             rw [bif_and]
             by_cases h0 : ByteArray.size s = 0
             · rw [decide_eq_false (p := s ≠ ⟨#[]⟩) (fun h => h (empty_iff.2 h0)), isName_len (.inl (by omega))]; rfl
             · rw [decide_eq_true (p := s ≠ ⟨#[]⟩) (fun h => h0 (empty_iff.1 h))]
               by_cases h9 : ByteArray.size s ≤ 24
               · rw [decide_eq_true (by omega), isName_yes (by omega) h9 fun j hj => hI0.2 j (by omega)]; rfl
               · rw [decide_eq_false (by omega), isName_len (.inr (by omega))]; rfl))
  ·
   refine Au rfl ?_
   refine PK.lp ?_
   refine LP.mk (p + (Utf8.decode s p).2) ?_ ?_ (sb rfl rfl rfl)
   · show (p + (Utf8.decode s p).2) ≤ ByteArray.size s ∧ ∀ j, j < (p + (Utf8.decode s p).2) → nameAt j (byteAt s j) = true
     have hn := rune_cond h1 rfl h2; rw [(rune_name h1).2 hn]; refine ⟨by omega, fun j hj => ?_⟩; rcases Nat.lt_succ_iff_lt_or_eq.1 hj with h | h; exact hI0.2 j h; subst h; exact hn
   · show ByteArray.size s - (p + (Utf8.decode s p).2) < ByteArray.size s - p
     have hn := rune_cond h1 rfl h2; rw [(rune_name h1).2 hn]; omega
 ·
  refine rn rfl ?_
  refine RN ?_
  refine Ap rfl ?_
  refine TK.norm ⟨[(0, vS s), (6, .bref 7 0), (7, .tup [vB false]), (8, vB false)], [(7, .siter s p)]⟩ (sb rfl rfl rfl) ?_
  refine TK.condF rfl ?_
  refine At rfl ?_
  refine TK.exit ?_
  refine PK.exit rfl ?_
  refine Ap rfl ?_
  refine NR ⟨[(0, vS s)], []⟩ (sb rfl rfl rfl) rfl ?_
  refine mv rfl ?_
  refine RO (Body.sneq rfl rfl) ?_
  refine mv rfl ?_
  refine RG.cons (EfR.sym rfl (fun hc => Body.move rfl) rfl) ?_
  refine RG.cons (EfR.sym rfl (fun hc => Body.lenS (ev1_gd rfl hc) un9) rfl) ?_
  refine RG.cons (EfR.sym rfl (fun hc => Body.leq (ev1_gd rfl hc) rfl) rfl) ?_
  refine RO (Body.pick rfl rfl rfl (gdB rfl) rfl (pick_and _)) ?_
  refine ag rfl ?_
  refine RN ?_
  refine Ap rfl ?_
  refine TK.ret ?_
  refine PK.ret ?_
  refine leaf (val0 := vB (bif (decide (s ≠ ⟨#[]⟩)) then (decide (((ByteArray.size s : Nat) : Int) ≤ 24)) else false)) (by kernel_rfl) ?_
  exact lb (by first
          | exact (isName_no p h1 (rune_cond h1 rfl h2)).symm
          | (have he : p = ByteArray.size s := by omega
             rw [bif_and]
             by_cases h0 : ByteArray.size s = 0
             · rw [decide_eq_false (p := s ≠ ⟨#[]⟩) (fun h => h (empty_iff.2 h0)), isName_len (.inl (by omega))]; rfl
             · rw [decide_eq_true (p := s ≠ ⟨#[]⟩) (fun h => h0 (empty_iff.1 h))]
               by_cases h9 : ByteArray.size s ≤ 24
               · rw [decide_eq_true (by omega), isName_yes (by omega) h9 fun j hj => hI0.2 j (by omega)]; rfl
               · rw [decide_eq_false (by omega), isName_len (.inr (by omega))]; rfl))
theorem w104 (s : ByteArray) : CallOk Tryz.prog 104 [vS s] (lookM []) (vI (whenF (!(isNameF s)) 8)) [] := by
 haveI := tab_ok
 obtain ⟨fn, f1, f2, f3, f4, _, f6⟩ := qf104
 refine callOk_of (Y := tab) (F := fn104) f1 (f2.trans rfl) f3 f4 f6 (Nat.le_of_ble_eq_true rfl) rfl ?_
 clear f1 f2 f3 f4 f6
 show TK _ _ _ _ _ _ ⟨[(0, vS s)], []⟩
 refine At rfl ?_
 refine NR ⟨[(0, vS s)], []⟩ (sb rfl rfl rfl) rfl ?_
 refine ag rfl ?_
 refine RN ?_
 refine Ap rfl ?_
 refine NR ⟨[(0, vS s)], []⟩ (sb rfl rfl rfl) rfl ?_
 refine mv rfl ?_
 refine RO (Body.call (w164 s) rfl rfl rfl) ?_
 refine RO (Body.not rfl) ?_
 refine RO (Body.call (w101 (!(isNameF s)) 8) rfl rfl rfl) ?_
 refine ag rfl ?_
 refine RN ?_
 refine Ap rfl ?_
 refine TK.ret ?_
 refine PK.ret ?_
 refine leaf (val0 := vI (whenF (!(isNameF s)) 8)) (by kernel_rfl) ?_
 exact rfl
end Go.Lens.Tb
end
section
namespace Go.Lens.Tm
open Go.Lens.Tb Go.Proofs
set_option linter.unusedSectionVars false
def permI (c : Int) : Bool := (((((decide (97 ≤ c) && decide (c ≤ 122)) || (decide (65 ≤ c) && decide (c ≤ 90))) || (decide (48 ≤ c) && decide (c ≤ 57))) || decide (c = 46)) || decide (c = 45)) || decide (c = 47) || decide (c = 95)
def permS (s : List UInt8) : Bool := s.all fun b => permI (b.toNat : Int)
def chkF (f : Fld) : Int := bif !(isNameF (bsO f.1)) then 8 else bif decide (60 < f.2.length) then 26 else bif !(permS f.2) then 1 else 0
def ordB (l : List Fld) (i : Nat) : Bool := decide (0 < i) && leS (l.getD i ([], [])).1 (l.getD (i - 1) ([], [])).1
def fOne (l : List Fld) (i : Nat) : Int := if chkF (l.getD i ([], [])) = 0 then (bif ordB l i then 11 else 0) else chkF (l.getD i ([], []))
def fGo (l : List Fld) : Nat → Nat → Int
 | 0, _ => 0
 | n + 1, i => if fOne l i = 0 then fGo l n (i + 1) else fOne l i
def chkFl (l : List Fld) : Int := bif decide (24 < l.length) then 5 else fGo l l.length 0
def shortF (l : List Fld) (n : Int) : Bool := bif (decide (n < (l.length : Int)) && decide ((l.length : Int) ≤ 24)) || decide (26 < (l.length : Int)) then false else l.all fun f => decide (f.1.length ≤ 60) && decide (f.2.length ≤ 100)
theorem dlt (a b : Int) : decide (a < b) = !decide (b ≤ a) := by rw [Bool.eq_iff_iff]; simp
theorem dne {α : Type} [DecidableEq α] (a b : α) : decide (a ≠ b) = !decide (a = b) := by rw [Bool.eq_iff_iff]; simp
theorem perm_not (c : Int) : (!permI c) = ((((((decide (c < 97) || decide (122 < c)) && (decide (c < 65) || decide (90 < c))) && (decide (c < 48) || decide (57 < c))) && decide (c ≠ 46)) && decide (c ≠ 45)) && decide (c ≠ 47) && decide (c ≠ 95)) := by
 unfold permI
 simp only [dlt, dne, Bool.not_or, Bool.not_and]
theorem fGo_step {l : List Fld} {k : Nat} (hk : k < l.length) (h : fOne l k = 0) : fGo l (l.length - k) k = fGo l (l.length - (k + 1)) (k + 1) := by
 rw [show l.length - k = (l.length - (k + 1)) + 1 by omega, fGo, if_pos h]
theorem fGo_err {l : List Fld} {k : Nat} (hk : k < l.length) (h : fOne l k ≠ 0) : fGo l (l.length - k) k = fOne l k := by
 rw [show l.length - k = (l.length - (k + 1)) + 1 by omega, fGo, if_neg h]
theorem permS_no {s : List UInt8} {k : Nat} (hk : k < s.length) (h : permI (byteAt (bsO s) k) = false) : permS s = false := by
 unfold permS
 rw [List.all_eq_false]
 refine ⟨s.getD k 0, getD_mem hk, ?_⟩
 change permI ((s.getD k 0).toNat : Int) = false at h
 rw [h]; simp
theorem permS_yes {s : List UInt8} (h : ∀ j, j < s.length → permI (byteAt (bsO s) j) = true) : permS s = true := by
 unfold permS
 rw [List.all_eq_true]
 intro b hb
 obtain ⟨j, hj, rfl⟩ := List.getElem_of_mem hb
 have := h j hj
 change permI ((s.getD j 0).toNat : Int) = true at this
 rw [List.getD_eq_getElem?_getD, List.getElem?_eq_getElem hj] at this
 exact this
theorem first_fld (l : List Fld) (i : Nat) : firstF [whenF (!(isNameF (bsO (l.getD i ([], [])).1))) 8, whenF (decide (60 < (((l.getD i ([], [])).2.length : Nat) : Int))) 26, whenF (!(permS (l.getD i ([], [])).2)) 1, whenF (bif decide (0 < ((i : Nat) : Int)) then leS (l.getD i ([], [])).1 (l.getD (i - 1) ([], [])).1 else false) 11] = fOne l i := by
 unfold fOne chkF ordB whenF
 have h1 : decide (60 < (((l.getD i ([], [])).2.length : Nat) : Int)) = decide (60 < (l.getD i ([], [])).2.length) := by rw [Bool.eq_iff_iff]; simp; omega
 have h2 : decide (0 < ((i : Nat) : Int)) = decide (0 < i) := by rw [Bool.eq_iff_iff]; simp
 rw [h1, h2]
 cases isNameF (bsO (l.getD i ([], [])).1) <;> cases decide (60 < (l.getD i ([], [])).2.length) <;> cases permS (l.getD i ([], [])).2 <;> cases decide (0 < i) <;> cases leS (l.getD i ([], [])).1 (l.getD (i - 1) ([], [])).1 <;> rfl
end Go.Lens.Tm
end
section
namespace Go.Lens.Tm
open Go.Lens.Tb Go.Proofs
set_option linter.unusedSectionVars false
section
variable {l : List Fld} {k : Nat}
theorem f_bad (h : chkF (l.getD k ([], [])) ≠ 0) : fOne l k = chkF (l.getD k ([], [])) := by unfold fOne; rw [if_neg h]
theorem f_ordq {b : Bool} (h : (bif decide (0 < ((k : Nat) : Int)) then leS (l.getD k ([], [])).1 (l.getD (k - 1) ([], [])).1 else false) = b) : ordB l k = b := by
 rw [← h]
 unfold ordB
 have h2 : decide (0 < ((k : Nat) : Int)) = decide (0 < k) := by rw [Bool.eq_iff_iff]; simp
 rw [h2]
 cases decide (0 < k) <;> rfl
theorem f_ord (h : ¬ chkF (l.getD k ([], [])) ≠ 0) (h4 : (bif decide (0 < ((k : Nat) : Int)) then leS (l.getD k ([], [])).1 (l.getD (k - 1) ([], [])).1 else false) = true) : fOne l k = 11 := by
 unfold fOne; rw [if_pos (Decidable.not_not.1 h), f_ordq h4]; rfl
theorem f_ok (h : ¬ chkF (l.getD k ([], [])) ≠ 0) (h4 : (bif decide (0 < ((k : Nat) : Int)) then leS (l.getD k ([], [])).1 (l.getD (k - 1) ([], [])).1 else false) = false) : fOne l k = 0 := by
 unfold fOne; rw [if_pos (Decidable.not_not.1 h), f_ordq h4]; rfl
theorem sf_many {n : Int} (h : (bif (bif decide (n < ((List.length l : Nat) : Int)) then decide (((List.length l : Nat) : Int) ≤ 24) else false) then true else decide (26 < ((List.length l : Nat) : Int))) = true) : shortF l n = false := by
 unfold shortF; rw [bif_or, bif_and] at h; rw [h]; rfl
theorem sf_few {n : Int} (h : (bif (bif decide (n < ((List.length l : Nat) : Int)) then decide (((List.length l : Nat) : Int) ≤ 24) else false) then true else decide (26 < ((List.length l : Nat) : Int))) = false) : shortF l n = l.all fun f => decide (f.1.length ≤ 60) && decide (f.2.length ≤ 100) := by
 unfold shortF; rw [bif_or, bif_and] at h; rw [h]; rfl
theorem sf_q {b : Bool} {f : Fld} (h : (bif decide (60 < ((List.length (Prod.fst f) : Nat) : Int)) then true else decide (100 < ((List.length (Prod.snd f) : Nat) : Int))) = b) : (decide (List.length f.1 ≤ 60) && decide (List.length f.2 ≤ 100)) = !b := by
 rw [← h, bif_or, Bool.not_or]
 congr 1
 ·rw [Bool.eq_iff_iff]; simp; omega
 ·rw [Bool.eq_iff_iff]; simp; omega
theorem sf_ok {f : Fld} (h : (bif decide (60 < ((List.length (Prod.fst f) : Nat) : Int)) then true else decide (100 < ((List.length (Prod.snd f) : Nat) : Int))) = false) : (decide (List.length f.1 ≤ 60) && decide (List.length f.2 ≤ 100)) = true := sf_q h
theorem sf_no {n : Int} (h1 : (bif (bif decide (n < ((List.length l : Nat) : Int)) then decide (((List.length l : Nat) : Int) ≤ 24) else false) then true else decide (26 < ((List.length l : Nat) : Int))) = false) (hk : k < l.length)
  (h : (bif decide (60 < ((List.length (Prod.fst (l.getD k ([], []))) : Nat) : Int)) then true else decide (100 < ((List.length (Prod.snd (l.getD k ([], []))) : Nat) : Int))) = true) : shortF l n = false := by
 rw [sf_few h1, List.all_eq_false]
 exact ⟨l.getD k ([], []), getD_mem hk, by rw [sf_q h]; simp⟩
theorem sf_yes {n : Int} (h1 : (bif (bif decide (n < ((List.length l : Nat) : Int)) then decide (((List.length l : Nat) : Int) ≤ 24) else false) then true else decide (26 < ((List.length l : Nat) : Int))) = false)
  (h : ∀ j, j < l.length → (decide (List.length (List.getD l j ([], [])).1 ≤ 60) && decide (List.length (List.getD l j ([], [])).2 ≤ 100)) = true) : shortF l n = true := by
 rw [sf_few h1, List.all_eq_true]
 intro f hf
 obtain ⟨j, hj, rfl⟩ := List.getElem_of_mem hf
 have := h j hj
 rwa [List.getD_eq_getElem?_getD, List.getElem?_eq_getElem hj] at this
theorem take_fld (l : List Fld) (k : Nat) (h : k < l.length) : l.take (k + 1) = l.take k ++ [l.getD k ([], [])] := by
 rw [List.take_add_one, List.getElem?_eq_getElem h, List.getD_eq_getElem?_getD, List.getElem?_eq_getElem h]; rfl
theorem getF_skip {n : List UInt8} (hk : k < l.length) (h : ¬ (l.getD k ([], [])).1 = n) : getF n (l.drop k) = getF n (l.drop (k + 1)) := by
 rw [drop_at l k ([], []) hk]
 generalize l.getD k ([], []) = f at h
 obtain ⟨a, x⟩ := f
 simp only [getF]
 rw [if_neg (fun e => h e.symm)]
theorem getF_hit {n : List UInt8} (hk : k < l.length) (h : (l.getD k ([], [])).1 = n) : getF n (l.drop k) = some (l.getD k ([], [])).2 := by
 rw [drop_at l k ([], []) hk]
 generalize l.getD k ([], []) = f at h
 obtain ⟨a, x⟩ := f
 simp only [getF]
 rw [if_pos h.symm]
end
theorem st_eq {a b : Fld} (h : (!(decide (Prod.fst a = Prod.fst b) && decide (Prod.snd a = Prod.snd b))) = false) : a = b := by
 simp only [Bool.not_eq_false', Bool.and_eq_true, decide_eq_true_eq] at h
 exact Prod.ext h.1 h.2
theorem st_ne {a b : Fld} (h : (!(decide (Prod.fst a = Prod.fst b) && decide (Prod.snd a = Prod.snd b))) = true) (e : a = b) : False := by
 subst e; simp at h
theorem eq_getD {α : Type} (z : α) {a b : List α} (h : a.length = b.length) (k : ∀ j, j < a.length → a.getD j z = b.getD j z) : a = b := by
 apply List.ext_getElem h
 intro i h1 h2
 have := k i h1
 rwa [List.getD_eq_getElem?_getD, List.getD_eq_getElem?_getD, List.getElem?_eq_getElem h1, List.getElem?_eq_getElem h2] at this
end Go.Lens.Tm
end
section
namespace Go.Lens.Tm
open Go.Lens.Tb Go.Proofs
variable [Lz]
set_option linter.unusedSectionVars false
set_option maxRecDepth 100000
attribute [local irreducible] TK PK T RG EfR Body
theorem ag175 : aggT tab 175 = some true := by kernel_rfl
theorem by175 : ty175.info.bytes = 32 := by kernel_rfl
theorem fa175_0 : fadQ tab 175 0 = some 0 := by kernel_rfl
theorem fa175_1 : fadQ tab 175 1 = some 1 := by kernel_rfl
theorem in175 : tab.info? 175 = some ty175.info := by kernel_rfl
theorem sz175 : szT tab 175 = some 2 := by kernel_rfl
theorem un60 : tab.underlying 60 = some (.slice 175) := by kernel_rfl
theorem ff175 : flatEq tab 175 = some [.string, .string] := by kernel_rfl
set_option maxHeartbeats 2000000 in
theorem w172 (c : Int) : CallOk Tryz.prog 172 [.pv (.lit (.int .u8 c))] (lookM []) (vB (permI c)) [] := by
 haveI := tab_ok
 obtain ⟨fn, f1, f2, f3, f4, _, f6⟩ := qf172
 refine callOk_of (Y := tab) (F := fn172) f1 (f2.trans rfl) f3 f4 f6 (Nat.le_of_ble_eq_true rfl) rfl ?_
 clear f1 f2 f3 f4 f6
 show TK _ _ _ _ _ _ ⟨[(0, .pv (.lit (.int .u8 c)))], []⟩
 refine At rfl ?_
 refine NR ⟨[(0, .pv (.lit (.int .u8 c)))], []⟩ (sb rfl rfl rfl) rfl ?_
 refine ag rfl ?_
 refine RN ?_
 refine Ap rfl ?_
 refine NR ⟨[(0, .pv (.lit (.int .u8 c)))], []⟩ (sb rfl rfl rfl) rfl ?_
 refine mv rfl ?_
 refine RO (Body.geq rfl rfl) ?_
 refine mv rfl ?_
 refine RG.cons (EfR.sym rfl (fun hc => Body.move rfl) rfl) ?_
 refine RG.cons (EfR.sym rfl (fun hc => Body.leq (ev1_gd rfl hc) rfl) rfl) ?_
 refine RO (Body.pick rfl rfl rfl (gdB rfl) rfl (pick_and _)) ?_
 refine mv rfl ?_
 refine RG.cons (EfR.sym rfl (fun hc => Body.move rfl) rfl) ?_
 refine RG.cons (EfR.sym rfl (fun hc => Body.geq (ev1_gd rfl hc) rfl) rfl) ?_
 refine RG.cons (EfR.sym rfl (fun hc => Body.move (ev1_gd rfl hc)) rfl) ?_
 refine RG.cons (EfR.sym rfl (fun hc => Body.move rfl) rfl) ?_
 refine RG.cons (EfR.sym rfl (fun hc => Body.leq (ev1_gd rfl hc) rfl) rfl) ?_
 refine RG.cons (EfR.sym rfl (fun hc => Body.pick (ev1_gd rfl hc) rfl rfl (gdB rfl) rfl (pick_and2 hc)) rfl) ?_
 refine RO (Body.pick rfl rfl rfl rfl (gdB rfl) (pick_or _)) ?_
 refine mv rfl ?_
 refine RG.cons (EfR.sym rfl (fun hc => Body.move rfl) rfl) ?_
 refine RG.cons (EfR.sym rfl (fun hc => Body.geq (ev1_gd rfl hc) rfl) rfl) ?_
 refine RG.cons (EfR.sym rfl (fun hc => Body.move (ev1_gd rfl hc)) rfl) ?_
 refine RG.cons (EfR.sym rfl (fun hc => Body.move rfl) rfl) ?_
 refine RG.cons (EfR.sym rfl (fun hc => Body.leq (ev1_gd rfl hc) rfl) rfl) ?_
 refine RG.cons (EfR.sym rfl (fun hc => Body.pick (ev1_gd rfl hc) rfl rfl (gdB rfl) rfl (pick_and2 hc)) rfl) ?_
 refine RO (Body.pick rfl rfl rfl rfl (gdB rfl) (pick_or _)) ?_
 refine mv rfl ?_
 refine RG.cons (EfR.sym rfl (fun hc => Body.move rfl) rfl) ?_
 refine RG.cons (EfR.sym rfl (fun hc => Body.eql (ev1_gd rfl hc) rfl) rfl) ?_
 refine RO (Body.pick rfl rfl rfl rfl (gdB rfl) (pick_or _)) ?_
 refine mv rfl ?_
 refine RG.cons (EfR.sym rfl (fun hc => Body.move rfl) rfl) ?_
 refine RG.cons (EfR.sym rfl (fun hc => Body.eql (ev1_gd rfl hc) rfl) rfl) ?_
 refine RO (Body.pick rfl rfl rfl rfl (gdB rfl) (pick_or _)) ?_
 refine mv rfl ?_
 refine RG.cons (EfR.sym rfl (fun hc => Body.move rfl) rfl) ?_
 refine RG.cons (EfR.sym rfl (fun hc => Body.eql (ev1_gd rfl hc) rfl) rfl) ?_
 refine RO (Body.pick rfl rfl rfl rfl (gdB rfl) (pick_or _)) ?_
 refine mv rfl ?_
 refine RG.cons (EfR.sym rfl (fun hc => Body.move rfl) rfl) ?_
 refine RG.cons (EfR.sym rfl (fun hc => Body.eql (ev1_gd rfl hc) rfl) rfl) ?_
 refine RO (Body.pick rfl rfl rfl rfl (gdB rfl) (pick_or _)) ?_
 refine ag rfl ?_
 refine RN ?_
 refine Ap rfl ?_
 refine TK.ret ?_
 refine PK.ret ?_
 refine leaf (val0 := vB (bif (bif (bif (bif (bif (bif (bif (decide (97 ≤ c)) then (decide (c ≤ 122)) else false) then true else (bif (decide (65 ≤ c)) then (decide (c ≤ 90)) else false)) then true else (bif (decide (48 ≤ c)) then (decide (c ≤ 57)) else false)) then true else (decide (c = 46))) then true else (decide (c = 45))) then true else (decide (c = 47))) then true else (decide (c = 95)))) (by kernel_rfl) ?_
 exact lb (by simp only [permI, bif_or, bif_and])
set_option maxHeartbeats 2000000 in
theorem w118 (f : Fld) : CallOk Tryz.prog 118 [.pv (.agg [pS (bsO (Prod.fst f)), pS (bsO (Prod.snd f))])] (lookM []) (vI (chkF f)) [] := by
 haveI := tab_ok
 obtain ⟨fn, f1, f2, f3, f4, _, f6⟩ := qf118
 refine callOk_of (Y := tab) (F := fn118) f1 (f2.trans rfl) f3 f4 f6 (Nat.le_of_ble_eq_true rfl) rfl ?_
 clear f1 f2 f3 f4 f6
 show TK _ _ _ _ _ _ ⟨[(0, .pv (.agg [pS (bsO (Prod.fst f)), pS (bsO (Prod.snd f))]))], []⟩
 refine At rfl ?_
 refine NR ⟨[(0, .pv (.agg [pS (bsO (Prod.fst f)), pS (bsO (Prod.snd f))]))], []⟩ (sb rfl rfl rfl) rfl ?_
 refine rn rfl ?_
 refine ag rfl ?_
 refine RN ?_
 refine Ap rfl ?_
 refine NR ⟨[(1, .bref 2 0)], [(2, .box 175 [vS (bsO (Prod.fst f)), vS (bsO (Prod.snd f))])]⟩ (sb rfl rfl rfl) rfl ?_
 refine RO (Body.fadB rfl fa175_0 rfl) ?_
 refine RO (Body.loadB rfl rfl rfl ag9 sz9 rfl) ?_
 refine RO (Body.call (w94 (bsO (Prod.fst f))) rfl rfl rfl) ?_
 refine RO (Body.not rfl) ?_
 refine RN ?_
 refine Ap rfl ?_
 refine TK.norm ⟨[(1, .bref 2 0), (7, vB (!(isNameF (bsO (Prod.fst f)))))], [(2, .box 175 [vS (bsO (Prod.fst f)), vS (bsO (Prod.snd f))])]⟩ (sb rfl rfl rfl) ?_
 refine TK.cond rfl (fun h1 => ?_) (fun h1 => ?_)
 ·
  refine At rfl ?_
  refine NR ⟨[], []⟩ (sb rfl rfl rfl) rfl ?_
  refine ag rfl ?_
  refine RN ?_
  refine Ap rfl ?_
  refine TK.ret ?_
  refine PK.ret ?_
  refine leaf (val0 := vI 8) (by kernel_rfl) ?_
  exact li (by unfold chkF; first
          | (rw [h1]; rfl)
          | (rw [h1, decide_eq_true (by omega)]; rfl)
          | (rw [h1, decide_eq_false (by omega), permS_no (by omega) (bnot_t h4)]; rfl)
          | (rw [h1, decide_eq_false (by omega), permS_yes fun j hj => hI0.2.2 j (by omega)]; rfl))
 ·
  refine At rfl ?_
  refine NR ⟨[(1, .bref 2 0)], [(2, .box 175 [vS (bsO (Prod.fst f)), vS (bsO (Prod.snd f))])]⟩ (sb rfl rfl rfl) rfl ?_
  refine RO (Body.fadB rfl fa175_1 rfl) ?_
  refine RO (Body.loadB rfl rfl rfl ag9 sz9 rfl) ?_
  refine RO (Body.lenB (a := (Prod.snd f)) rfl un9) ?_
  refine RO (Body.gtr rfl rfl) ?_
  refine RN ?_
  refine Ap rfl ?_
  refine TK.norm ⟨[(1, .bref 2 0), (11, vB (decide (60 < ((List.length (Prod.snd f) : Nat) : Int))))], [(2, .box 175 [vS (bsO (Prod.fst f)), vS (bsO (Prod.snd f))])]⟩ (sb rfl rfl rfl) ?_
  refine TK.condP rfl (fun h2 => ?_) (fun h2 => ?_)
  ·
   refine At rfl ?_
   refine NR ⟨[], []⟩ (sb rfl rfl rfl) rfl ?_
   refine ag rfl ?_
   refine RN ?_
   refine Ap rfl ?_
   refine TK.ret ?_
   refine PK.ret ?_
   refine leaf (val0 := vI 26) (by kernel_rfl) ?_
   exact li (by unfold chkF; first
          | (rw [h1]; rfl)
          | (rw [h1, decide_eq_true (by omega)]; rfl)
          | (rw [h1, decide_eq_false (by omega), permS_no (by omega) (bnot_t h4)]; rfl)
          | (rw [h1, decide_eq_false (by omega), permS_yes fun j hj => hI0.2.2 j (by omega)]; rfl))
  ·
   refine At rfl ?_
   refine NR ⟨[(1, .bref 2 0)], [(2, .box 175 [vS (bsO (Prod.fst f)), vS (bsO (Prod.snd f))])]⟩ (sb rfl rfl rfl) rfl ?_
   refine ag rfl ?_
   refine RN ?_
   refine Ap rfl ?_
   refine TK.loop (α := Nat) (fun x => ⟨[(1, .bref 2 0), (3, vI ((x : Nat) : Int))], [(2, .box 175 [vS (bsO (Prod.fst f)), vS (bsO (Prod.snd f))])]⟩) (fun x => x ≤ List.length (Prod.snd f) ∧ List.length (Prod.snd f) ≤ 60 ∧ ∀ j, j < x → permI (byteAt (bsO (Prod.snd f)) j) = true) (fun x => List.length (Prod.snd f) - x) 0 ?_ (sb rfl rfl rfl) ?_
   · show 0 ≤ List.length (Prod.snd f) ∧ List.length (Prod.snd f) ≤ 60 ∧ ∀ j, j < 0 → permI (byteAt (bsO (Prod.snd f)) j) = true
     exact ⟨Nat.zero_le _, by omega, fun j hj => by omega⟩
   rintro k hI0
   replace hI0 : k ≤ List.length (Prod.snd f) ∧ List.length (Prod.snd f) ≤ 60 ∧ ∀ j, j < k → permI (byteAt (bsO (Prod.snd f)) j) = true := hI0
   show TK _ _ _ _ _ _ ⟨[(1, .bref 2 0), (3, vI ((k : Nat) : Int))], [(2, .box 175 [vS (bsO (Prod.fst f)), vS (bsO (Prod.snd f))])]⟩
   refine At rfl ?_
   refine NR ⟨[(1, .bref 2 0), (3, vI ((k : Nat) : Int))], [(2, .box 175 [vS (bsO (Prod.fst f)), vS (bsO (Prod.snd f))])]⟩ (sb rfl rfl rfl) rfl ?_
   refine mv rfl ?_
   refine RO (Body.fadB rfl fa175_1 rfl) ?_
   refine RO (Body.loadB rfl rfl rfl ag9 sz9 rfl) ?_
   refine RO (Body.lenB (a := (Prod.snd f)) rfl un9) ?_
   refine RO (Body.lss rfl rfl) ?_
   refine RN ?_
   refine Ap rfl ?_
   refine TK.norm ⟨[(1, .bref 2 0), (3, vI ((k : Nat) : Int)), (16, vB (decide (((k : Nat) : Int) < ((List.length (Prod.snd f) : Nat) : Int))))], [(2, .box 175 [vS (bsO (Prod.fst f)), vS (bsO (Prod.snd f))])]⟩ (sb rfl rfl rfl) ?_
   refine TK.condP rfl (fun h3 => ?_) (fun h3 => ?_)
   ·
    refine At rfl ?_
    refine NR ⟨[(1, .bref 2 0), (3, vI ((k : Nat) : Int))], [(2, .box 175 [vS (bsO (Prod.fst f)), vS (bsO (Prod.snd f))])]⟩ (sb rfl rfl rfl) rfl ?_
    refine RO (Body.fadB rfl fa175_1 rfl) ?_
    refine RO (Body.loadB rfl rfl rfl ag9 sz9 rfl) ?_
    refine mv rfl ?_
    refine RO (Body.sidx (i := k) rfl rfl un9 rfl (show k < List.length (Prod.snd f) from (by omega))) ?_
    refine RO (Body.call (w172 (byteAt (bsO (Prod.snd f)) k)) rfl rfl rfl) ?_
    refine RO (Body.not rfl) ?_
    refine RN ?_
    refine Ap rfl ?_
    refine TK.norm ⟨[(1, .bref 2 0), (3, vI ((k : Nat) : Int)), (24, vB (!(permI (byteAt (bsO (Prod.snd f)) k))))], [(2, .box 175 [vS (bsO (Prod.fst f)), vS (bsO (Prod.snd f))])]⟩ (sb rfl rfl rfl) ?_
    refine TK.cond rfl (fun h4 => ?_) (fun h4 => ?_)
    ·
     refine At rfl ?_
     refine NR ⟨[], []⟩ (sb rfl rfl rfl) rfl ?_
     refine ag rfl ?_
     refine RN ?_
     refine Ap rfl ?_
     refine TK.ret ?_
     refine PK.ret ?_
     refine leaf (val0 := vI 1) (by kernel_rfl) ?_
     exact li (by unfold chkF; first
          | (rw [h1]; rfl)
          | (rw [h1, decide_eq_true (by omega)]; rfl)
          | (rw [h1, decide_eq_false (by omega), permS_no (by omega) (bnot_t h4)]; rfl)
          | (rw [h1, decide_eq_false (by omega), permS_yes fun j hj => hI0.2.2 j (by omega)]; rfl))
    ·
     refine At rfl ?_
     refine NR ⟨[(1, .bref 2 0), (3, vI ((k : Nat) : Int))], [(2, .box 175 [vS (bsO (Prod.fst f)), vS (bsO (Prod.snd f))])]⟩ (sb rfl rfl rfl) rfl ?_
     refine mv rfl ?_
     refine RO (Body.add rfl rfl (by unfold R64; omega)) ?_
     refine ag rfl ?_
     refine RN ?_
     refine Aq rfl ?_
     refine PK.lp ?_
     refine LP.mk (k + 1) ?_ ?_ (sb rfl rfl rfl)
     · show (k + 1) ≤ List.length (Prod.snd f) ∧ List.length (Prod.snd f) ≤ 60 ∧ ∀ j, j < (k + 1) → permI (byteAt (bsO (Prod.snd f)) j) = true
       refine ⟨by omega, hI0.2.1, fun j hj => ?_⟩; rcases Nat.lt_succ_iff_lt_or_eq.1 hj with h | h; exact hI0.2.2 j h; subst h; exact bnot_f h4
     · show List.length (Prod.snd f) - (k + 1) < List.length (Prod.snd f) - k
       omega
   ·
    refine At rfl ?_
    refine TK.exit ?_
    refine PK.exit rfl ?_
    refine Ap rfl ?_
    refine NR ⟨[], []⟩ (sb rfl rfl rfl) rfl ?_
    refine ag rfl ?_
    refine RN ?_
    refine Ap rfl ?_
    refine TK.ret ?_
    refine PK.ret ?_
    refine leaf (val0 := vI 0) (by kernel_rfl) ?_
    exact li (by unfold chkF; first
          | (rw [h1]; rfl)
          | (rw [h1, decide_eq_true (by omega)]; rfl)
          | (rw [h1, decide_eq_false (by omega), permS_no (by omega) (bnot_t h4)]; rfl)
          | (rw [h1, decide_eq_false (by omega), permS_yes fun j hj => hI0.2.2 j (by omega)]; rfl))
set_option maxHeartbeats 2000000 in
theorem w38 (l : List Fld) (hl : l.length ≤ 1000000000000000) : CallOk Tryz.prog 38 [vL eF l] (lookM []) (vI (chkFl l)) [] := by
 haveI := tab_ok
 obtain ⟨fn, f1, f2, f3, f4, _, f6⟩ := qf38
 refine callOk_of (Y := tab) (F := fn38) f1 (f2.trans rfl) f3 f4 f6 (Nat.le_of_ble_eq_true rfl) rfl ?_
 clear f1 f2 f3 f4 f6
 show TK _ _ _ _ _ _ ⟨[(0, vL eF l)], []⟩
 refine At rfl ?_
 refine NR ⟨[(0, vL eF l)], []⟩ (sb rfl rfl rfl) rfl ?_
 refine ag rfl ?_
 refine RN ?_
 refine Ap rfl ?_
 refine NR ⟨[(0, vL eF l)], []⟩ (sb rfl rfl rfl) rfl ?_
 refine mv rfl ?_
 refine RO (Body.lenL rfl un60) ?_
 refine RO (Body.gtr rfl rfl) ?_
 refine RN ?_
 refine Ap rfl ?_
 refine TK.norm ⟨[(0, vL eF l), (7, vB (decide (24 < ((List.length l : Nat) : Int))))], []⟩ (sb rfl rfl rfl) ?_
 refine TK.condP rfl (fun h1 => ?_) (fun h1 => ?_)
 ·
  refine At rfl ?_
  refine NR ⟨[], []⟩ (sb rfl rfl rfl) rfl ?_
  refine ag rfl ?_
  refine RN ?_
  refine Ap rfl ?_
  refine TK.ret ?_
  refine PK.ret ?_
  refine leaf (val0 := vI 5) (by kernel_rfl) ?_
  exact li (by first
          | (unfold chkFl; rw [decide_eq_true (by omega)]; rfl)
          | (rw [hI0.2.2, fGo_err (by omega) (by rw [f_bad h3]; exact h3), f_bad h3])
          | (rw [hI0.2.2, fGo_err (by omega) (by rw [f_ord h3 h4]; decide), f_ord h3 h4])
          | (rw [hI0.2.2, show List.length l - k = 0 by omega]; rfl))
 ·
  refine At rfl ?_
  refine NR ⟨[(0, vL eF l)], []⟩ (sb rfl rfl rfl) rfl ?_
  refine ag rfl ?_
  refine RN ?_
  refine Ap rfl ?_
  refine TK.loop (α := Nat) (fun x => ⟨[(0, vL eF l), (3, vI ((x : Nat) : Int))], []⟩) (fun x => x ≤ List.length l ∧ List.length l ≤ 24 ∧ chkFl l = fGo l (List.length l - x) x) (fun x => List.length l - x) 0 ?_ (sb rfl rfl rfl) ?_
  · show 0 ≤ List.length l ∧ List.length l ≤ 24 ∧ chkFl l = fGo l (List.length l - 0) 0
    exact ⟨Nat.zero_le _, by omega, by unfold chkFl; rw [decide_eq_false (by omega)]; rfl⟩
  rintro k hI0
  replace hI0 : k ≤ List.length l ∧ List.length l ≤ 24 ∧ chkFl l = fGo l (List.length l - k) k := hI0
  show TK _ _ _ _ _ _ ⟨[(0, vL eF l), (3, vI ((k : Nat) : Int))], []⟩
  refine At rfl ?_
  refine NR ⟨[(0, vL eF l), (3, vI ((k : Nat) : Int))], []⟩ (sb rfl rfl rfl) rfl ?_
  refine mv rfl ?_
  refine mv rfl ?_
  refine RO (Body.lenL rfl un60) ?_
  refine RO (Body.lss rfl rfl) ?_
  refine RN ?_
  refine Ap rfl ?_
  refine TK.norm ⟨[(0, vL eF l), (3, vI ((k : Nat) : Int)), (11, vB (decide (((k : Nat) : Int) < ((List.length l : Nat) : Int))))], []⟩ (sb rfl rfl rfl) ?_
  refine TK.condP rfl (fun h2 => ?_) (fun h2 => ?_)
  ·
   refine At rfl ?_
   refine NR ⟨[(0, vL eF l), (3, vI ((k : Nat) : Int))], []⟩ (sb rfl rfl rfl) rfl ?_
   refine mv rfl ?_
   refine mv rfl ?_
   refine RO (Body.idx (z := ([], [])) (i := k) rfl rfl un60 sz175 (fun _ => rfl) rfl (by first | omega | (have hc2 := hc; simp at hc2; omega))) ?_
   refine RO (Body.loadA (ds := [pS (bsO (Prod.fst (List.getD l k ([], [])))), pS (bsO (Prod.snd (List.getD l k ([], []))))]) rfl ag175 sz175 (Nat.le_of_ble_eq_true rfl) rfl) ?_
   refine RO (Body.call (w118 (List.getD l k ([], []))) rfl rfl rfl) ?_
   refine ag rfl ?_
   refine RN ?_
   refine Ap rfl ?_
   refine NR ⟨[(0, vL eF l), (3, vI ((k : Nat) : Int)), (4, vI (chkF (List.getD l k ([], []))))], []⟩ (sb rfl rfl rfl) rfl ?_
   refine mv rfl ?_
   refine RO (Body.neq rfl rfl) ?_
   refine RN ?_
   refine Ap rfl ?_
   refine TK.norm ⟨[(0, vL eF l), (3, vI ((k : Nat) : Int)), (4, vI (chkF (List.getD l k ([], [])))), (20, vB (decide ((chkF (List.getD l k ([], []))) ≠ 0)))], []⟩ (sb rfl rfl rfl) ?_
   refine TK.condP rfl (fun h3 => ?_) (fun h3 => ?_)
   ·
    refine At rfl ?_
    refine NR ⟨[(4, vI (chkF (List.getD l k ([], []))))], []⟩ (sb rfl rfl rfl) rfl ?_
    refine mv rfl ?_
    refine ag rfl ?_
    refine RN ?_
    refine Ap rfl ?_
    refine TK.ret ?_
    refine PK.ret ?_
    refine leaf (val0 := vI (chkF (List.getD l k ([], [])))) (by kernel_rfl) ?_
    exact li (by first
          | (unfold chkFl; rw [decide_eq_true (by omega)]; rfl)
          | (rw [hI0.2.2, fGo_err (by omega) (by rw [f_bad h3]; exact h3), f_bad h3])
          | (rw [hI0.2.2, fGo_err (by omega) (by rw [f_ord h3 h4]; decide), f_ord h3 h4])
          | (rw [hI0.2.2, show List.length l - k = 0 by omega]; rfl))
   ·
    refine At rfl ?_
    refine NR ⟨[(0, vL eF l), (3, vI ((k : Nat) : Int))], []⟩ (sb rfl rfl rfl) rfl ?_
    refine mv rfl ?_
    refine RO (Body.gtr rfl rfl) ?_
    refine mv rfl ?_
    refine RG.cons (EfR.sym rfl (fun hc => Body.move rfl) rfl) ?_
    refine RG.cons (EfR.sym rfl (fun hc => Body.move rfl) rfl) ?_
    refine RG.cons (EfR.sym rfl (fun hc => Body.idx (z := ([], [])) (i := k) (ev1_gd rfl hc) (ev1_gd rfl hc) un60 sz175 (fun _ => rfl) rfl (by first | omega | (have hc2 := hc; simp at hc2; omega))) rfl) ?_
    refine RG.cons (EfR.sym rfl (fun hc => Body.fadP (ev1_gd rfl hc) fa175_0 rfl) rfl) ?_
    refine RG.cons (EfR.sym rfl (fun hc => Body.loadP (ev1_gd rfl hc) ag9 sz9) rfl) ?_
    refine RG.cons (EfR.sym rfl (fun hc => Body.move rfl) rfl) ?_
    refine RG.cons (EfR.sym rfl (fun hc => Body.move rfl) rfl) ?_
    refine RG.cons (EfR.sym rfl (fun hc => Body.sub (ev1_gd rfl hc) rfl (by unfold R64; omega)) rfl) ?_
    refine RG.cons (EfR.sym rfl (fun hc => Body.idx (z := ([], [])) (i := (k - 1)) (ev1_gd rfl hc) (ev1_gd rfl hc) un60 sz175 (fun _ => rfl) (by first | omega | (have hc2 := hc; simp at hc2; omega)) (by first | omega | (have hc2 := hc; simp at hc2; omega))) rfl) ?_
    refine RG.cons (EfR.sym rfl (fun hc => Body.fadP (ev1_gd rfl hc) fa175_0 rfl) rfl) ?_
    refine RG.cons (EfR.sym rfl (fun hc => Body.loadP (ev1_gd rfl hc) ag9 sz9) rfl) ?_
    refine RG.cons (EfR.sym rfl (fun hc => Body.sleB (a := (Prod.fst (List.getD l k ([], [])))) (b := (Prod.fst (List.getD l (k - 1) ([], [])))) (ev1_gd rfl hc) (ev1_gd rfl hc)) rfl) ?_
    refine RO (Body.pick rfl rfl rfl (gdB rfl) rfl (pick_and _)) ?_
    refine RG.nil (fun _ => by kernel_rfl) ?_
    refine Ap rfl ?_
    refine TK.norm ⟨[(0, vL eF l), (3, vI ((k : Nat) : Int)), (37, vB (bif (decide (0 < ((k : Nat) : Int))) then (leS (Prod.fst (List.getD l k ([], []))) (Prod.fst (List.getD l (k - 1) ([], [])))) else false))], []⟩ (sb rfl rfl rfl) ?_
    refine TK.cond rfl (fun h4 => ?_) (fun h4 => ?_)
    ·
     refine At rfl ?_
     refine NR ⟨[], []⟩ (sb rfl rfl rfl) rfl ?_
     refine ag rfl ?_
     refine RN ?_
     refine Ap rfl ?_
     refine TK.ret ?_
     refine PK.ret ?_
     refine leaf (val0 := vI 11) (by kernel_rfl) ?_
     exact li (by first
          | (unfold chkFl; rw [decide_eq_true (by omega)]; rfl)
          | (rw [hI0.2.2, fGo_err (by omega) (by rw [f_bad h3]; exact h3), f_bad h3])
          | (rw [hI0.2.2, fGo_err (by omega) (by rw [f_ord h3 h4]; decide), f_ord h3 h4])
          | (rw [hI0.2.2, show List.length l - k = 0 by omega]; rfl))
    ·
     refine At rfl ?_
     refine NR ⟨[(0, vL eF l), (3, vI ((k : Nat) : Int))], []⟩ (sb rfl rfl rfl) rfl ?_
     refine mv rfl ?_
     refine RO (Body.add rfl rfl (by unfold R64; omega)) ?_
     refine ag rfl ?_
     refine RN ?_
     refine Aq rfl ?_
     refine PK.lp ?_
     refine LP.mk (k + 1) ?_ ?_ (sb rfl rfl rfl)
     · show (k + 1) ≤ List.length l ∧ List.length l ≤ 24 ∧ chkFl l = fGo l (List.length l - (k + 1)) (k + 1)
       refine ⟨by omega, hI0.2.1, ?_⟩; rw [hI0.2.2]; exact fGo_step (by omega) (f_ok h3 h4)
     · show List.length l - (k + 1) < List.length l - k
       omega
  ·
   refine At rfl ?_
   refine TK.exit ?_
   refine PK.exit rfl ?_
   refine Ap rfl ?_
   refine NR ⟨[], []⟩ (sb rfl rfl rfl) rfl ?_
   refine ag rfl ?_
   refine RN ?_
   refine Ap rfl ?_
   refine TK.ret ?_
   refine PK.ret ?_
   refine leaf (val0 := vI 0) (by kernel_rfl) ?_
   exact li (by first
          | (unfold chkFl; rw [decide_eq_true (by omega)]; rfl)
          | (rw [hI0.2.2, fGo_err (by omega) (by rw [f_bad h3]; exact h3), f_bad h3])
          | (rw [hI0.2.2, fGo_err (by omega) (by rw [f_ord h3 h4]; decide), f_ord h3 h4])
          | (rw [hI0.2.2, show List.length l - k = 0 by omega]; rfl))
set_option maxHeartbeats 2000000 in
theorem w35 (l : List Fld) (n : Int) (hl : l.length ≤ 1000000000000000) : CallOk Tryz.prog 35 [vL eF l, vI n] (lookM []) (vB (shortF l n)) [] := by
 haveI := tab_ok
 obtain ⟨fn, f1, f2, f3, f4, _, f6⟩ := qf35
 refine callOk_of (Y := tab) (F := fn35) f1 (f2.trans rfl) f3 f4 f6 (Nat.le_of_ble_eq_true rfl) rfl ?_
 clear f1 f2 f3 f4 f6
 show TK _ _ _ _ _ _ ⟨[(0, vL eF l), (1, vI n)], []⟩
 refine At rfl ?_
 refine NR ⟨[(0, vL eF l), (1, vI n)], []⟩ (sb rfl rfl rfl) rfl ?_
 refine ag rfl ?_
 refine RN ?_
 refine Ap rfl ?_
 refine NR ⟨[(0, vL eF l), (1, vI n)], []⟩ (sb rfl rfl rfl) rfl ?_
 refine mv rfl ?_
 refine RO (Body.lenL rfl un60) ?_
 refine mv rfl ?_
 refine RO (Body.gtr rfl rfl) ?_
 refine mv rfl ?_
 refine RG.cons (EfR.sym rfl (fun hc => Body.move rfl) rfl) ?_
 refine RG.cons (EfR.sym rfl (fun hc => Body.lenL (ev1_gd rfl hc) un60) rfl) ?_
 refine RG.cons (EfR.sym rfl (fun hc => Body.leq (ev1_gd rfl hc) rfl) rfl) ?_
 refine RO (Body.pick rfl rfl rfl (gdB rfl) rfl (pick_and _)) ?_
 refine mv rfl ?_
 refine RG.cons (EfR.sym rfl (fun hc => Body.move rfl) rfl) ?_
 refine RG.cons (EfR.sym rfl (fun hc => Body.lenL (ev1_gd rfl hc) un60) rfl) ?_
 refine RG.cons (EfR.sym rfl (fun hc => Body.gtr (ev1_gd rfl hc) rfl) rfl) ?_
 refine RO (Body.pick rfl rfl rfl rfl (gdB rfl) (pick_or _)) ?_
 refine RN ?_
 refine Ap rfl ?_
 refine TK.norm ⟨[(0, vL eF l), (19, vB (bif (bif (decide (n < ((List.length l : Nat) : Int))) then (decide (((List.length l : Nat) : Int) ≤ 24)) else false) then true else (decide (26 < ((List.length l : Nat) : Int)))))], []⟩ (sb rfl rfl rfl) ?_
 refine TK.cond rfl (fun h1 => ?_) (fun h1 => ?_)
 ·
  refine At rfl ?_
  refine NR ⟨[], []⟩ (sb rfl rfl rfl) rfl ?_
  refine ag rfl ?_
  refine RN ?_
  refine Ap rfl ?_
  refine TK.ret ?_
  refine PK.ret ?_
  refine leaf (val0 := vB false) (by kernel_rfl) ?_
  exact lb (by first
          | exact (sf_many h1).symm
          | exact (sf_no h1 (by omega) h3).symm
          | exact (sf_yes h1 fun j hj => hI0.2 j (by omega)).symm)
 ·
  refine At rfl ?_
  refine NR ⟨[(0, vL eF l)], []⟩ (sb rfl rfl rfl) rfl ?_
  refine ag rfl ?_
  refine RN ?_
  refine Ap rfl ?_
  refine TK.loop (α := Nat) (fun x => ⟨[(0, vL eF l), (5, vI ((x : Nat) : Int))], []⟩) (fun x => x ≤ List.length l ∧ ∀ j, j < x → (decide (List.length (List.getD l j ([], [])).1 ≤ 60) && decide (List.length (List.getD l j ([], [])).2 ≤ 100)) = true) (fun x => List.length l - x) 0 ?_ (sb rfl rfl rfl) ?_
  · show 0 ≤ List.length l ∧ ∀ j, j < 0 → (decide (List.length (List.getD l j ([], [])).1 ≤ 60) && decide (List.length (List.getD l j ([], [])).2 ≤ 100)) = true
    exact ⟨Nat.zero_le _, fun j hj => by omega⟩
  rintro k hI0
  replace hI0 : k ≤ List.length l ∧ ∀ j, j < k → (decide (List.length (List.getD l j ([], [])).1 ≤ 60) && decide (List.length (List.getD l j ([], [])).2 ≤ 100)) = true := hI0
  show TK _ _ _ _ _ _ ⟨[(0, vL eF l), (5, vI ((k : Nat) : Int))], []⟩
  refine At rfl ?_
  refine NR ⟨[(0, vL eF l), (5, vI ((k : Nat) : Int))], []⟩ (sb rfl rfl rfl) rfl ?_
  refine mv rfl ?_
  refine mv rfl ?_
  refine RO (Body.lenL rfl un60) ?_
  refine RO (Body.lss rfl rfl) ?_
  refine RN ?_
  refine Ap rfl ?_
  refine TK.norm ⟨[(0, vL eF l), (5, vI ((k : Nat) : Int)), (23, vB (decide (((k : Nat) : Int) < ((List.length l : Nat) : Int))))], []⟩ (sb rfl rfl rfl) ?_
  refine TK.condP rfl (fun h2 => ?_) (fun h2 => ?_)
  ·
   refine At rfl ?_
   refine NR ⟨[(0, vL eF l), (5, vI ((k : Nat) : Int))], []⟩ (sb rfl rfl rfl) rfl ?_
   refine mv rfl ?_
   refine mv rfl ?_
   refine RO (Body.idx (z := ([], [])) (i := k) rfl rfl un60 sz175 (fun _ => rfl) rfl (by omega)) ?_
   refine RO (Body.fadP rfl fa175_0 rfl) ?_
   refine RO (Body.loadP rfl ag9 sz9) ?_
   refine RO (Body.lenB (a := (Prod.fst (List.getD l k ([], [])))) rfl un9) ?_
   refine RO (Body.gtr rfl rfl) ?_
   refine mv rfl ?_
   refine RG.cons (EfR.sym rfl (fun hc => Body.move rfl) rfl) ?_
   refine RG.cons (EfR.sym rfl (fun hc => Body.move rfl) rfl) ?_
   refine RG.cons (EfR.sym rfl (fun hc => Body.idx (z := ([], [])) (i := k) (ev1_gd rfl hc) (ev1_gd rfl hc) un60 sz175 (fun _ => rfl) rfl (by omega)) rfl) ?_
   refine RG.cons (EfR.sym rfl (fun hc => Body.fadP (ev1_gd rfl hc) fa175_1 rfl) rfl) ?_
   refine RG.cons (EfR.sym rfl (fun hc => Body.loadP (ev1_gd rfl hc) ag9 sz9) rfl) ?_
   refine RG.cons (EfR.sym rfl (fun hc => Body.lenB (a := (Prod.snd (List.getD l k ([], [])))) (ev1_gd rfl hc) un9) rfl) ?_
   refine RG.cons (EfR.sym rfl (fun hc => Body.gtr (ev1_gd rfl hc) rfl) rfl) ?_
   refine RO (Body.pick rfl rfl rfl rfl (gdB rfl) (pick_or _)) ?_
   refine RN ?_
   refine Ap rfl ?_
   refine TK.norm ⟨[(0, vL eF l), (5, vI ((k : Nat) : Int)), (41, vB (bif (decide (60 < ((List.length (Prod.fst (List.getD l k ([], []))) : Nat) : Int))) then true else (decide (100 < ((List.length (Prod.snd (List.getD l k ([], []))) : Nat) : Int)))))], []⟩ (sb rfl rfl rfl) ?_
   refine TK.cond rfl (fun h3 => ?_) (fun h3 => ?_)
   ·
    refine At rfl ?_
    refine NR ⟨[], []⟩ (sb rfl rfl rfl) rfl ?_
    refine ag rfl ?_
    refine RN ?_
    refine Ap rfl ?_
    refine TK.ret ?_
    refine PK.ret ?_
    refine leaf (val0 := vB false) (by kernel_rfl) ?_
    exact lb (by first
          | exact (sf_many h1).symm
          | exact (sf_no h1 (by omega) h3).symm
          | exact (sf_yes h1 fun j hj => hI0.2 j (by omega)).symm)
   ·
    refine At rfl ?_
    refine NR ⟨[(0, vL eF l), (5, vI ((k : Nat) : Int))], []⟩ (sb rfl rfl rfl) rfl ?_
    refine mv rfl ?_
    refine RO (Body.add rfl rfl (by unfold R64; omega)) ?_
    refine ag rfl ?_
    refine RN ?_
    refine Aq rfl ?_
    refine PK.lp ?_
    refine LP.mk (k + 1) ?_ ?_ (sb rfl rfl rfl)
    · show (k + 1) ≤ List.length l ∧ ∀ j, j < (k + 1) → (decide (List.length (List.getD l j ([], [])).1 ≤ 60) && decide (List.length (List.getD l j ([], [])).2 ≤ 100)) = true
      refine ⟨by omega, fun j hj => ?_⟩; rcases Nat.lt_succ_iff_lt_or_eq.1 hj with h | h; exact hI0.2 j h; subst h; exact sf_ok h3
    · show List.length l - (k + 1) < List.length l - k
      omega
  ·
   refine At rfl ?_
   refine TK.exit ?_
   refine PK.exit rfl ?_
   refine Ap rfl ?_
   refine NR ⟨[], []⟩ (sb rfl rfl rfl) rfl ?_
   refine ag rfl ?_
   refine RN ?_
   refine Ap rfl ?_
   refine TK.ret ?_
   refine PK.ret ?_
   refine leaf (val0 := vB true) (by kernel_rfl) ?_
   exact lb (by first
          | exact (sf_many h1).symm
          | exact (sf_no h1 (by omega) h3).symm
          | exact (sf_yes h1 fun j hj => hI0.2 j (by omega)).symm)
set_option maxHeartbeats 2000000 in
theorem w34 (l : List Fld) (hl : l.length * 32 ≤ 140737488355328) : CallOk Tryz.prog 34 [vL eF l] (lookM []) (vL eF l) [] := by
 haveI := tab_ok
 obtain ⟨fn, f1, f2, f3, f4, _, f6⟩ := qf34
 refine callOk_of (Y := tab) (F := fn34) f1 (f2.trans rfl) f3 f4 f6 (Nat.le_of_ble_eq_true rfl) rfl ?_
 clear f1 f2 f3 f4 f6
 show TK _ _ _ _ _ _ ⟨[(0, vL eF l)], []⟩
 refine At rfl ?_
 refine NR ⟨[(0, vL eF l)], []⟩ (sb rfl rfl rfl) rfl ?_
 refine RO (Body.nilS (enc := eF) rfl) ?_
 refine RN ?_
 refine Ap rfl ?_
 refine NR ⟨[(0, vL eF l)], []⟩ (sb rfl rfl rfl) rfl ?_
 refine RO (Body.adopt 4 2 175 rfl rfl) ?_
 refine RN ?_
 refine Ap rfl ?_
 refine NR ⟨[(0, vL eF l), (3, .aref 4 0)], [(4, .arr 0 2 175 (List.map eF []))]⟩ (sb rfl rfl rfl) rfl ?_
 refine mv rfl ?_
 refine RO (Body.lenL rfl un59) ?_
 refine mv rfl ?_
 refine RN ?_
 refine Ap rfl ?_
 refine TK.loop (α := Nat × Nat × List Fld) (fun x => ⟨[(3, .aref 4 x.2.1), (6, vL eF l), (7, vI ((List.length l : Nat) : Int)), (8, vI ((x.1 : Nat) : Int))], [(4, .arr x.2.1 2 175 (List.map eF x.2.2))]⟩) (fun x => x.1 ≤ List.length l ∧ x.2.2 = List.take x.1 l) (fun x => List.length l - x.1) (0, 0, []) ?_ (sb rfl rfl rfl) ?_
 · show 0 ≤ List.length l ∧ [] = List.take 0 l
   exact ⟨Nat.zero_le _, rfl⟩
 rintro ⟨k, v, out⟩ hI0
 replace hI0 : k ≤ List.length l ∧ out = List.take k l := hI0
 have hol : List.length out ≤ k := by rw [hI0.2, List.length_take]; omega
 show TK _ _ _ _ _ _ ⟨[(3, .aref 4 v), (6, vL eF l), (7, vI ((List.length l : Nat) : Int)), (8, vI ((k : Nat) : Int))], [(4, .arr v 2 175 (List.map eF out))]⟩
 refine At rfl ?_
 refine NR ⟨[(3, .aref 4 v), (6, vL eF l), (7, vI ((List.length l : Nat) : Int)), (8, vI ((k : Nat) : Int))], [(4, .arr v 2 175 (List.map eF out))]⟩ (sb rfl rfl rfl) rfl ?_
 refine RO (Body.lss rfl rfl) ?_
 refine RN ?_
 refine Ap rfl ?_
 refine TK.norm ⟨[(3, .aref 4 v), (6, vL eF l), (7, vI ((List.length l : Nat) : Int)), (8, vI ((k : Nat) : Int)), (9, vB (decide (((k : Nat) : Int) < ((List.length l : Nat) : Int))))], [(4, .arr v 2 175 (List.map eF out))]⟩ (sb rfl rfl rfl) ?_
 refine TK.condP rfl (fun h1 => ?_) (fun h1 => ?_)
 ·
  refine At rfl ?_
  refine NR ⟨[(3, .aref 4 v), (6, vL eF l), (7, vI ((List.length l : Nat) : Int)), (8, vI ((k : Nat) : Int))], [(4, .arr v 2 175 (List.map eF out))]⟩ (sb rfl rfl rfl) rfl ?_
  refine RO (Body.idx (z := ([], [])) (i := k) rfl rfl un59 sz174 (fun _ => rfl) rfl (by first | omega | (simp only [List.length_append, List.length_cons, List.length_nil, List.length_take]; omega))) ?_
  refine RO (Body.loadA (ds := [pS (bsO (Prod.fst (List.getD l k ([], [])))), pS (bsO (Prod.snd (List.getD l k ([], []))))]) rfl ag174 sz174 (Nat.le_of_ble_eq_true rfl) rfl) ?_
  refine rn rfl ?_
  refine rn rfl ?_
  refine RN ?_
  refine Ap rfl ?_
  refine NR ⟨[(3, .aref 4 v), (5, .bref 6 0), (6, vL eF l), (7, vI ((List.length l : Nat) : Int)), (8, vI ((k : Nat) : Int))], [(4, .arr v 2 175 (List.map eF out)), (6, .box 174 [vS (bsO (Prod.fst (List.getD l k ([], [])))), vS (bsO (Prod.snd (List.getD l k ([], []))))])]⟩ (sb rfl rfl rfl) rfl ?_
  refine rn rfl ?_
  refine RO (Body.loadBA rfl rfl rfl ag174 sz174 rfl rfl) ?_
  refine RO (Body.runZ (val := .pv (.slice (List.map eF [(List.getD l k ([], []))]))) rfl (fun l => Frz.arr l _ _ _ _ _) rfl) ?_
  refine RO (Body.append rfl rfl rfl un60 in175 rfl (fun _ => rfl) by175 (by first | omega | (simp only [List.length_append, List.length_cons, List.length_nil, List.length_take]; omega))) ?_
  refine rn rfl ?_
  refine RN ?_
  refine Ap rfl ?_
  refine NR ⟨[(3, .aref 4 (v + 1)), (6, vL eF l), (7, vI ((List.length l : Nat) : Int)), (8, vI ((k : Nat) : Int))], [(4, .arr (v + 1) 2 175 (List.map eF (out ++ [(List.getD l k ([], []))])))]⟩ (sb rfl rfl rfl) rfl ?_
  refine RO (Body.add rfl rfl (by unfold R64; omega)) ?_
  refine mv rfl ?_
  refine RN ?_
  refine Aq rfl ?_
  refine PK.lp ?_
  refine LP.mk ((k + 1), (v + 1), (out ++ [(List.getD l k ([], []))])) ?_ ?_ (sb rfl rfl rfl)
  · show (k + 1) ≤ List.length l ∧ (out ++ [(List.getD l k ([], []))]) = List.take (k + 1) l
    refine ⟨by omega, ?_⟩; rw [hI0.2]; exact (take_fld l k (by omega)).symm
  · show List.length l - (k + 1) < List.length l - k
    omega
 ·
  refine At rfl ?_
  refine TK.exit ?_
  refine PK.exit rfl ?_
  refine Ap rfl ?_
  refine TK.norm ⟨[(3, .aref 4 v)], [(4, .arr v 2 175 (List.map eF out))]⟩ (sb rfl rfl rfl) ?_
  refine TK.frz (t := 3) rfl rfl ?_
  refine NR ⟨[(3, vL eF out)], []⟩ (sb rfl rfl rfl) rfl ?_
  refine mv rfl ?_
  refine ag rfl ?_
  refine RN ?_
  refine Ap rfl ?_
  refine TK.ret ?_
  refine PK.ret ?_
  refine leaf (val0 := vL eF out) (by kernel_rfl) ?_
  exact lsl (by rw [hI0.2, List.take_of_length_le (by omega)])
set_option maxHeartbeats 2000000 in
theorem w42 (a b : List Fld) (hl : a.length ≤ 1000000000000000) : CallOk Tryz.prog 42 [vL eF a, vL eF b] (lookM []) (vB (decide (a = b))) [] := by
 haveI := tab_ok
 obtain ⟨fn, f1, f2, f3, f4, _, f6⟩ := qf42
 refine callOk_of (Y := tab) (F := fn42) f1 (f2.trans rfl) f3 f4 f6 (Nat.le_of_ble_eq_true rfl) rfl ?_
 clear f1 f2 f3 f4 f6
 show TK _ _ _ _ _ _ ⟨[(0, vL eF a), (1, vL eF b)], []⟩
 refine At rfl ?_
 refine NR ⟨[(0, vL eF a), (1, vL eF b)], []⟩ (sb rfl rfl rfl) rfl ?_
 refine ag rfl ?_
 refine RN ?_
 refine Ap rfl ?_
 refine NR ⟨[(0, vL eF a), (1, vL eF b)], []⟩ (sb rfl rfl rfl) rfl ?_
 refine mv rfl ?_
 refine RO (Body.lenL rfl un60) ?_
 refine mv rfl ?_
 refine RO (Body.lenL rfl un60) ?_
 refine RO (Body.neq rfl rfl) ?_
 refine RN ?_
 refine Ap rfl ?_
 refine TK.norm ⟨[(0, vL eF a), (1, vL eF b), (10, vB (decide (((List.length a : Nat) : Int) ≠ ((List.length b : Nat) : Int))))], []⟩ (sb rfl rfl rfl) ?_
 refine TK.condP rfl (fun h1 => ?_) (fun h1 => ?_)
 ·
  refine At rfl ?_
  refine NR ⟨[], []⟩ (sb rfl rfl rfl) rfl ?_
  refine ag rfl ?_
  refine RN ?_
  refine Ap rfl ?_
  refine TK.ret ?_
  refine PK.ret ?_
  refine leaf (val0 := vB false) (by kernel_rfl) ?_
  exact lb (by first
          | exact (decide_eq_false fun e => by subst e; omega).symm
          | exact (decide_eq_false fun e => by subst e; first | exact st_ne h3 rfl | exact h3 rfl).symm
          | exact (decide_eq_true (eq_getD ([], []) hI0.2.1 fun j hj => hI0.2.2 j (by omega))).symm)
 ·
  refine At rfl ?_
  refine NR ⟨[(0, vL eF a), (1, vL eF b)], []⟩ (sb rfl rfl rfl) rfl ?_
  refine ag rfl ?_
  refine RN ?_
  refine Ap rfl ?_
  refine TK.loop (α := Nat) (fun x => ⟨[(0, vL eF a), (1, vL eF b), (5, vI ((x : Nat) : Int))], []⟩) (fun x => x ≤ List.length a ∧ List.length a = List.length b ∧ ∀ j, j < x → List.getD a j ([], []) = List.getD b j ([], [])) (fun x => List.length a - x) 0 ?_ (sb rfl rfl rfl) ?_
  · show 0 ≤ List.length a ∧ List.length a = List.length b ∧ ∀ j, j < 0 → List.getD a j ([], []) = List.getD b j ([], [])
    exact ⟨Nat.zero_le _, by omega, fun j hj => by omega⟩
  rintro k hI0
  replace hI0 : k ≤ List.length a ∧ List.length a = List.length b ∧ ∀ j, j < k → List.getD a j ([], []) = List.getD b j ([], []) := hI0
  show TK _ _ _ _ _ _ ⟨[(0, vL eF a), (1, vL eF b), (5, vI ((k : Nat) : Int))], []⟩
  refine At rfl ?_
  refine NR ⟨[(0, vL eF a), (1, vL eF b), (5, vI ((k : Nat) : Int))], []⟩ (sb rfl rfl rfl) rfl ?_
  refine mv rfl ?_
  refine mv rfl ?_
  refine RO (Body.lenL rfl un60) ?_
  refine RO (Body.lss rfl rfl) ?_
  refine RN ?_
  refine Ap rfl ?_
  refine TK.norm ⟨[(0, vL eF a), (1, vL eF b), (5, vI ((k : Nat) : Int)), (14, vB (decide (((k : Nat) : Int) < ((List.length a : Nat) : Int))))], []⟩ (sb rfl rfl rfl) ?_
  refine TK.condP rfl (fun h2 => ?_) (fun h2 => ?_)
  ·
   refine At rfl ?_
   refine NR ⟨[(0, vL eF a), (1, vL eF b), (5, vI ((k : Nat) : Int))], []⟩ (sb rfl rfl rfl) rfl ?_
   refine mv rfl ?_
   refine mv rfl ?_
   refine RO (Body.idx (z := ([], [])) (i := k) rfl rfl un60 sz175 (fun _ => rfl) rfl (by omega)) ?_
   refine RO (Body.loadA (ds := [pS (bsO (Prod.fst (List.getD a k ([], [])))), pS (bsO (Prod.snd (List.getD a k ([], []))))]) rfl ag175 sz175 (Nat.le_of_ble_eq_true rfl) rfl) ?_
   refine mv rfl ?_
   refine mv rfl ?_
   refine RO (Body.idx (z := ([], [])) (i := k) rfl rfl un60 sz175 (fun _ => rfl) rfl (by omega)) ?_
   refine RO (Body.loadA (ds := [pS (bsO (Prod.fst (List.getD b k ([], [])))), pS (bsO (Prod.snd (List.getD b k ([], []))))]) rfl ag175 sz175 (Nat.le_of_ble_eq_true rfl) rfl) ?_
   refine RO (Body.st2neq rfl rfl ff175) ?_
   refine RG.nil (fun _ => by kernel_rfl) ?_
   refine Ap rfl ?_
   refine TK.norm ⟨[(0, vL eF a), (1, vL eF b), (5, vI ((k : Nat) : Int)), (25, vB (!(decide ((Prod.fst (List.getD a k ([], []))) = (Prod.fst (List.getD b k ([], [])))) && decide ((Prod.snd (List.getD a k ([], []))) = (Prod.snd (List.getD b k ([], [])))))))], []⟩ (sb rfl rfl rfl) ?_
   refine TK.cond rfl (fun h3 => ?_) (fun h3 => ?_)
   ·
    refine At rfl ?_
    refine NR ⟨[], []⟩ (sb rfl rfl rfl) rfl ?_
    refine ag rfl ?_
    refine RN ?_
    refine Ap rfl ?_
    refine TK.ret ?_
    refine PK.ret ?_
    refine leaf (val0 := vB false) (by kernel_rfl) ?_
    exact lb (by first
          | exact (decide_eq_false fun e => by subst e; omega).symm
          | exact (decide_eq_false fun e => by subst e; first | exact st_ne h3 rfl | exact h3 rfl).symm
          | exact (decide_eq_true (eq_getD ([], []) hI0.2.1 fun j hj => hI0.2.2 j (by omega))).symm)
   ·
    refine At rfl ?_
    refine NR ⟨[(0, vL eF a), (1, vL eF b), (5, vI ((k : Nat) : Int))], []⟩ (sb rfl rfl rfl) rfl ?_
    refine mv rfl ?_
    refine RO (Body.add rfl rfl (by unfold R64; omega)) ?_
    refine ag rfl ?_
    refine RN ?_
    refine Aq rfl ?_
    refine PK.lp ?_
    refine LP.mk (k + 1) ?_ ?_ (sb rfl rfl rfl)
    · show (k + 1) ≤ List.length a ∧ List.length a = List.length b ∧ ∀ j, j < (k + 1) → List.getD a j ([], []) = List.getD b j ([], [])
      refine ⟨by omega, hI0.2.1, fun j hj => ?_⟩; rcases Nat.lt_succ_iff_lt_or_eq.1 hj with h | h; exact hI0.2.2 j h; subst h; first | exact st_eq h3 | exact Decidable.not_not.1 h3
    · show List.length a - (k + 1) < List.length a - k
      omega
  ·
   refine At rfl ?_
   refine TK.exit ?_
   refine PK.exit rfl ?_
   refine Ap rfl ?_
   refine NR ⟨[], []⟩ (sb rfl rfl rfl) rfl ?_
   refine ag rfl ?_
   refine RN ?_
   refine Ap rfl ?_
   refine TK.ret ?_
   refine PK.ret ?_
   refine leaf (val0 := vB true) (by kernel_rfl) ?_
   exact lb (by first
          | exact (decide_eq_false fun e => by subst e; omega).symm
          | exact (decide_eq_false fun e => by subst e; first | exact st_ne h3 rfl | exact h3 rfl).symm
          | exact (decide_eq_true (eq_getD ([], []) hI0.2.1 fun j hj => hI0.2.2 j (by omega))).symm)
set_option maxHeartbeats 2000000 in
theorem w45 (a b : List (List UInt8)) (hl : a.length ≤ 1000000000000000) : CallOk Tryz.prog 45 [vL eN a, vL eN b] (lookM []) (vB (decide (a = b))) [] := by
 haveI := tab_ok
 obtain ⟨fn, f1, f2, f3, f4, _, f6⟩ := qf45
 refine callOk_of (Y := tab) (F := fn45) f1 (f2.trans rfl) f3 f4 f6 (Nat.le_of_ble_eq_true rfl) rfl ?_
 clear f1 f2 f3 f4 f6
 show TK _ _ _ _ _ _ ⟨[(0, vL eN a), (1, vL eN b)], []⟩
 refine At rfl ?_
 refine NR ⟨[(0, vL eN a), (1, vL eN b)], []⟩ (sb rfl rfl rfl) rfl ?_
 refine ag rfl ?_
 refine RN ?_
 refine Ap rfl ?_
 refine NR ⟨[(0, vL eN a), (1, vL eN b)], []⟩ (sb rfl rfl rfl) rfl ?_
 refine mv rfl ?_
 refine RO (Body.lenL rfl un73) ?_
 refine mv rfl ?_
 refine RO (Body.lenL rfl un73) ?_
 refine RO (Body.neq rfl rfl) ?_
 refine RN ?_
 refine Ap rfl ?_
 refine TK.norm ⟨[(0, vL eN a), (1, vL eN b), (10, vB (decide (((List.length a : Nat) : Int) ≠ ((List.length b : Nat) : Int))))], []⟩ (sb rfl rfl rfl) ?_
 refine TK.condP rfl (fun h1 => ?_) (fun h1 => ?_)
 ·
  refine At rfl ?_
  refine NR ⟨[], []⟩ (sb rfl rfl rfl) rfl ?_
  refine ag rfl ?_
  refine RN ?_
  refine Ap rfl ?_
  refine TK.ret ?_
  refine PK.ret ?_
  refine leaf (val0 := vB false) (by kernel_rfl) ?_
  exact lb (by first
          | exact (decide_eq_false fun e => by subst e; omega).symm
          | exact (decide_eq_false fun e => by subst e; first | exact st_ne h3 rfl | exact h3 rfl).symm
          | exact (decide_eq_true (eq_getD [] hI0.2.1 fun j hj => hI0.2.2 j (by omega))).symm)
 ·
  refine At rfl ?_
  refine NR ⟨[(0, vL eN a), (1, vL eN b)], []⟩ (sb rfl rfl rfl) rfl ?_
  refine ag rfl ?_
  refine RN ?_
  refine Ap rfl ?_
  refine TK.loop (α := Nat) (fun x => ⟨[(0, vL eN a), (1, vL eN b), (5, vI ((x : Nat) : Int))], []⟩) (fun x => x ≤ List.length a ∧ List.length a = List.length b ∧ ∀ j, j < x → List.getD a j [] = List.getD b j []) (fun x => List.length a - x) 0 ?_ (sb rfl rfl rfl) ?_
  · show 0 ≤ List.length a ∧ List.length a = List.length b ∧ ∀ j, j < 0 → List.getD a j [] = List.getD b j []
    exact ⟨Nat.zero_le _, by omega, fun j hj => by omega⟩
  rintro k hI0
  replace hI0 : k ≤ List.length a ∧ List.length a = List.length b ∧ ∀ j, j < k → List.getD a j [] = List.getD b j [] := hI0
  show TK _ _ _ _ _ _ ⟨[(0, vL eN a), (1, vL eN b), (5, vI ((k : Nat) : Int))], []⟩
  refine At rfl ?_
  refine NR ⟨[(0, vL eN a), (1, vL eN b), (5, vI ((k : Nat) : Int))], []⟩ (sb rfl rfl rfl) rfl ?_
  refine mv rfl ?_
  refine mv rfl ?_
  refine RO (Body.lenL rfl un73) ?_
  refine RO (Body.lss rfl rfl) ?_
  refine RN ?_
  refine Ap rfl ?_
  refine TK.norm ⟨[(0, vL eN a), (1, vL eN b), (5, vI ((k : Nat) : Int)), (14, vB (decide (((k : Nat) : Int) < ((List.length a : Nat) : Int))))], []⟩ (sb rfl rfl rfl) ?_
  refine TK.condP rfl (fun h2 => ?_) (fun h2 => ?_)
  ·
   refine At rfl ?_
   refine NR ⟨[(0, vL eN a), (1, vL eN b), (5, vI ((k : Nat) : Int))], []⟩ (sb rfl rfl rfl) rfl ?_
   refine mv rfl ?_
   refine mv rfl ?_
   refine RO (Body.idx (z := []) (i := k) rfl rfl un73 sz9 (fun _ => rfl) rfl (by omega)) ?_
   refine RO (Body.loadP rfl ag9 sz9) ?_
   refine mv rfl ?_
   refine mv rfl ?_
   refine RO (Body.idx (z := []) (i := k) rfl rfl un73 sz9 (fun _ => rfl) rfl (by omega)) ?_
   refine RO (Body.loadP rfl ag9 sz9) ?_
   refine RO (Body.sneB (a := (List.getD a k [])) (b := (List.getD b k [])) rfl rfl) ?_
   refine RG.nil (fun _ => by kernel_rfl) ?_
   refine Ap rfl ?_
   refine TK.norm ⟨[(0, vL eN a), (1, vL eN b), (5, vI ((k : Nat) : Int)), (25, vB (decide ((List.getD a k []) ≠ (List.getD b k []))))], []⟩ (sb rfl rfl rfl) ?_
   refine TK.condP rfl (fun h3 => ?_) (fun h3 => ?_)
   ·
    refine At rfl ?_
    refine NR ⟨[], []⟩ (sb rfl rfl rfl) rfl ?_
    refine ag rfl ?_
    refine RN ?_
    refine Ap rfl ?_
    refine TK.ret ?_
    refine PK.ret ?_
    refine leaf (val0 := vB false) (by kernel_rfl) ?_
    exact lb (by first
          | exact (decide_eq_false fun e => by subst e; omega).symm
          | exact (decide_eq_false fun e => by subst e; first | exact st_ne h3 rfl | exact h3 rfl).symm
          | exact (decide_eq_true (eq_getD [] hI0.2.1 fun j hj => hI0.2.2 j (by omega))).symm)
   ·
    refine At rfl ?_
    refine NR ⟨[(0, vL eN a), (1, vL eN b), (5, vI ((k : Nat) : Int))], []⟩ (sb rfl rfl rfl) rfl ?_
    refine mv rfl ?_
    refine RO (Body.add rfl rfl (by unfold R64; omega)) ?_
    refine ag rfl ?_
    refine RN ?_
    refine Aq rfl ?_
    refine PK.lp ?_
    refine LP.mk (k + 1) ?_ ?_ (sb rfl rfl rfl)
    · show (k + 1) ≤ List.length a ∧ List.length a = List.length b ∧ ∀ j, j < (k + 1) → List.getD a j [] = List.getD b j []
      refine ⟨by omega, hI0.2.1, fun j hj => ?_⟩; rcases Nat.lt_succ_iff_lt_or_eq.1 hj with h | h; exact hI0.2.2 j h; subst h; first | exact st_eq h3 | exact Decidable.not_not.1 h3
    · show List.length a - (k + 1) < List.length a - k
      omega
  ·
   refine At rfl ?_
   refine TK.exit ?_
   refine PK.exit rfl ?_
   refine Ap rfl ?_
   refine NR ⟨[], []⟩ (sb rfl rfl rfl) rfl ?_
   refine ag rfl ?_
   refine RN ?_
   refine Ap rfl ?_
   refine TK.ret ?_
   refine PK.ret ?_
   refine leaf (val0 := vB true) (by kernel_rfl) ?_
   exact lb (by first
          | exact (decide_eq_false fun e => by subst e; omega).symm
          | exact (decide_eq_false fun e => by subst e; first | exact st_ne h3 rfl | exact h3 rfl).symm
          | exact (decide_eq_true (eq_getD [] hI0.2.1 fun j hj => hI0.2.2 j (by omega))).symm)
set_option maxHeartbeats 2000000 in
theorem w53 (l : List Fld) (n : List UInt8) (hl : l.length ≤ 1000000000000000) : CallOk Tryz.prog 53 [vL eF l, vS (bsO n)] (lookM []) (.tup [vS (bsO (Option.getD (getF n l) [])), vB (Option.isSome (getF n l))]) [] := by
 haveI := tab_ok
 obtain ⟨fn, f1, f2, f3, f4, _, f6⟩ := qf53
 refine callOk_of (Y := tab) (F := fn53) f1 (f2.trans rfl) f3 f4 f6 (Nat.le_of_ble_eq_true rfl) rfl ?_
 clear f1 f2 f3 f4 f6
 show TK _ _ _ _ _ _ ⟨[(0, vL eF l), (1, vS (bsO n))], []⟩
 refine At rfl ?_
 refine NR ⟨[(0, vL eF l), (1, vS (bsO n))], []⟩ (sb rfl rfl rfl) rfl ?_
 refine ag rfl ?_
 refine ag rfl ?_
 refine RN ?_
 refine Ap rfl ?_
 refine NR ⟨[(0, vL eF l), (1, vS (bsO n))], []⟩ (sb rfl rfl rfl) rfl ?_
 refine ag rfl ?_
 refine RN ?_
 refine Ap rfl ?_
 refine TK.loop (α := Nat) (fun x => ⟨[(0, vL eF l), (1, vS (bsO n)), (6, vI ((x : Nat) : Int))], []⟩) (fun x => x ≤ List.length l ∧ getF n l = getF n (List.drop x l)) (fun x => List.length l - x) 0 ?_ (sb rfl rfl rfl) ?_
 · show 0 ≤ List.length l ∧ getF n l = getF n (List.drop 0 l)
   exact ⟨Nat.zero_le _, rfl⟩
 rintro k hI0
 replace hI0 : k ≤ List.length l ∧ getF n l = getF n (List.drop k l) := hI0
 show TK _ _ _ _ _ _ ⟨[(0, vL eF l), (1, vS (bsO n)), (6, vI ((k : Nat) : Int))], []⟩
 refine At rfl ?_
 refine NR ⟨[(0, vL eF l), (1, vS (bsO n)), (6, vI ((k : Nat) : Int))], []⟩ (sb rfl rfl rfl) rfl ?_
 refine mv rfl ?_
 refine mv rfl ?_
 refine RO (Body.lenL rfl un60) ?_
 refine RO (Body.lss rfl rfl) ?_
 refine RN ?_
 refine Ap rfl ?_
 refine TK.norm ⟨[(0, vL eF l), (1, vS (bsO n)), (6, vI ((k : Nat) : Int)), (10, vB (decide (((k : Nat) : Int) < ((List.length l : Nat) : Int))))], []⟩ (sb rfl rfl rfl) ?_
 refine TK.condP rfl (fun h1 => ?_) (fun h1 => ?_)
 ·
  refine At rfl ?_
  refine NR ⟨[(0, vL eF l), (1, vS (bsO n)), (6, vI ((k : Nat) : Int))], []⟩ (sb rfl rfl rfl) rfl ?_
  refine mv rfl ?_
  refine mv rfl ?_
  refine RO (Body.idx (z := ([], [])) (i := k) rfl rfl un60 sz175 (fun _ => rfl) rfl (by omega)) ?_
  refine RO (Body.fadP rfl fa175_0 rfl) ?_
  refine RO (Body.loadP rfl ag9 sz9) ?_
  refine mv rfl ?_
  refine RO (Body.seqB (a := (Prod.fst (List.getD l k ([], [])))) (b := n) rfl rfl) ?_
  refine RN ?_
  refine Ap rfl ?_
  refine TK.norm ⟨[(0, vL eF l), (1, vS (bsO n)), (6, vI ((k : Nat) : Int)), (19, vB (decide ((Prod.fst (List.getD l k ([], []))) = n)))], []⟩ (sb rfl rfl rfl) ?_
  refine TK.condP rfl (fun h2 => ?_) (fun h2 => ?_)
  ·
   refine At rfl ?_
   refine NR ⟨[(0, vL eF l), (6, vI ((k : Nat) : Int))], []⟩ (sb rfl rfl rfl) rfl ?_
   refine mv rfl ?_
   refine mv rfl ?_
   refine RO (Body.idx (z := ([], [])) (i := k) rfl rfl un60 sz175 (fun _ => rfl) rfl (by omega)) ?_
   refine RO (Body.fadP rfl fa175_1 rfl) ?_
   refine RO (Body.loadP rfl ag9 sz9) ?_
   refine ag rfl ?_
   refine ag rfl ?_
   refine RN ?_
   refine Ap rfl ?_
   refine TK.ret ?_
   refine PK.ret ?_
   refine leaf (val0 := .tup [vS (bsO (Prod.snd (List.getD l k ([], [])))), vB true]) (by kernel_rfl) ?_
   exact tup2 (ls (by first
          | (rw [hI0.2, getF_hit (by omega) h2]; rfl)
          | (rw [hI0.2, List.drop_eq_nil_of_le (by omega)]; rfl))) (lb (by first
          | (rw [hI0.2, getF_hit (by omega) h2]; rfl)
          | (rw [hI0.2, List.drop_eq_nil_of_le (by omega)]; rfl)))
  ·
   refine At rfl ?_
   refine NR ⟨[(0, vL eF l), (1, vS (bsO n)), (6, vI ((k : Nat) : Int))], []⟩ (sb rfl rfl rfl) rfl ?_
   refine mv rfl ?_
   refine RO (Body.add rfl rfl (by unfold R64; omega)) ?_
   refine ag rfl ?_
   refine RN ?_
   refine Aq rfl ?_
   refine PK.lp ?_
   refine LP.mk (k + 1) ?_ ?_ (sb rfl rfl rfl)
   · show (k + 1) ≤ List.length l ∧ getF n l = getF n (List.drop (k + 1) l)
     refine ⟨by omega, ?_⟩; rw [hI0.2]; exact getF_skip (by omega) h2
   · show List.length l - (k + 1) < List.length l - k
     omega
 ·
  refine At rfl ?_
  refine TK.exit ?_
  refine PK.exit rfl ?_
  refine Ap rfl ?_
  refine NR ⟨[], []⟩ (sb rfl rfl rfl) rfl ?_
  refine ag rfl ?_
  refine ag rfl ?_
  refine RN ?_
  refine Ap rfl ?_
  refine TK.ret ?_
  refine PK.ret ?_
  refine leaf (val0 := .tup [vS (bsO []), vB false]) (by kernel_rfl) ?_
  exact tup2 (ls (by first
          | (rw [hI0.2, getF_hit (by omega) h2]; rfl)
          | (rw [hI0.2, List.drop_eq_nil_of_le (by omega)]; rfl))) (lb (by first
          | (rw [hI0.2, getF_hit (by omega) h2]; rfl)
          | (rw [hI0.2, List.drop_eq_nil_of_le (by omega)]; rfl)))
set_option maxHeartbeats 2000000 in
theorem w88 (l : List (List UInt8)) (n : List UInt8) (hl : l.length ≤ 1000000000000000) : CallOk Tryz.prog 88 [vL eN l, vS (bsO n)] (lookM []) (vB (List.any l (fun y => decide (y = n)))) [] := by
 haveI := tab_ok
 obtain ⟨fn, f1, f2, f3, f4, _, f6⟩ := qf88
 refine callOk_of (Y := tab) (F := fn88) f1 (f2.trans rfl) f3 f4 f6 (Nat.le_of_ble_eq_true rfl) rfl ?_
 clear f1 f2 f3 f4 f6
 show TK _ _ _ _ _ _ ⟨[(0, vL eN l), (1, vS (bsO n))], []⟩
 refine At rfl ?_
 refine NR ⟨[(0, vL eN l), (1, vS (bsO n))], []⟩ (sb rfl rfl rfl) rfl ?_
 refine ag rfl ?_
 refine RN ?_
 refine Ap rfl ?_
 refine NR ⟨[(0, vL eN l), (1, vS (bsO n))], []⟩ (sb rfl rfl rfl) rfl ?_
 refine ag rfl ?_
 refine RN ?_
 refine Ap rfl ?_
 refine TK.loop (α := Nat) (fun x => ⟨[(0, vL eN l), (1, vS (bsO n)), (5, vI ((x : Nat) : Int))], []⟩) (fun x => x ≤ List.length l ∧ ∀ j, j < x → ¬ (List.getD l j [] = n)) (fun x => List.length l - x) 0 ?_ (sb rfl rfl rfl) ?_
 · show 0 ≤ List.length l ∧ ∀ j, j < 0 → ¬ (List.getD l j [] = n)
   exact ⟨Nat.zero_le _, fun j hj => by omega⟩
 rintro k hI0
 replace hI0 : k ≤ List.length l ∧ ∀ j, j < k → ¬ (List.getD l j [] = n) := hI0
 show TK _ _ _ _ _ _ ⟨[(0, vL eN l), (1, vS (bsO n)), (5, vI ((k : Nat) : Int))], []⟩
 refine At rfl ?_
 refine NR ⟨[(0, vL eN l), (1, vS (bsO n)), (5, vI ((k : Nat) : Int))], []⟩ (sb rfl rfl rfl) rfl ?_
 refine mv rfl ?_
 refine mv rfl ?_
 refine RO (Body.lenL rfl un73) ?_
 refine RO (Body.lss rfl rfl) ?_
 refine RN ?_
 refine Ap rfl ?_
 refine TK.norm ⟨[(0, vL eN l), (1, vS (bsO n)), (5, vI ((k : Nat) : Int)), (9, vB (decide (((k : Nat) : Int) < ((List.length l : Nat) : Int))))], []⟩ (sb rfl rfl rfl) ?_
 refine TK.condP rfl (fun h1 => ?_) (fun h1 => ?_)
 ·
  refine At rfl ?_
  refine NR ⟨[(0, vL eN l), (1, vS (bsO n)), (5, vI ((k : Nat) : Int))], []⟩ (sb rfl rfl rfl) rfl ?_
  refine mv rfl ?_
  refine mv rfl ?_
  refine RO (Body.idx (z := []) (i := k) rfl rfl un73 sz9 (fun _ => rfl) rfl (by omega)) ?_
  refine RO (Body.loadP rfl ag9 sz9) ?_
  refine mv rfl ?_
  refine RO (Body.seqB (a := (List.getD l k [])) (b := n) rfl rfl) ?_
  refine RN ?_
  refine Ap rfl ?_
  refine TK.norm ⟨[(0, vL eN l), (1, vS (bsO n)), (5, vI ((k : Nat) : Int)), (17, vB (decide ((List.getD l k []) = n)))], []⟩ (sb rfl rfl rfl) ?_
  refine TK.condP rfl (fun h2 => ?_) (fun h2 => ?_)
  ·
   refine At rfl ?_
   refine NR ⟨[], []⟩ (sb rfl rfl rfl) rfl ?_
   refine ag rfl ?_
   refine RN ?_
   refine Ap rfl ?_
   refine TK.ret ?_
   refine PK.ret ?_
   refine leaf (val0 := vB true) (by kernel_rfl) ?_
   exact lb (by first
          | (exact (List.any_eq_true.2 ⟨_, getD_mem (z := []) (show k < List.length l by omega), decide_eq_true h2⟩).symm)
          | (exact (any_getD_none [] (fun j hj => decide_eq_false (hI0.2 j (by omega)))).symm))
  ·
   refine At rfl ?_
   refine NR ⟨[(0, vL eN l), (1, vS (bsO n)), (5, vI ((k : Nat) : Int))], []⟩ (sb rfl rfl rfl) rfl ?_
   refine mv rfl ?_
   refine RO (Body.add rfl rfl (by unfold R64; omega)) ?_
   refine ag rfl ?_
   refine RN ?_
   refine Aq rfl ?_
   refine PK.lp ?_
   refine LP.mk (k + 1) ?_ ?_ (sb rfl rfl rfl)
   · show (k + 1) ≤ List.length l ∧ ∀ j, j < (k + 1) → ¬ (List.getD l j [] = n)
     refine ⟨by omega, fun j hj => ?_⟩; rcases Nat.lt_succ_iff_lt_or_eq.1 hj with h | h; exact hI0.2 j h; subst h; exact h2
   · show List.length l - (k + 1) < List.length l - k
     omega
 ·
  refine At rfl ?_
  refine TK.exit ?_
  refine PK.exit rfl ?_
  refine Ap rfl ?_
  refine NR ⟨[], []⟩ (sb rfl rfl rfl) rfl ?_
  refine ag rfl ?_
  refine RN ?_
  refine Ap rfl ?_
  refine TK.ret ?_
  refine PK.ret ?_
  refine leaf (val0 := vB false) (by kernel_rfl) ?_
  exact lb (by first
          | (exact (List.any_eq_true.2 ⟨_, getD_mem (z := []) (show k < List.length l by omega), decide_eq_true h2⟩).symm)
          | (exact (any_getD_none [] (fun j hj => decide_eq_false (hI0.2 j (by omega)))).symm))
end Go.Lens.Tm
end
section
namespace Go.Lens.Tm
open Go.Lens.Tb Go.Proofs
set_option linter.unusedSectionVars false
theorem permI_high {c : Int} (h : 128 ≤ c) : permI c = false := by
 unfold permI
 rw [decide_eq_false (p := c ≤ 122) (by omega), decide_eq_false (p := c ≤ 90) (by omega), decide_eq_false (p := c ≤ 57) (by omega), decide_eq_false (p := c = 46) (by omega), decide_eq_false (p := c = 45) (by omega), decide_eq_false (p := c = 47) (by omega), decide_eq_false (p := c = 95) (by omega)]
 simp
theorem rune_perm {s : ByteArray} {p : Nat} (h : p < s.size) : permI (((Utf8.decode s p).1 : Nat) : Int) = permI (byteAt s p) ∧ (permI (byteAt s p) = true → (Utf8.decode s p).2 = 1) := by
 rw [byteAt_get h]
 rcases Nat.lt_or_ge (s[p]'h).toNat 128 with ha | ha
 ·rw [decode_ascii s p h ha]
  exact ⟨rfl, fun _ => rfl⟩
 ·have := decode_high s p h ha
  rw [permI_high (by omega), permI_high (by omega)]
  exact ⟨rfl, fun h => by cases h⟩
theorem rune_pq {s : List UInt8} {p : Nat} (h : p < (bsO s).size) {b : Bool} (hb : ((!(permI (((Utf8.decode (bsO s) p).1 : Nat) : Int))) == true) = b) : permI (((s.getD p 0).toNat : Nat) : Int) = !b := by
 rw [(rune_perm h).1] at hb
 have hb : ((!(permI (((s.getD p 0).toNat : Nat) : Int))) == true) = b := hb
 rw [← hb]
 cases permI (((s.getD p 0).toNat : Nat) : Int) <;> rfl
theorem rune_w {s : List UInt8} {p : Nat} (h : p < (bsO s).size) (hb : permI (((s.getD p 0).toNat : Nat) : Int) = true) : (Utf8.decode (bsO s) p).2 = 1 := (rune_perm h).2 hb
theorem perm_any (s : List UInt8) : (!(List.any s (fun b => !(permI ((b.toNat : Nat) : Int))))) = permS s := by
 unfold permS
 rw [List.not_any_eq_all_not]
 simp
end Go.Lens.Tm
end
section
namespace Go.Lens.Tm
open Go.Lens.Tb Go.Proofs
variable [Lz]
set_option linter.unusedSectionVars false
set_option maxRecDepth 100000
attribute [local irreducible] TK PK T RG EfR Body
set_option maxHeartbeats 2000000 in
theorem w174 (c : Int) : CallOk Tryz.prog 174 [.pv (.lit (.int .i32 c))] (lookM []) (vB (!(permI c))) [] := by
 haveI := tab_ok
 obtain ⟨fn, f1, f2, f3, f4, _, f6⟩ := qf174
 refine callOk_of (Y := tab) (F := fn174) f1 (f2.trans rfl) f3 f4 f6 (Nat.le_of_ble_eq_true rfl) rfl ?_
 clear f1 f2 f3 f4 f6
 show TK _ _ _ _ _ _ ⟨[(0, .pv (.lit (.int .i32 c)))], []⟩
 refine At rfl ?_
 refine NR ⟨[(0, .pv (.lit (.int .i32 c)))], []⟩ (sb rfl rfl rfl) rfl ?_
 refine ag rfl ?_
 refine RN ?_
 refine Ap rfl ?_
 refine NR ⟨[(0, .pv (.lit (.int .i32 c)))], []⟩ (sb rfl rfl rfl) rfl ?_
 refine mv rfl ?_
 refine RO (Body.lss rfl rfl) ?_
 refine mv rfl ?_
 refine RG.cons (EfR.sym rfl (fun hc => Body.move rfl) rfl) ?_
 refine RG.cons (EfR.sym rfl (fun hc => Body.gtr (ev1_gd rfl hc) rfl) rfl) ?_
 refine RO (Body.pick rfl rfl rfl rfl (gdB rfl) (pick_or _)) ?_
 refine mv rfl ?_
 refine RG.cons (EfR.sym rfl (fun hc => Body.move rfl) rfl) ?_
 refine RG.cons (EfR.sym rfl (fun hc => Body.lss (ev1_gd rfl hc) rfl) rfl) ?_
 refine RG.cons (EfR.sym rfl (fun hc => Body.move (ev1_gd rfl hc)) rfl) ?_
 refine RG.cons (EfR.sym rfl (fun hc => Body.move rfl) rfl) ?_
 refine RG.cons (EfR.sym rfl (fun hc => Body.gtr (ev1_gd rfl hc) rfl) rfl) ?_
 refine RG.cons (EfR.sym rfl (fun hc => Body.pick (ev1_gd rfl hc) rfl rfl rfl (gdB rfl) (pick_or2 hc)) rfl) ?_
 refine RO (Body.pick rfl rfl rfl (gdB rfl) rfl (pick_and _)) ?_
 refine mv rfl ?_
 refine RG.cons (EfR.sym rfl (fun hc => Body.move rfl) rfl) ?_
 refine RG.cons (EfR.sym rfl (fun hc => Body.lss (ev1_gd rfl hc) rfl) rfl) ?_
 refine RG.cons (EfR.sym rfl (fun hc => Body.move (ev1_gd rfl hc)) rfl) ?_
 refine RG.cons (EfR.sym rfl (fun hc => Body.move rfl) rfl) ?_
 refine RG.cons (EfR.sym rfl (fun hc => Body.gtr (ev1_gd rfl hc) rfl) rfl) ?_
 refine RG.cons (EfR.sym rfl (fun hc => Body.pick (ev1_gd rfl hc) rfl rfl rfl (gdB rfl) (pick_or2 hc)) rfl) ?_
 refine RO (Body.pick rfl rfl rfl (gdB rfl) rfl (pick_and _)) ?_
 refine mv rfl ?_
 refine RG.cons (EfR.sym rfl (fun hc => Body.move rfl) rfl) ?_
 refine RG.cons (EfR.sym rfl (fun hc => Body.neq (ev1_gd rfl hc) rfl) rfl) ?_
 refine RO (Body.pick rfl rfl rfl (gdB rfl) rfl (pick_and _)) ?_
 refine mv rfl ?_
 refine RG.cons (EfR.sym rfl (fun hc => Body.move rfl) rfl) ?_
 refine RG.cons (EfR.sym rfl (fun hc => Body.neq (ev1_gd rfl hc) rfl) rfl) ?_
 refine RO (Body.pick rfl rfl rfl (gdB rfl) rfl (pick_and _)) ?_
 refine mv rfl ?_
 refine RG.cons (EfR.sym rfl (fun hc => Body.move rfl) rfl) ?_
 refine RG.cons (EfR.sym rfl (fun hc => Body.neq (ev1_gd rfl hc) rfl) rfl) ?_
 refine RO (Body.pick rfl rfl rfl (gdB rfl) rfl (pick_and _)) ?_
 refine mv rfl ?_
 refine RG.cons (EfR.sym rfl (fun hc => Body.move rfl) rfl) ?_
 refine RG.cons (EfR.sym rfl (fun hc => Body.neq (ev1_gd rfl hc) rfl) rfl) ?_
 refine RO (Body.pick rfl rfl rfl (gdB rfl) rfl (pick_and _)) ?_
 refine ag rfl ?_
 refine RN ?_
 refine Ap rfl ?_
 refine TK.ret ?_
 refine PK.ret ?_
 refine leaf (val0 := vB (bif (bif (bif (bif (bif (bif (bif (decide (c < 97)) then true else (decide (122 < c))) then (bif (decide (c < 65)) then true else (decide (90 < c))) else false) then (bif (decide (c < 48)) then true else (decide (57 < c))) else false) then (decide (c ≠ 46)) else false) then (decide (c ≠ 45)) else false) then (decide (c ≠ 47)) else false) then (decide (c ≠ 95)) else false)) (by kernel_rfl) ?_
 exact lb (by rw [perm_not]; simp only [bif_or, bif_and])
set_option maxHeartbeats 2000000 in
theorem w292 (s : List UInt8) (hl : s.length ≤ 1000000000000000) : CallOk Tryz.prog 292 [vS (bsO s), .pv (.fn (.func 174) [] []), vB true] (lookM []) (vI (findI (fun b => !(permI ((b.toNat : Nat) : Int))) s)) [] := by
 haveI := tab_ok
 obtain ⟨fn, f1, f2, f3, f4, _, f6⟩ := qf292
 refine callOk_of (Y := tab) (F := fn292) f1 (f2.trans rfl) f3 f4 f6 (Nat.le_of_ble_eq_true rfl) rfl ?_
 clear f1 f2 f3 f4 f6
 show TK _ _ _ _ _ _ ⟨[(0, vS (bsO s)), (1, .pv (.fn (.func 174) [] [])), (2, vB true)], []⟩
 refine At rfl ?_
 refine NR ⟨[(0, vS (bsO s)), (1, .pv (.fn (.func 174) [] [])), (2, vB true)], []⟩ (sb rfl rfl rfl) rfl ?_
 refine ag rfl ?_
 refine RN ?_
 refine Ap rfl ?_
 refine NR ⟨[(0, vS (bsO s)), (1, .pv (.fn (.func 174) [] [])), (2, vB true)], []⟩ (sb rfl rfl rfl) rfl ?_
 refine mv rfl ?_
 refine RO (Body.rangeS rfl un9 rfl rfl) ?_
 refine RN ?_
 refine Ap rfl ?_
 refine TK.loop (α := Nat) (fun x => ⟨[(1, .pv (.fn (.func 174) [] [])), (2, vB true), (10, .bref 11 0)], [(11, .siter (bsO s) x)]⟩) (fun x => x ≤ List.length s ∧ ∀ j, j < x → permI (((List.getD s j 0).toNat : Nat) : Int) = true) (fun x => List.length s - x) 0 ?_ (sb rfl rfl rfl) ?_
 · show 0 ≤ List.length s ∧ ∀ j, j < 0 → permI (((List.getD s j 0).toNat : Nat) : Int) = true
   exact ⟨Nat.zero_le _, fun j hj => by omega⟩
 rintro p hI0
 replace hI0 : p ≤ List.length s ∧ ∀ j, j < p → permI (((List.getD s j 0).toNat : Nat) : Int) = true := hI0
 show TK _ _ _ _ _ _ ⟨[(1, .pv (.fn (.func 174) [] [])), (2, vB true), (10, .bref 11 0)], [(11, .siter (bsO s) p)]⟩
 refine At rfl ?_
 refine NR ⟨[(1, .pv (.fn (.func 174) [] [])), (2, vB true), (10, .bref 11 0)], [(11, .siter (bsO s) p)]⟩ (sb rfl rfl rfl) rfl ?_
 refine RG.next rfl rfl rfl (fun h1 => ?_) (fun h1 => ?_)
 ·
  refine rn rfl ?_
  refine RN ?_
  refine Ap rfl ?_
  refine TK.norm ⟨[(1, .pv (.fn (.func 174) [] [])), (2, vB true), (10, .bref 11 0), (11, .tup [vB true, vI ((p : Nat) : Int), .pv (.lit (.int .i32 (((Utf8.decode (bsO s) p).1 : Nat) : Int)))]), (12, vB true)], [(11, .siter (bsO s) (p + (Utf8.decode (bsO s) p).2))]⟩ (sb rfl rfl rfl) ?_
  refine TK.condT rfl ?_
  refine At rfl ?_
  refine NR ⟨[(1, .pv (.fn (.func 174) [] [])), (2, vB true), (10, .bref 11 0), (11, .tup [vB true, vI ((p : Nat) : Int), .pv (.lit (.int .i32 (((Utf8.decode (bsO s) p).1 : Nat) : Int)))])], [(11, .siter (bsO s) (p + (Utf8.decode (bsO s) p).2))]⟩ (sb rfl rfl rfl) rfl ?_
  refine rn rfl ?_
  refine rn rfl ?_
  refine ag rfl ?_
  refine ag rfl ?_
  refine RN ?_
  refine Ap rfl ?_
  refine NR ⟨[(1, .pv (.fn (.func 174) [] [])), (2, vB true), (7, vI ((p : Nat) : Int)), (8, .pv (.lit (.int .i32 (((Utf8.decode (bsO s) p).1 : Nat) : Int)))), (10, .bref 11 0)], [(11, .siter (bsO s) (p + (Utf8.decode (bsO s) p).2))]⟩ (sb rfl rfl rfl) rfl ?_
  refine mv rfl ?_
  refine mv rfl ?_
  refine RO (Body.call (w174 (((Utf8.decode (bsO s) p).1 : Nat) : Int)) rfl rfl rfl) ?_
  refine mv rfl ?_
  refine rn rfl ?_
  refine RN ?_
  refine Ap rfl ?_
  refine TK.norm ⟨[(1, .pv (.fn (.func 174) [] [])), (2, vB true), (7, vI ((p : Nat) : Int)), (10, .bref 11 0), (19, vB ((!(permI (((Utf8.decode (bsO s) p).1 : Nat) : Int))) == true))], [(11, .siter (bsO s) (p + (Utf8.decode (bsO s) p).2))]⟩ (sb rfl rfl rfl) ?_
  refine TK.cond rfl (fun h2 => ?_) (fun h2 => ?_)
  ·
   refine At rfl ?_
   refine NR ⟨[(7, vI ((p : Nat) : Int))], []⟩ (sb rfl rfl rfl) rfl ?_
   refine mv rfl ?_
   refine ag rfl ?_
   refine RN ?_
   refine Ap rfl ?_
   refine TK.ret ?_
   refine PK.ret ?_
   refine leaf (val0 := vI ((p : Nat) : Int)) (by kernel_rfl) ?_
   exact li (by first
          | (have hn := rune_pq h1 h2; have hz : p < List.length s := h1; exact (findI_some (p := (fun b => !(permI ((b.toNat : Nat) : Int)))) (l := s) (z := 0) p hz (fun j hj => by rw [hI0.2 j hj]; rfl) (by rw [hn]; rfl)).symm)
          | (have hz : ¬ p < List.length s := h1; exact (findI_none (p := (fun b => !(permI ((b.toNat : Nat) : Int)))) (l := s) (z := 0) fun j hj => by rw [hI0.2 j (by omega)]; rfl).symm))
  ·
   refine Au rfl ?_
   refine PK.lp ?_
   refine LP.mk (p + (Utf8.decode (bsO s) p).2) ?_ ?_ (sb rfl rfl rfl)
   · show (p + (Utf8.decode (bsO s) p).2) ≤ List.length s ∧ ∀ j, j < (p + (Utf8.decode (bsO s) p).2) → permI (((List.getD s j 0).toNat : Nat) : Int) = true
     have hn := rune_pq h1 h2; have hz : p < List.length s := h1; rw [rune_w h1 hn]; refine ⟨by omega, fun j hj => ?_⟩; rcases Nat.lt_succ_iff_lt_or_eq.1 hj with h | h; exact hI0.2 j h; subst h; exact hn
   · show List.length s - (p + (Utf8.decode (bsO s) p).2) < List.length s - p
     have hn := rune_pq h1 h2; have hz : p < List.length s := h1; rw [rune_w h1 hn]; omega
 ·
  refine rn rfl ?_
  refine RN ?_
  refine Ap rfl ?_
  refine TK.norm ⟨[(1, .pv (.fn (.func 174) [] [])), (2, vB true), (10, .bref 11 0), (11, .tup [vB false]), (12, vB false)], [(11, .siter (bsO s) p)]⟩ (sb rfl rfl rfl) ?_
  refine TK.condF rfl ?_
  refine At rfl ?_
  refine TK.exit ?_
  refine PK.exit rfl ?_
  refine Ap rfl ?_
  refine NR ⟨[], []⟩ (sb rfl rfl rfl) rfl ?_
  refine ag rfl ?_
  refine RN ?_
  refine Ap rfl ?_
  refine TK.ret ?_
  refine PK.ret ?_
  refine leaf (val0 := vI (-1)) (by kernel_rfl) ?_
  exact li (by first
          | (have hn := rune_pq h1 h2; have hz : p < List.length s := h1; exact (findI_some (p := (fun b => !(permI ((b.toNat : Nat) : Int)))) (l := s) (z := 0) p hz (fun j hj => by rw [hI0.2 j hj]; rfl) (by rw [hn]; rfl)).symm)
          | (have hz : ¬ p < List.length s := h1; exact (findI_none (p := (fun b => !(permI ((b.toNat : Nat) : Int)))) (l := s) (z := 0) fun j hj => by rw [hI0.2 j (by omega)]; rfl).symm))
set_option maxHeartbeats 2000000 in
theorem w247 (s : List UInt8) (hl : s.length ≤ 1000000000000000) : CallOk Tryz.prog 247 [vS (bsO s), .pv (.fn (.func 174) [] [])] (lookM []) (vI (findI (fun b => !(permI ((b.toNat : Nat) : Int))) s)) [] := by
 haveI := tab_ok
 obtain ⟨fn, f1, f2, f3, f4, _, f6⟩ := qf247
 refine callOk_of (Y := tab) (F := fn247) f1 (f2.trans rfl) f3 f4 f6 (Nat.le_of_ble_eq_true rfl) rfl ?_
 clear f1 f2 f3 f4 f6
 show TK _ _ _ _ _ _ ⟨[(0, vS (bsO s)), (1, .pv (.fn (.func 174) [] []))], []⟩
 refine At rfl ?_
 refine NR ⟨[(0, vS (bsO s)), (1, .pv (.fn (.func 174) [] []))], []⟩ (sb rfl rfl rfl) rfl ?_
 refine ag rfl ?_
 refine RN ?_
 refine Ap rfl ?_
 refine NR ⟨[(0, vS (bsO s)), (1, .pv (.fn (.func 174) [] []))], []⟩ (sb rfl rfl rfl) rfl ?_
 refine mv rfl ?_
 refine mv rfl ?_
 refine RO (Body.call (w292 s (by first | omega | exact Nat.le_of_ble_eq_true rfl | (simp only [List.length_append, List.length_cons, List.length_nil, List.length_take, List.length_drop]; omega))) rfl rfl rfl) ?_
 refine ag rfl ?_
 refine RN ?_
 refine Ap rfl ?_
 refine TK.ret ?_
 refine PK.ret ?_
 refine leaf (val0 := vI (findI (fun b => !(permI ((b.toNat : Nat) : Int))) s)) (by kernel_rfl) ?_
 exact rfl
set_option maxHeartbeats 2000000 in
theorem w173 (s : List UInt8) (hl : s.length ≤ 1000000000000000) : CallOk Tryz.prog 173 [vS (bsO s), .pv (.fn (.func 174) [] [])] (lookM []) (vB (List.any s (fun b => !(permI ((b.toNat : Nat) : Int))))) [] := by
 haveI := tab_ok
 obtain ⟨fn, f1, f2, f3, f4, _, f6⟩ := qf173
 refine callOk_of (Y := tab) (F := fn173) f1 (f2.trans rfl) f3 f4 f6 (Nat.le_of_ble_eq_true rfl) rfl ?_
 clear f1 f2 f3 f4 f6
 show TK _ _ _ _ _ _ ⟨[(0, vS (bsO s)), (1, .pv (.fn (.func 174) [] []))], []⟩
 refine At rfl ?_
 refine NR ⟨[(0, vS (bsO s)), (1, .pv (.fn (.func 174) [] []))], []⟩ (sb rfl rfl rfl) rfl ?_
 refine ag rfl ?_
 refine RN ?_
 refine Ap rfl ?_
 refine NR ⟨[(0, vS (bsO s)), (1, .pv (.fn (.func 174) [] []))], []⟩ (sb rfl rfl rfl) rfl ?_
 refine mv rfl ?_
 refine mv rfl ?_
 refine RO (Body.call (w247 s (by first | omega | exact Nat.le_of_ble_eq_true rfl | (simp only [List.length_append, List.length_cons, List.length_nil, List.length_take, List.length_drop]; omega))) rfl rfl rfl) ?_
 refine RO (Body.geq rfl rfl) ?_
 refine ag rfl ?_
 refine RN ?_
 refine Ap rfl ?_
 refine TK.ret ?_
 refine PK.ret ?_
 refine leaf (val0 := vB (decide (0 ≤ (findI (fun b => !(permI ((b.toNat : Nat) : Int))) s)))) (by kernel_rfl) ?_
 exact lb (by exact findI_nonneg s)
set_option maxHeartbeats 2000000 in
theorem w120 (s : List UInt8) (hl : s.length ≤ 1000000000000000) : CallOk Tryz.prog 120 [vS (bsO s)] (lookM []) (vB (permS s)) [] := by
 haveI := tab_ok
 obtain ⟨fn, f1, f2, f3, f4, _, f6⟩ := qf120
 refine callOk_of (Y := tab) (F := fn120) f1 (f2.trans rfl) f3 f4 f6 (Nat.le_of_ble_eq_true rfl) rfl ?_
 clear f1 f2 f3 f4 f6
 show TK _ _ _ _ _ _ ⟨[(0, vS (bsO s))], []⟩
 refine At rfl ?_
 refine NR ⟨[(0, vS (bsO s))], []⟩ (sb rfl rfl rfl) rfl ?_
 refine ag rfl ?_
 refine RN ?_
 refine Ap rfl ?_
 refine NR ⟨[(0, vS (bsO s))], []⟩ (sb rfl rfl rfl) rfl ?_
 refine mv rfl ?_
 refine RO (Body.call (w173 s (by first | omega | exact Nat.le_of_ble_eq_true rfl | (simp only [List.length_append, List.length_cons, List.length_nil, List.length_take, List.length_drop]; omega))) rfl rfl rfl) ?_
 refine RO (Body.not rfl) ?_
 refine ag rfl ?_
 refine RN ?_
 refine Ap rfl ?_
 refine TK.ret ?_
 refine PK.ret ?_
 refine leaf (val0 := vB (!(List.any s (fun b => !(permI ((b.toNat : Nat) : Int)))))) (by kernel_rfl) ?_
 exact lb (by exact perm_any s)
set_option maxHeartbeats 2000000 in
theorem w41 (l : List Fld) (hl : l.length ≤ 1000000000000000) (hc : ∀ f ∈ l, f.2.length ≤ 1000000000000000) : CallOk Tryz.prog 41 [vL eF l] (lookM []) (vI (chkFl l)) [] := by
 haveI := tab_ok
 obtain ⟨fn, f1, f2, f3, f4, _, f6⟩ := qf41
 refine callOk_of (Y := tab) (F := fn41) f1 (f2.trans rfl) f3 f4 f6 (Nat.le_of_ble_eq_true rfl) rfl ?_
 clear f1 f2 f3 f4 f6
 show TK _ _ _ _ _ _ ⟨[(0, vL eF l)], []⟩
 refine At rfl ?_
 refine NR ⟨[(0, vL eF l)], []⟩ (sb rfl rfl rfl) rfl ?_
 refine ag rfl ?_
 refine RN ?_
 refine Ap rfl ?_
 refine NR ⟨[(0, vL eF l)], []⟩ (sb rfl rfl rfl) rfl ?_
 refine mv rfl ?_
 refine RO (Body.lenL rfl un59) ?_
 refine RO (Body.gtr rfl rfl) ?_
 refine RN ?_
 refine Ap rfl ?_
 refine TK.norm ⟨[(0, vL eF l), (9, vB (decide (24 < ((List.length l : Nat) : Int))))], []⟩ (sb rfl rfl rfl) ?_
 refine TK.condP rfl (fun h1 => ?_) (fun h1 => ?_)
 ·
  refine At rfl ?_
  refine NR ⟨[], []⟩ (sb rfl rfl rfl) rfl ?_
  refine ag rfl ?_
  refine RN ?_
  refine Ap rfl ?_
  refine TK.ret ?_
  refine PK.ret ?_
  refine leaf (val0 := vI 5) (by kernel_rfl) ?_
  exact li (by first
          | (unfold chkFl; rw [decide_eq_true (by omega)]; rfl)
          | (rw [first_fld] at h3 ⊢; rw [hI0.2.2, fGo_err (by omega) h3])
          | (rw [hI0.2.2, show List.length l - k = 0 by omega]; rfl))
 ·
  refine At rfl ?_
  refine NR ⟨[(0, vL eF l)], []⟩ (sb rfl rfl rfl) rfl ?_
  refine mv rfl ?_
  refine RO (Body.lenL rfl un59) ?_
  refine mv rfl ?_
  refine RN ?_
  refine Ap rfl ?_
  refine TK.loop (α := Nat) (fun x => ⟨[(0, vL eF l), (10, vL eF l), (11, vI ((List.length l : Nat) : Int)), (12, vI ((x : Nat) : Int))], []⟩) (fun x => x ≤ List.length l ∧ List.length l ≤ 24 ∧ chkFl l = fGo l (List.length l - x) x) (fun x => List.length l - x) 0 ?_ (sb rfl rfl rfl) ?_
  · show 0 ≤ List.length l ∧ List.length l ≤ 24 ∧ chkFl l = fGo l (List.length l - 0) 0
    exact ⟨Nat.zero_le _, by omega, by unfold chkFl; rw [decide_eq_false (by omega)]; rfl⟩
  rintro k hI0
  replace hI0 : k ≤ List.length l ∧ List.length l ≤ 24 ∧ chkFl l = fGo l (List.length l - k) k := hI0
  show TK _ _ _ _ _ _ ⟨[(0, vL eF l), (10, vL eF l), (11, vI ((List.length l : Nat) : Int)), (12, vI ((k : Nat) : Int))], []⟩
  refine At rfl ?_
  refine NR ⟨[(0, vL eF l), (10, vL eF l), (11, vI ((List.length l : Nat) : Int)), (12, vI ((k : Nat) : Int))], []⟩ (sb rfl rfl rfl) rfl ?_
  refine RO (Body.lss rfl rfl) ?_
  refine RN ?_
  refine Ap rfl ?_
  refine TK.norm ⟨[(0, vL eF l), (10, vL eF l), (11, vI ((List.length l : Nat) : Int)), (12, vI ((k : Nat) : Int)), (13, vB (decide (((k : Nat) : Int) < ((List.length l : Nat) : Int))))], []⟩ (sb rfl rfl rfl) ?_
  refine TK.condP rfl (fun h2 => ?_) (fun h2 => ?_)
  ·
   refine At rfl ?_
   refine NR ⟨[(0, vL eF l), (10, vL eF l), (11, vI ((List.length l : Nat) : Int)), (12, vI ((k : Nat) : Int))], []⟩ (sb rfl rfl rfl) rfl ?_
   refine mv rfl ?_
   refine RO (Body.idx (z := ([], [])) (i := k) rfl rfl un59 sz174 (fun _ => rfl) rfl (by omega)) ?_
   refine RO (Body.loadA (ds := [pS (bsO (Prod.fst (List.getD l k ([], [])))), pS (bsO (Prod.snd (List.getD l k ([], []))))]) rfl ag174 sz174 (Nat.le_of_ble_eq_true rfl) rfl) ?_
   refine rn rfl ?_
   refine ag rfl ?_
   refine rn rfl ?_
   refine RN ?_
   refine Ap rfl ?_
   refine NR ⟨[(0, vL eF l), (3, vI ((k : Nat) : Int)), (4, .bref 5 0), (10, vL eF l), (11, vI ((List.length l : Nat) : Int)), (12, vI ((k : Nat) : Int))], [(5, .box 174 [vS (bsO (Prod.fst (List.getD l k ([], [])))), vS (bsO (Prod.snd (List.getD l k ([], []))))])]⟩ (sb rfl rfl rfl) rfl ?_
   refine mv rfl ?_
   refine mv rfl ?_
   refine RO (Body.sub rfl rfl (by unfold R64; omega)) ?_
   refine RO (Body.max rfl rfl) ?_
   refine RO (Body.idx (z := ([], [])) (i := (k - 1)) rfl rfl un59 sz174 (fun _ => rfl) (by omega) (by omega)) ?_
   refine RO (Body.loadA (ds := [pS (bsO (Prod.fst (List.getD l (k - 1) ([], [])))), pS (bsO (Prod.snd (List.getD l (k - 1) ([], []))))]) rfl ag174 sz174 (Nat.le_of_ble_eq_true rfl) rfl) ?_
   refine rn rfl ?_
   refine rn rfl ?_
   refine RN ?_
   refine Ap rfl ?_
   refine TK.norm ⟨[(0, vL eF l), (3, vI ((k : Nat) : Int)), (4, .bref 5 0), (5, .bref 6 0), (10, vL eF l), (11, vI ((List.length l : Nat) : Int)), (12, vI ((k : Nat) : Int))], [(5, .box 174 [vS (bsO (Prod.fst (List.getD l k ([], [])))), vS (bsO (Prod.snd (List.getD l k ([], []))))]), (6, .box 174 [vS (bsO (Prod.fst (List.getD l (k - 1) ([], [])))), vS (bsO (Prod.snd (List.getD l (k - 1) ([], []))))])]⟩ (sb rfl rfl rfl) ?_
   have hck := hc _ (getD_mem (l := l) (k := k) (z := ([], [])) (by omega))
   refine TK.rg (Y := tab) mixed rfl ?_
   refine RO (Body.fadB rfl fa174_0 rfl) ?_
   refine RO (Body.loadB rfl rfl rfl ag9 sz9 rfl) ?_
   refine RO (Body.call (w104 (bsO (Prod.fst (List.getD l k ([], []))))) rfl rfl rfl) ?_
   refine RO (Body.fadB rfl fa174_1 rfl) ?_
   refine RO (Body.loadB rfl rfl rfl ag9 sz9 rfl) ?_
   refine RO (Body.lenB (a := (Prod.snd (List.getD l k ([], [])))) rfl un9) ?_
   refine RO (Body.gtr rfl rfl) ?_
   refine RO (Body.call (w101 (decide (60 < ((List.length (Prod.snd (List.getD l k ([], []))) : Nat) : Int))) 26) rfl rfl rfl) ?_
   refine RO (Body.fadB rfl fa174_1 rfl) ?_
   refine RO (Body.loadB rfl rfl rfl ag9 sz9 rfl) ?_
   refine RO (Body.call (w120 (Prod.snd (List.getD l k ([], []))) (by first | omega | exact Nat.le_of_ble_eq_true rfl | (simp only [List.length_append, List.length_cons, List.length_nil, List.length_take, List.length_drop]; omega))) rfl rfl rfl) ?_
   refine RO (Body.not rfl) ?_
   refine RO (Body.call (w101 (!(permS (Prod.snd (List.getD l k ([], []))))) 1) rfl rfl rfl) ?_
   refine mv rfl ?_
   refine RO (Body.gtr rfl rfl) ?_
   refine mv rfl ?_
   refine RG.cons (EfR.sym rfl (fun hc => Body.fadB rfl fa174_0 rfl) rfl) ?_
   refine RG.cons (EfR.sym rfl (fun hc => Body.loadB (ev1_gd rfl hc) rfl rfl ag9 sz9 rfl) rfl) ?_
   refine RG.cons (EfR.sym rfl (fun hc => Body.fadB rfl fa174_0 rfl) rfl) ?_
   refine RG.cons (EfR.sym rfl (fun hc => Body.loadB (ev1_gd rfl hc) rfl rfl ag9 sz9 rfl) rfl) ?_
   refine RG.cons (EfR.sym rfl (fun hc => Body.sleB (a := (Prod.fst (List.getD l k ([], [])))) (b := (Prod.fst (List.getD l (k - 1) ([], [])))) (ev1_gd rfl hc) (ev1_gd rfl hc)) rfl) ?_
   refine RO (Body.pick rfl rfl rfl (gdB rfl) rfl (pick_and _)) ?_
   refine RO (Body.call (w101 (bif (decide (0 < ((k : Nat) : Int))) then (leS (Prod.fst (List.getD l k ([], []))) (Prod.fst (List.getD l (k - 1) ([], [])))) else false) 11) rfl rfl rfl) ?_
   refine RO (Body.runZ (val := .pv (.slice (List.map eI [(whenF (!(isNameF (bsO (Prod.fst (List.getD l k ([], [])))))) 8), (whenF (decide (60 < ((List.length (Prod.snd (List.getD l k ([], []))) : Nat) : Int))) 26), (whenF (!(permS (Prod.snd (List.getD l k ([], []))))) 1), (whenF (bif (decide (0 < ((k : Nat) : Int))) then (leS (Prod.fst (List.getD l k ([], []))) (Prod.fst (List.getD l (k - 1) ([], [])))) else false) 11)]))) rfl (fun l => Frz.arr l _ _ _ _ _) rfl) ?_
   refine RO (Body.call (w100 [(whenF (!(isNameF (bsO (Prod.fst (List.getD l k ([], [])))))) 8), (whenF (decide (60 < ((List.length (Prod.snd (List.getD l k ([], []))) : Nat) : Int))) 26), (whenF (!(permS (Prod.snd (List.getD l k ([], []))))) 1), (whenF (bif (decide (0 < ((k : Nat) : Int))) then (leS (Prod.fst (List.getD l k ([], []))) (Prod.fst (List.getD l (k - 1) ([], [])))) else false) 11)] (Nat.le_of_ble_eq_true rfl)) rfl rfl rfl) ?_
   refine ag rfl ?_
   refine RG.nil (fun _ => by kernel_rfl) ?_
   refine Ap rfl ?_
   refine NR ⟨[(0, vL eF l), (6, vI (firstF [(whenF (!(isNameF (bsO (Prod.fst (List.getD l k ([], [])))))) 8), (whenF (decide (60 < ((List.length (Prod.snd (List.getD l k ([], []))) : Nat) : Int))) 26), (whenF (!(permS (Prod.snd (List.getD l k ([], []))))) 1), (whenF (bif (decide (0 < ((k : Nat) : Int))) then (leS (Prod.fst (List.getD l k ([], []))) (Prod.fst (List.getD l (k - 1) ([], [])))) else false) 11)])), (10, vL eF l), (11, vI ((List.length l : Nat) : Int)), (12, vI ((k : Nat) : Int))], []⟩ (sb rfl rfl rfl) rfl ?_
   refine mv rfl ?_
   refine RO (Body.neq rfl rfl) ?_
   refine RN ?_
   refine Ap rfl ?_
   refine TK.norm ⟨[(0, vL eF l), (6, vI (firstF [(whenF (!(isNameF (bsO (Prod.fst (List.getD l k ([], [])))))) 8), (whenF (decide (60 < ((List.length (Prod.snd (List.getD l k ([], []))) : Nat) : Int))) 26), (whenF (!(permS (Prod.snd (List.getD l k ([], []))))) 1), (whenF (bif (decide (0 < ((k : Nat) : Int))) then (leS (Prod.fst (List.getD l k ([], []))) (Prod.fst (List.getD l (k - 1) ([], [])))) else false) 11)])), (10, vL eF l), (11, vI ((List.length l : Nat) : Int)), (12, vI ((k : Nat) : Int)), (49, vB (decide ((firstF [(whenF (!(isNameF (bsO (Prod.fst (List.getD l k ([], [])))))) 8), (whenF (decide (60 < ((List.length (Prod.snd (List.getD l k ([], []))) : Nat) : Int))) 26), (whenF (!(permS (Prod.snd (List.getD l k ([], []))))) 1), (whenF (bif (decide (0 < ((k : Nat) : Int))) then (leS (Prod.fst (List.getD l k ([], []))) (Prod.fst (List.getD l (k - 1) ([], [])))) else false) 11)]) ≠ 0)))], []⟩ (sb rfl rfl rfl) ?_
   refine TK.condP rfl (fun h3 => ?_) (fun h3 => ?_)
   ·
    refine At rfl ?_
    refine NR ⟨[(6, vI (firstF [(whenF (!(isNameF (bsO (Prod.fst (List.getD l k ([], [])))))) 8), (whenF (decide (60 < ((List.length (Prod.snd (List.getD l k ([], []))) : Nat) : Int))) 26), (whenF (!(permS (Prod.snd (List.getD l k ([], []))))) 1), (whenF (bif (decide (0 < ((k : Nat) : Int))) then (leS (Prod.fst (List.getD l k ([], []))) (Prod.fst (List.getD l (k - 1) ([], [])))) else false) 11)]))], []⟩ (sb rfl rfl rfl) rfl ?_
    refine mv rfl ?_
    refine ag rfl ?_
    refine RN ?_
    refine Ap rfl ?_
    refine TK.ret ?_
    refine PK.ret ?_
    refine leaf (val0 := vI (firstF [(whenF (!(isNameF (bsO (Prod.fst (List.getD l k ([], [])))))) 8), (whenF (decide (60 < ((List.length (Prod.snd (List.getD l k ([], []))) : Nat) : Int))) 26), (whenF (!(permS (Prod.snd (List.getD l k ([], []))))) 1), (whenF (bif (decide (0 < ((k : Nat) : Int))) then (leS (Prod.fst (List.getD l k ([], []))) (Prod.fst (List.getD l (k - 1) ([], [])))) else false) 11)])) (by kernel_rfl) ?_
    exact li (by first
          | (unfold chkFl; rw [decide_eq_true (by omega)]; rfl)
          | (rw [first_fld] at h3 ⊢; rw [hI0.2.2, fGo_err (by omega) h3])
          | (rw [hI0.2.2, show List.length l - k = 0 by omega]; rfl))
   ·
    refine At rfl ?_
    refine NR ⟨[(0, vL eF l), (10, vL eF l), (11, vI ((List.length l : Nat) : Int)), (12, vI ((k : Nat) : Int))], []⟩ (sb rfl rfl rfl) rfl ?_
    refine RO (Body.add rfl rfl (by unfold R64; omega)) ?_
    refine mv rfl ?_
    refine RN ?_
    refine Aq rfl ?_
    refine PK.lp ?_
    refine LP.mk (k + 1) ?_ ?_ (sb rfl rfl rfl)
    · show (k + 1) ≤ List.length l ∧ List.length l ≤ 24 ∧ chkFl l = fGo l (List.length l - (k + 1)) (k + 1)
      refine ⟨by omega, hI0.2.1, ?_⟩; rw [hI0.2.2]; rw [first_fld] at h3; exact fGo_step (by omega) (Decidable.not_not.1 h3)
    · show List.length l - (k + 1) < List.length l - k
      omega
  ·
   refine At rfl ?_
   refine TK.exit ?_
   refine PK.exit rfl ?_
   refine Ap rfl ?_
   refine NR ⟨[], []⟩ (sb rfl rfl rfl) rfl ?_
   refine ag rfl ?_
   refine RN ?_
   refine Ap rfl ?_
   refine TK.ret ?_
   refine PK.ret ?_
   refine leaf (val0 := vI 0) (by kernel_rfl) ?_
   exact li (by first
          | (unfold chkFl; rw [decide_eq_true (by omega)]; rfl)
          | (rw [first_fld] at h3 ⊢; rw [hI0.2.2, fGo_err (by omega) h3])
          | (rw [hI0.2.2, show List.length l - k = 0 by omega]; rfl))
end Go.Lens.Tm
end
section
namespace Go.Lens.Tm
open Go.Lens.Tb Go.Proofs
set_option linter.unusedSectionVars false
def insGo (x : List UInt8) : List (List UInt8) → List (List UInt8)
 | [] => [x]
 | y :: l => bif ltS y x then y :: insGo x l else x :: y :: l
def insS (x : List UInt8) (l : List (List UInt8)) : List (List UInt8) := bif List.any l (fun y => decide (y = x)) then l else insGo x l
theorem insGo_at (x : List UInt8) : ∀ (l : List (List UInt8)) (k : Nat), k ≤ l.length → (∀ j, j < k → ltS (l.getD j []) x = true) → (k < l.length → ltS (l.getD k []) x = false) → insGo x l = (l.take k ++ [x]) ++ l.drop k
 | [], k, hk, _, _ => by
  have : k = 0 := by simpa using hk
  subst this; rfl
 | y :: l, 0, _, _, h => by
  have h0 : ltS y x = false := h (by simp)
  simp only [insGo, h0, cond_false]; rfl
 | y :: l, k + 1, hk, h1, h2 => by
  have h0 : ltS y x = true := h1 0 (by omega)
  simp only [insGo, h0, cond_true]
  rw [insGo_at x l k (by simpa using hk) (fun j hj => by simpa using h1 (j + 1) (by omega)) (fun hj => by simpa using h2 (by simpa using hj))]
  simp
theorem insS_len (x : List UInt8) (l : List (List UInt8)) : (insS x l).length ≤ l.length + 1 := by
 unfold insS
 cases List.any l (fun y => decide (y = x)) with
 | true => simp
 | false =>
  have : ∀ l : List (List UInt8), (insGo x l).length = l.length + 1 := by
   intro l
   induction l with
   | nil => rfl
   | cons y l ih =>
    simp only [insGo]
    cases ltS y x <;> simp [ih]
  simp [this]
theorem ins_q {l : List (List UInt8)} {x : List UInt8} {k : Nat} {b : Bool} (hk : k < l.length) (h : (bif decide (((k : Nat) : Int) < ((List.length l : Nat) : Int)) then ltS (l.getD k []) x else false) = b) : ltS (l.getD k []) x = b := by
 rw [decide_eq_true (by omega)] at h; exact h
theorem ins_lt {l : List (List UInt8)} {x : List UInt8} {k : Nat} (h : (bif decide (((k : Nat) : Int) < ((List.length l : Nat) : Int)) then ltS (l.getD k []) x else false) = true) : k < l.length := by
 by_cases hk : k < l.length
 ·exact hk
 ·rw [decide_eq_false (by omega)] at h; cases h
def splGo : List UInt8 → List UInt8 → List (List UInt8)
 | acc, [] => [acc]
 | acc, c :: r => bif decide (((c.toNat : Nat) : Int) = 32) then acc :: splGo [] r else splGo (acc ++ [c]) r
def splS (s : List UInt8) : List (List UInt8) := splGo [] s
theorem mid_snoc {s : List UInt8} {i f : Nat} (hf : f ≤ i) (hi : i < s.length) : (s.take (i + 1)).drop f = (s.take i).drop f ++ [s.getD i 0] := by
 have e : s.take (i + 1) = s.take i ++ [s.getD i 0] := by
  rw [List.take_add_one, List.getElem?_eq_getElem hi, List.getD_eq_getElem?_getD, List.getElem?_eq_getElem hi]; rfl
 rw [e, List.drop_append_of_le_length (by rw [List.length_take]; omega)]
theorem spl_no {s : List UInt8} {i f : Nat} (hf : f ≤ i) (hi : i < s.length) (h : ¬ ((s.getD i 0).toNat : Int) = 32) : splGo ((s.take i).drop f) (s.drop i) = splGo ((s.take (i + 1)).drop f) (s.drop (i + 1)) := by
 rw [drop_at s i 0 hi, splGo, decide_eq_false h, cond_false, mid_snoc hf hi]
theorem spl_yes {s : List UInt8} {i f : Nat} (hi : i < s.length) (h : ((s.getD i 0).toNat : Int) = 32) : splGo ((s.take i).drop f) (s.drop i) = (s.take i).drop f :: splGo ((s.take (i + 1)).drop (i + 1)) (s.drop (i + 1)) := by
 rw [drop_at s i 0 hi, splGo, decide_eq_true h, cond_true]
 congr 2
 rw [List.drop_eq_nil_of_le (by rw [List.length_take]; omega)]
theorem spl_end {s : List UInt8} {i f : Nat} (hi : i = s.length) : splGo ((s.take i).drop f) (s.drop i) = [(s.take i).drop f] := by
 have e : s.drop i = [] := List.drop_eq_nil_of_le (by omega)
 rw [e]; rfl
def SplI (s : List UInt8) (i f : Nat) (out : List (List UInt8)) : Prop := f ≤ i ∧ out.length ≤ i ∧ ((i ≤ s.length ∧ splS s = out ++ splGo ((s.take i).drop f) (s.drop i)) ∨ (i = s.length + 1 ∧ splS s = out))
theorem splI0 (s : List UInt8) : SplI s 0 0 [] := ⟨Nat.le_refl _, Nat.zero_le _, .inl ⟨Nat.zero_le _, rfl⟩⟩
theorem spl_at {s : List UInt8} {i f : Nat} {out : List (List UInt8)} (h : SplI s i f out) (hi : ((i : Nat) : Int) ≤ ((List.length s : Nat) : Int)) : f ≤ i ∧ out.length ≤ i ∧ i ≤ s.length ∧ splS s = out ++ splGo ((s.take i).drop f) (s.drop i) := by
 obtain ⟨h1, h2, ⟨h3, h4⟩ | ⟨h3, _⟩⟩ := h
 ·exact ⟨h1, h2, h3, h4⟩
 ·omega
theorem spl_out {s : List UInt8} {i f : Nat} {out : List (List UInt8)} (h : SplI s i f out) (hi : ¬ ((i : Nat) : Int) ≤ ((List.length s : Nat) : Int)) : out = splS s := by
 obtain ⟨_, _, ⟨h3, _⟩ | ⟨_, h4⟩⟩ := h
 ·omega
 ·exact h4.symm
theorem spl_c {s : List UInt8} {i : Nat} (hi : i ≤ s.length) {b : Bool} (h : (bif decide (((i : Nat) : Int) = ((List.length s : Nat) : Int)) then true else decide ((byteAt (bsO s) i) = 32)) = b) :
 (b = true → i = s.length ∨ (i < s.length ∧ ((s.getD i 0).toNat : Int) = 32)) ∧ (b = false → i < s.length ∧ ¬ ((s.getD i 0).toNat : Int) = 32) := by
 have e : byteAt (bsO s) i = ((s.getD i 0).toNat : Int) := rfl
 rw [e, bif_or] at h
 constructor
 ·rintro rfl
  simp only [Bool.or_eq_true, decide_eq_true_eq] at h
  rcases h with h | h
  ·exact .inl (by omega)
  ·by_cases hq : i = s.length
   ·exact .inl hq
   ·exact .inr ⟨by omega, h⟩
 ·rintro rfl
  simp only [Bool.or_eq_false_iff, decide_eq_false_iff_not] at h
  exact ⟨by omega, h.2⟩
theorem spl_stepY {s : List UInt8} {i f : Nat} {out : List (List UInt8)} (h : SplI s i f out) (hi : ((i : Nat) : Int) ≤ ((List.length s : Nat) : Int)) (h3 : (bif decide (((i : Nat) : Int) = ((List.length s : Nat) : Int)) then true else decide ((byteAt (bsO s) i) = 32)) = true) : SplI s (i + 1) (i + 1) (out ++ [(s.take i).drop f]) := by
 obtain ⟨h1, h2, h4, h5⟩ := spl_at h hi
 refine ⟨Nat.le_refl _, by simp only [List.length_append, List.length_cons, List.length_nil]; omega, ?_⟩
 rcases (spl_c h4 h3).1 rfl with hq | ⟨hq, hc⟩
 ·right; rw [spl_end hq] at h5; exact ⟨by omega, h5⟩
 ·left; rw [spl_yes hq hc] at h5
  exact ⟨by omega, by rw [h5, List.append_assoc]; rfl⟩
theorem spl_stepN {s : List UInt8} {i f : Nat} {out : List (List UInt8)} (h : SplI s i f out) (hi : ((i : Nat) : Int) ≤ ((List.length s : Nat) : Int)) (h3 : (bif decide (((i : Nat) : Int) = ((List.length s : Nat) : Int)) then true else decide ((byteAt (bsO s) i) = 32)) = false) : SplI s (i + 1) f out := by
 obtain ⟨h1, h2, h4, h5⟩ := spl_at h hi
 obtain ⟨hq, hc⟩ := (spl_c h4 h3).2 rfl
 exact ⟨by omega, by omega, .inl ⟨by omega, by rw [h5, spl_no h1 hq hc]⟩⟩
def fldP (f : Fld) : List UInt8 := (f.1 ++ [61]) ++ f.2
def prtK (l : List Fld) : Nat → List UInt8
 | 0 => []
 | k + 1 => ((bif decide (0 < k) then prtK l k ++ [32] else prtK l k) ++ (l.getD k ([], [])).1 ++ [61]) ++ (l.getD k ([], [])).2
def prtF (l : List Fld) : List UInt8 := prtK l l.length
theorem prtK_len (l : List Fld) (N : Nat) (h : ∀ f ∈ l, f.1.length ≤ N ∧ f.2.length ≤ N) : ∀ k, k ≤ l.length → (prtK l k).length ≤ k * (2 * N + 2)
 | 0, _ => by simp [prtK]
 | k + 1, hk => by
  have h1 := prtK_len l N h k (by omega)
  have h2 := h _ (getD_mem (l := l) (k := k) (z := ([], [])) (by omega))
  simp only [prtK]
  rw [Nat.add_mul]
  cases decide (0 < k) <;> simp only [cond_true, cond_false, List.length_append, List.length_cons, List.length_nil] <;> omega
end Go.Lens.Tm
end
section
namespace Go.Lens.Tm
open Go.Lens.Tb Go.Proofs
variable [Lz]
set_option linter.unusedSectionVars false
set_option maxRecDepth 100000
attribute [local irreducible] TK PK T RG EfR Body
set_option maxHeartbeats 2000000 in
theorem w178 (l : List (List UInt8)) (n : List UInt8) (hl : l.length ≤ 1000000) : CallOk Tryz.prog 178 [vL eN l, vS (bsO n)] (lookM []) (vL eN (insS n l)) [] := by
 haveI := tab_ok
 obtain ⟨fn, f1, f2, f3, f4, _, f6⟩ := qf178
 refine callOk_of (Y := tab) (F := fn178) f1 (f2.trans rfl) f3 f4 f6 (Nat.le_of_ble_eq_true rfl) rfl ?_
 clear f1 f2 f3 f4 f6
 show TK _ _ _ _ _ _ ⟨[(0, vL eN l), (1, vS (bsO n))], []⟩
 refine At rfl ?_
 refine NR ⟨[(0, vL eN l), (1, vS (bsO n))], []⟩ (sb rfl rfl rfl) rfl ?_
 refine RO (Body.nilS (enc := eN) rfl) ?_
 refine RN ?_
 refine Ap rfl ?_
 refine NR ⟨[(0, vL eN l), (1, vS (bsO n))], []⟩ (sb rfl rfl rfl) rfl ?_
 refine mv rfl ?_
 refine mv rfl ?_
 refine RO (Body.call (w88 l n (by first | omega | exact Nat.le_of_ble_eq_true rfl | (simp only [List.length_append, List.length_cons, List.length_nil, List.length_take, List.length_drop]; omega))) rfl rfl rfl) ?_
 refine RN ?_
 refine Ap rfl ?_
 refine TK.norm ⟨[(0, vL eN l), (1, vS (bsO n)), (8, vB (List.any l (fun y => decide (y = n))))], []⟩ (sb rfl rfl rfl) ?_
 refine TK.cond rfl (fun h1 => ?_) (fun h1 => ?_)
 ·
  refine At rfl ?_
  refine NR ⟨[(0, vL eN l)], []⟩ (sb rfl rfl rfl) rfl ?_
  refine mv rfl ?_
  refine ag rfl ?_
  refine RN ?_
  refine Ap rfl ?_
  refine TK.ret ?_
  refine PK.ret ?_
  refine leaf (val0 := vL eN l) (by kernel_rfl) ?_
  exact lsl (by first
          | (unfold insS; rw [h1]; rfl)
          | (unfold insS; rw [h1, cond_false]; exact (insGo_at n l k hI0.1 hI0.2 fun hk => ins_q hk h2).symm))
 ·
  refine At rfl ?_
  refine NR ⟨[(0, vL eN l), (1, vS (bsO n))], []⟩ (sb rfl rfl rfl) rfl ?_
  refine ag rfl ?_
  refine RN ?_
  refine Ap rfl ?_
  refine TK.loop (α := Nat) (fun x => ⟨[(0, vL eN l), (1, vS (bsO n)), (5, vI ((x : Nat) : Int))], []⟩) (fun x => x ≤ List.length l ∧ ∀ j, j < x → ltS (List.getD l j []) n = true) (fun x => List.length l - x) 0 ?_ (sb rfl rfl rfl) ?_
  · show 0 ≤ List.length l ∧ ∀ j, j < 0 → ltS (List.getD l j []) n = true
    exact ⟨Nat.zero_le _, fun j hj => by omega⟩
  rintro k hI0
  replace hI0 : k ≤ List.length l ∧ ∀ j, j < k → ltS (List.getD l j []) n = true := hI0
  show TK _ _ _ _ _ _ ⟨[(0, vL eN l), (1, vS (bsO n)), (5, vI ((k : Nat) : Int))], []⟩
  refine At rfl ?_
  refine NR ⟨[(0, vL eN l), (1, vS (bsO n)), (5, vI ((k : Nat) : Int))], []⟩ (sb rfl rfl rfl) rfl ?_
  refine mv rfl ?_
  refine mv rfl ?_
  refine RO (Body.lenL rfl un73) ?_
  refine RO (Body.lss rfl rfl) ?_
  refine mv rfl ?_
  refine RG.cons (EfR.sym rfl (fun hc => Body.move rfl) rfl) ?_
  refine RG.cons (EfR.sym rfl (fun hc => Body.move rfl) rfl) ?_
  refine RG.cons (EfR.sym rfl (fun hc => Body.idx (z := []) (i := k) (ev1_gd rfl hc) (ev1_gd rfl hc) un73 sz9 (fun _ => rfl) rfl (by first | omega | (have hc2 := hc; simp at hc2; omega) | (simp only [List.length_append, List.length_cons, List.length_nil, List.length_take, List.length_drop]; omega))) rfl) ?_
  refine RG.cons (EfR.sym rfl (fun hc => Body.loadP (ev1_gd rfl hc) ag9 sz9) rfl) ?_
  refine RG.cons (EfR.sym rfl (fun hc => Body.move rfl) rfl) ?_
  refine RG.cons (EfR.sym rfl (fun hc => Body.sltB (a := (List.getD l k [])) (b := n) (ev1_gd rfl hc) (ev1_gd rfl hc)) rfl) ?_
  refine RO (Body.pick rfl rfl rfl (gdB rfl) rfl (pick_and _)) ?_
  refine RN ?_
  refine Ap rfl ?_
  refine TK.norm ⟨[(0, vL eN l), (1, vS (bsO n)), (5, vI ((k : Nat) : Int)), (21, vB (bif (decide (((k : Nat) : Int) < ((List.length l : Nat) : Int))) then (ltS (List.getD l k []) n) else false))], []⟩ (sb rfl rfl rfl) ?_
  refine TK.cond rfl (fun h2 => ?_) (fun h2 => ?_)
  ·
   refine At rfl ?_
   refine NR ⟨[(0, vL eN l), (1, vS (bsO n)), (5, vI ((k : Nat) : Int))], []⟩ (sb rfl rfl rfl) rfl ?_
   refine mv rfl ?_
   refine RO (Body.add rfl rfl (by unfold R64; omega)) ?_
   refine ag rfl ?_
   refine RN ?_
   refine Aq rfl ?_
   refine PK.lp ?_
   refine LP.mk (k + 1) ?_ ?_ (sb rfl rfl rfl)
   · show (k + 1) ≤ List.length l ∧ ∀ j, j < (k + 1) → ltS (List.getD l j []) n = true
     have hkl := ins_lt h2; refine ⟨by omega, fun j hj => ?_⟩; rcases Nat.lt_succ_iff_lt_or_eq.1 hj with h | h; exact hI0.2 j h; subst h; exact ins_q hkl h2
   · show List.length l - (k + 1) < List.length l - k
     have hkl := ins_lt h2; omega
  ·
   refine At rfl ?_
   refine TK.exit ?_
   refine PK.exit rfl ?_
   refine Ap rfl ?_
   refine NR ⟨[(0, vL eN l), (1, vS (bsO n)), (5, vI ((k : Nat) : Int))], []⟩ (sb rfl rfl rfl) rfl ?_
   refine rn rfl ?_
   refine mv rfl ?_
   refine mv rfl ?_
   refine RO (Body.slT (j := k) rfl rfl un73 sz9 rfl (by first | omega | (have hc2 := hc; simp at hc2; omega) | (simp only [List.length_append, List.length_cons, List.length_nil, List.length_take, List.length_drop]; omega))) ?_
   refine RO (Body.append (enc := eN) (l := []) (r := (List.take k l)) rfl rfl rfl un73 in9 rfl (fun _ => rfl) by9 (by first | omega | (have hc2 := hc; simp at hc2; omega) | (simp only [List.length_append, List.length_cons, List.length_nil, List.length_take, List.length_drop]; omega))) ?_
   refine mv rfl ?_
   refine RO (Body.runZ (val := .pv (.slice (List.map eN [n]))) rfl (fun l => Frz.arr l _ _ _ _ _) rfl) ?_
   refine RO (Body.append rfl rfl rfl un73 in9 rfl (fun _ => rfl) by9 (by first | omega | (have hc2 := hc; simp at hc2; omega) | (simp only [List.length_append, List.length_cons, List.length_nil, List.length_take, List.length_drop]; omega))) ?_
   refine mv rfl ?_
   refine mv rfl ?_
   refine RO (Body.slDL (i := k) rfl rfl un73 sz9 (fun _ => rfl) rfl (by first | omega | (have hc2 := hc; simp at hc2; omega) | (simp only [List.length_append, List.length_cons, List.length_nil, List.length_take, List.length_drop]; omega))) ?_
   refine RO (Body.append rfl rfl rfl un73 in9 rfl (fun _ => rfl) by9 (by first | omega | (have hc2 := hc; simp at hc2; omega) | (simp only [List.length_append, List.length_cons, List.length_nil, List.length_take, List.length_drop]; omega))) ?_
   refine rn rfl ?_
   refine RG.nil (fun _ => by kernel_rfl) ?_
   refine Ap rfl ?_
   refine TK.frz (t := 4) rfl rfl ?_
   refine TK.norm ⟨[(4, vL eN (((List.take k l) ++ [n]) ++ (List.drop k l)))], []⟩ (sb rfl rfl rfl) ?_
   refine TK.ret ?_
   refine PK.ret ?_
   refine leaf (val0 := vL eN (((List.take k l) ++ [n]) ++ (List.drop k l))) (by kernel_rfl) ?_
   exact lsl (by first
          | (unfold insS; rw [h1]; rfl)
          | (unfold insS; rw [h1, cond_false]; exact (insGo_at n l k hI0.1 hI0.2 fun hk => ins_q hk h2).symm))
set_option maxHeartbeats 2000000 in
theorem w119 (s : List UInt8) (hl : s.length ≤ 1000000) : CallOk Tryz.prog 119 [vS (bsO s)] (lookM []) (vL eN (splS s)) [] := by
 haveI := tab_ok
 obtain ⟨fn, f1, f2, f3, f4, _, f6⟩ := qf119
 refine callOk_of (Y := tab) (F := fn119) f1 (f2.trans rfl) f3 f4 f6 (Nat.le_of_ble_eq_true rfl) rfl ?_
 clear f1 f2 f3 f4 f6
 show TK _ _ _ _ _ _ ⟨[(0, vS (bsO s))], []⟩
 refine At rfl ?_
 refine NR ⟨[(0, vS (bsO s))], []⟩ (sb rfl rfl rfl) rfl ?_
 refine RO (Body.nilS (enc := eN) rfl) ?_
 refine RN ?_
 refine Ap rfl ?_
 refine NR ⟨[(0, vS (bsO s))], []⟩ (sb rfl rfl rfl) rfl ?_
 refine RO (Body.adopt 4 1 9 rfl rfl) ?_
 refine RN ?_
 refine Ap rfl ?_
 refine NR ⟨[(0, vS (bsO s)), (3, .aref 4 0)], [(4, .arr 0 1 9 (List.map eN []))]⟩ (sb rfl rfl rfl) rfl ?_
 refine ag rfl ?_
 refine RN ?_
 refine Ap rfl ?_
 refine NR ⟨[(0, vS (bsO s)), (3, .aref 4 0), (4, vI 0)], [(4, .arr 0 1 9 (List.map eN []))]⟩ (sb rfl rfl rfl) rfl ?_
 refine ag rfl ?_
 refine RN ?_
 refine Ap rfl ?_
 refine TK.loop (α := Nat × Nat × Nat × List (List UInt8)) (fun x => ⟨[(0, vS (bsO s)), (3, .aref 4 x.2.2.1), (4, vI ((x.2.1 : Nat) : Int)), (5, vI ((x.1 : Nat) : Int))], [(4, .arr x.2.2.1 1 9 (List.map eN x.2.2.2))]⟩) (fun x => SplI s x.1 x.2.1 x.2.2.2) (fun x => List.length s + 1 - x.1) (0, 0, 0, []) ?_ (sb rfl rfl rfl) ?_
 · show SplI s 0 0 []
   exact splI0 s
 rintro ⟨i, f, v, out⟩ hI0
 replace hI0 : SplI s i f out := hI0
 show TK _ _ _ _ _ _ ⟨[(0, vS (bsO s)), (3, .aref 4 v), (4, vI ((f : Nat) : Int)), (5, vI ((i : Nat) : Int))], [(4, .arr v 1 9 (List.map eN out))]⟩
 refine At rfl ?_
 refine NR ⟨[(0, vS (bsO s)), (3, .aref 4 v), (4, vI ((f : Nat) : Int)), (5, vI ((i : Nat) : Int))], [(4, .arr v 1 9 (List.map eN out))]⟩ (sb rfl rfl rfl) rfl ?_
 refine mv rfl ?_
 refine mv rfl ?_
 refine RO (Body.lenB (a := s) rfl un9) ?_
 refine RO (Body.leq rfl rfl) ?_
 refine RN ?_
 refine Ap rfl ?_
 refine TK.norm ⟨[(0, vS (bsO s)), (3, .aref 4 v), (4, vI ((f : Nat) : Int)), (5, vI ((i : Nat) : Int)), (9, vB (decide (((i : Nat) : Int) ≤ ((List.length s : Nat) : Int))))], [(4, .arr v 1 9 (List.map eN out))]⟩ (sb rfl rfl rfl) ?_
 refine TK.condP rfl (fun h1 => ?_) (fun h1 => ?_)
 ·
  refine At rfl ?_
  refine TK.norm ⟨[(0, vS (bsO s)), (3, .aref 4 v), (4, vI ((f : Nat) : Int)), (5, vI ((i : Nat) : Int))], [(4, .arr v 1 9 (List.map eN out))]⟩ (sb rfl rfl rfl) ?_
  have hsp := spl_at hI0 h1
  refine TK.rg (Y := tab) mixed rfl ?_
  refine mv rfl ?_
  refine mv rfl ?_
  refine RO (Body.lenB (a := s) rfl un9) ?_
  refine RO (Body.eql rfl rfl) ?_
  refine mv rfl ?_
  refine RG.cons (EfR.sym rfl (fun hc => Body.move rfl) rfl) ?_
  refine RG.cons (EfR.sym rfl (fun hc => Body.move rfl) rfl) ?_
  refine RG.cons (EfR.sym rfl (fun hc => Body.sidx (i := i) (ev1_gd rfl hc) (ev1_gd rfl hc) un9 rfl (show i < List.length s from (by first | omega | (have hc2 := hc; simp at hc2; omega) | (simp only [List.length_append, List.length_cons, List.length_nil, List.length_take, List.length_drop]; omega)))) rfl) ?_
  refine RG.cons (EfR.sym rfl (fun hc => Body.eql (ev1_gd rfl hc) rfl) rfl) ?_
  refine RO (Body.pick rfl rfl rfl rfl (gdB rfl) (pick_or _)) ?_
  refine RN ?_
  refine Ap rfl ?_
  refine TK.norm ⟨[(0, vS (bsO s)), (3, .aref 4 v), (4, vI ((f : Nat) : Int)), (5, vI ((i : Nat) : Int)), (21, vB (bif (decide (((i : Nat) : Int) = ((List.length s : Nat) : Int))) then true else (decide ((byteAt (bsO s) i) = 32))))], [(4, .arr v 1 9 (List.map eN out))]⟩ (sb rfl rfl rfl) ?_
  refine TK.cond rfl (fun h2 => ?_) (fun h2 => ?_)
  ·
   refine At rfl ?_
   refine NR ⟨[(0, vS (bsO s)), (3, .aref 4 v), (4, vI ((f : Nat) : Int)), (5, vI ((i : Nat) : Int))], [(4, .arr v 1 9 (List.map eN out))]⟩ (sb rfl rfl rfl) rfl ?_
   refine rn rfl ?_
   refine mv rfl ?_
   refine mv rfl ?_
   refine mv rfl ?_
   refine RO (Body.slMB (a := s) (i := f) (j := i) rfl rfl rfl un9 rfl rfl (by first | omega | (have hc2 := hc; simp at hc2; omega) | (simp only [List.length_append, List.length_cons, List.length_nil, List.length_take, List.length_drop]; omega)) (by first | omega | (have hc2 := hc; simp at hc2; omega) | (simp only [List.length_append, List.length_cons, List.length_nil, List.length_take, List.length_drop]; omega))) ?_
   refine RO (Body.runZ (val := .pv (.slice (List.map eN [(List.drop f (List.take i s))]))) rfl (fun l => Frz.arr l _ _ _ _ _) rfl) ?_
   refine RO (Body.append rfl rfl rfl un73 in9 rfl (fun _ => rfl) by9 (by first | omega | (have hc2 := hc; simp at hc2; omega) | (simp only [List.length_append, List.length_cons, List.length_nil, List.length_take, List.length_drop]; omega))) ?_
   refine rn rfl ?_
   refine RN ?_
   refine Ap rfl ?_
   refine NR ⟨[(0, vS (bsO s)), (3, .aref 4 (v + 1)), (5, vI ((i : Nat) : Int))], [(4, .arr (v + 1) 1 9 (List.map eN (out ++ [(List.drop f (List.take i s))])))]⟩ (sb rfl rfl rfl) rfl ?_
   refine mv rfl ?_
   refine RO (Body.add rfl rfl (by unfold R64; omega)) ?_
   refine ag rfl ?_
   refine RN ?_
   refine Ap rfl ?_
   refine NR ⟨[(0, vS (bsO s)), (3, .aref 4 (v + 1)), (4, vI (((i : Nat) : Int) + 1)), (5, vI ((i : Nat) : Int))], [(4, .arr (v + 1) 1 9 (List.map eN (out ++ [(List.drop f (List.take i s))])))]⟩ (sb rfl rfl rfl) rfl ?_
   refine mv rfl ?_
   refine RO (Body.add rfl rfl (by unfold R64; omega)) ?_
   refine ag rfl ?_
   refine RN ?_
   refine Aq rfl ?_
   refine PK.lp ?_
   refine LP.mk ((i + 1), (i + 1), (v + 1), (out ++ [(List.drop f (List.take i s))])) ?_ ?_ (sb rfl rfl rfl)
   · show SplI s (i + 1) (i + 1) (out ++ [(List.drop f (List.take i s))])
     first | exact spl_stepY hI0 h1 h2 | exact spl_stepN hI0 h1 h2
   · show List.length s + 1 - (i + 1) < List.length s + 1 - i
     omega
  ·
   refine At rfl ?_
   refine NR ⟨[(0, vS (bsO s)), (3, .aref 4 v), (4, vI ((f : Nat) : Int)), (5, vI ((i : Nat) : Int))], [(4, .arr v 1 9 (List.map eN out))]⟩ (sb rfl rfl rfl) rfl ?_
   refine mv rfl ?_
   refine RO (Body.add rfl rfl (by unfold R64; omega)) ?_
   refine ag rfl ?_
   refine RN ?_
   refine Aq rfl ?_
   refine PK.lp ?_
   refine LP.mk ((i + 1), f, v, out) ?_ ?_ (sb rfl rfl rfl)
   · show SplI s (i + 1) f out
     first | exact spl_stepY hI0 h1 h2 | exact spl_stepN hI0 h1 h2
   · show List.length s + 1 - (i + 1) < List.length s + 1 - i
     omega
 ·
  refine At rfl ?_
  refine TK.exit ?_
  refine PK.exit rfl ?_
  refine Ap rfl ?_
  refine TK.norm ⟨[(3, .aref 4 v)], [(4, .arr v 1 9 (List.map eN out))]⟩ (sb rfl rfl rfl) ?_
  refine TK.frz (t := 3) rfl rfl ?_
  refine NR ⟨[(3, vL eN out)], []⟩ (sb rfl rfl rfl) rfl ?_
  refine mv rfl ?_
  refine ag rfl ?_
  refine RN ?_
  refine Ap rfl ?_
  refine TK.ret ?_
  refine PK.ret ?_
  refine leaf (val0 := vL eN out) (by kernel_rfl) ?_
  exact lsl (by exact spl_out hI0 h1)
set_option maxHeartbeats 2000000 in
theorem w39 (l : List Fld) (hl : l.length ≤ 1000) (hb : ∀ f ∈ l, f.1.length ≤ 1000000 ∧ f.2.length ≤ 1000000) : CallOk Tryz.prog 39 [vL eF l] (lookM []) (vS (bsO (prtF l))) [] := by
 haveI := tab_ok
 obtain ⟨fn, f1, f2, f3, f4, _, f6⟩ := qf39
 refine callOk_of (Y := tab) (F := fn39) f1 (f2.trans rfl) f3 f4 f6 (Nat.le_of_ble_eq_true rfl) rfl ?_
 clear f1 f2 f3 f4 f6
 show TK _ _ _ _ _ _ ⟨[(0, vL eF l)], []⟩
 refine At rfl ?_
 refine NR ⟨[(0, vL eF l)], []⟩ (sb rfl rfl rfl) rfl ?_
 refine ag rfl ?_
 refine RN ?_
 refine Ap rfl ?_
 refine NR ⟨[(0, vL eF l)], []⟩ (sb rfl rfl rfl) rfl ?_
 refine ag rfl ?_
 refine RN ?_
 refine Ap rfl ?_
 refine NR ⟨[(0, vL eF l), (3, vS (bsO []))], []⟩ (sb rfl rfl rfl) rfl ?_
 refine ag rfl ?_
 refine RN ?_
 refine Ap rfl ?_
 refine TK.loop (α := Nat × List UInt8) (fun x => ⟨[(0, vL eF l), (3, vS (bsO x.2)), (4, vI ((x.1 : Nat) : Int))], []⟩) (fun x => x.1 ≤ List.length l ∧ x.2 = prtK l x.1) (fun x => List.length l - x.1) (0, []) ?_ (sb rfl rfl rfl) ?_
 · show 0 ≤ List.length l ∧ [] = prtK l 0
   exact ⟨Nat.zero_le _, rfl⟩
 rintro ⟨k, q⟩ hI0
 replace hI0 : k ≤ List.length l ∧ q = prtK l k := hI0
 show TK _ _ _ _ _ _ ⟨[(0, vL eF l), (3, vS (bsO q)), (4, vI ((k : Nat) : Int))], []⟩
 refine At rfl ?_
 refine NR ⟨[(0, vL eF l), (3, vS (bsO q)), (4, vI ((k : Nat) : Int))], []⟩ (sb rfl rfl rfl) rfl ?_
 refine mv rfl ?_
 refine mv rfl ?_
 refine RO (Body.lenL rfl un60) ?_
 refine RO (Body.lss rfl rfl) ?_
 refine RN ?_
 refine Ap rfl ?_
 refine TK.norm ⟨[(0, vL eF l), (3, vS (bsO q)), (4, vI ((k : Nat) : Int)), (8, vB (decide (((k : Nat) : Int) < ((List.length l : Nat) : Int))))], []⟩ (sb rfl rfl rfl) ?_
 refine TK.condP rfl (fun h1 => ?_) (fun h1 => ?_)
 ·
  refine At rfl ?_
  refine TK.norm ⟨[(0, vL eF l), (3, vS (bsO q)), (4, vI ((k : Nat) : Int))], []⟩ (sb rfl rfl rfl) ?_
  have hkb := hb _ (getD_mem (l := l) (k := k) (z := ([], [])) (by omega))
  have hpl := prtK_len l 1000000 hb k (by omega)
  rw [← hI0.2] at hpl
  have hpl2 : List.length q ≤ 1000 * (2 * 1000000 + 2) := Nat.le_trans hpl (Nat.mul_le_mul_right _ (by omega))
  refine TK.rg (Y := tab) mixed rfl ?_
  refine mv rfl ?_
  refine RO (Body.gtr rfl rfl) ?_
  refine RN ?_
  refine Ap rfl ?_
  refine TK.norm ⟨[(0, vL eF l), (3, vS (bsO q)), (4, vI ((k : Nat) : Int)), (12, vB (decide (0 < ((k : Nat) : Int))))], []⟩ (sb rfl rfl rfl) ?_
  refine TK.condP rfl (fun h2 => ?_) (fun h2 => ?_)
  ·
   refine At rfl ?_
   refine NR ⟨[(0, vL eF l), (3, vS (bsO q)), (4, vI ((k : Nat) : Int))], []⟩ (sb rfl rfl rfl) rfl ?_
   refine mv rfl ?_
   refine RO (Body.catB (a := q) (b := [32]) rfl rfl (by first | omega | (simp only [List.length_append, List.length_cons, List.length_nil]; omega))) ?_
   refine ag rfl ?_
   refine RN ?_
   refine Ap rfl ?_
   refine NR ⟨[(0, vL eF l), (3, vS (bsO (q ++ [32]))), (4, vI ((k : Nat) : Int))], []⟩ (sb rfl rfl rfl) rfl ?_
   refine mv rfl ?_
   refine mv rfl ?_
   refine mv rfl ?_
   refine RO (Body.idx (z := ([], [])) (i := k) rfl rfl un60 sz175 (fun _ => rfl) rfl (by omega)) ?_
   refine RO (Body.fadP rfl fa175_0 rfl) ?_
   refine RO (Body.loadP rfl ag9 sz9) ?_
   refine RO (Body.catB (a := (q ++ [32])) (b := (Prod.fst (List.getD l k ([], [])))) rfl rfl (by first | omega | (simp only [List.length_append, List.length_cons, List.length_nil]; omega))) ?_
   refine RO (Body.catB (a := ((q ++ [32]) ++ (Prod.fst (List.getD l k ([], []))))) (b := [61]) rfl rfl (by first | omega | (simp only [List.length_append, List.length_cons, List.length_nil]; omega))) ?_
   refine mv rfl ?_
   refine mv rfl ?_
   refine RO (Body.idx (z := ([], [])) (i := k) rfl rfl un60 sz175 (fun _ => rfl) rfl (by omega)) ?_
   refine RO (Body.fadP rfl fa175_1 rfl) ?_
   refine RO (Body.loadP rfl ag9 sz9) ?_
   refine RO (Body.catB (a := (((q ++ [32]) ++ (Prod.fst (List.getD l k ([], [])))) ++ [61])) (b := (Prod.snd (List.getD l k ([], [])))) rfl rfl (by first | omega | (simp only [List.length_append, List.length_cons, List.length_nil]; omega))) ?_
   refine ag rfl ?_
   refine RG.nil (fun _ => by kernel_rfl) ?_
   refine Ap rfl ?_
   refine NR ⟨[(0, vL eF l), (3, vS (bsO ((((q ++ [32]) ++ (Prod.fst (List.getD l k ([], [])))) ++ [61]) ++ (Prod.snd (List.getD l k ([], [])))))), (4, vI ((k : Nat) : Int))], []⟩ (sb rfl rfl rfl) rfl ?_
   refine mv rfl ?_
   refine RO (Body.add rfl rfl (by unfold R64; omega)) ?_
   refine ag rfl ?_
   refine RN ?_
   refine Aq rfl ?_
   refine PK.lp ?_
   refine LP.mk ((k + 1), ((((q ++ [32]) ++ (Prod.fst (List.getD l k ([], [])))) ++ [61]) ++ (Prod.snd (List.getD l k ([], []))))) ?_ ?_ (sb rfl rfl rfl)
   · show (k + 1) ≤ List.length l ∧ ((((q ++ [32]) ++ (Prod.fst (List.getD l k ([], [])))) ++ [61]) ++ (Prod.snd (List.getD l k ([], [])))) = prtK l (k + 1)
     refine ⟨by omega, ?_⟩; first | (rw [prtK, ← hI0.2, decide_eq_true (by omega)]; rfl) | (rw [prtK, ← hI0.2, decide_eq_false (by omega)]; rfl)
   · show List.length l - (k + 1) < List.length l - k
     omega
  ·
   refine At rfl ?_
   refine NR ⟨[(0, vL eF l), (3, vS (bsO q)), (4, vI ((k : Nat) : Int))], []⟩ (sb rfl rfl rfl) rfl ?_
   refine mv rfl ?_
   refine mv rfl ?_
   refine mv rfl ?_
   refine RO (Body.idx (z := ([], [])) (i := k) rfl rfl un60 sz175 (fun _ => rfl) rfl (by omega)) ?_
   refine RO (Body.fadP rfl fa175_0 rfl) ?_
   refine RO (Body.loadP rfl ag9 sz9) ?_
   refine RO (Body.catB (a := q) (b := (Prod.fst (List.getD l k ([], [])))) rfl rfl (by first | omega | (simp only [List.length_append, List.length_cons, List.length_nil]; omega))) ?_
   refine RO (Body.catB (a := (q ++ (Prod.fst (List.getD l k ([], []))))) (b := [61]) rfl rfl (by first | omega | (simp only [List.length_append, List.length_cons, List.length_nil]; omega))) ?_
   refine mv rfl ?_
   refine mv rfl ?_
   refine RO (Body.idx (z := ([], [])) (i := k) rfl rfl un60 sz175 (fun _ => rfl) rfl (by omega)) ?_
   refine RO (Body.fadP rfl fa175_1 rfl) ?_
   refine RO (Body.loadP rfl ag9 sz9) ?_
   refine RO (Body.catB (a := ((q ++ (Prod.fst (List.getD l k ([], [])))) ++ [61])) (b := (Prod.snd (List.getD l k ([], [])))) rfl rfl (by first | omega | (simp only [List.length_append, List.length_cons, List.length_nil]; omega))) ?_
   refine ag rfl ?_
   refine RG.nil (fun _ => by kernel_rfl) ?_
   refine Ap rfl ?_
   refine NR ⟨[(0, vL eF l), (3, vS (bsO (((q ++ (Prod.fst (List.getD l k ([], [])))) ++ [61]) ++ (Prod.snd (List.getD l k ([], [])))))), (4, vI ((k : Nat) : Int))], []⟩ (sb rfl rfl rfl) rfl ?_
   refine mv rfl ?_
   refine RO (Body.add rfl rfl (by unfold R64; omega)) ?_
   refine ag rfl ?_
   refine RN ?_
   refine Aq rfl ?_
   refine PK.lp ?_
   refine LP.mk ((k + 1), (((q ++ (Prod.fst (List.getD l k ([], [])))) ++ [61]) ++ (Prod.snd (List.getD l k ([], []))))) ?_ ?_ (sb rfl rfl rfl)
   · show (k + 1) ≤ List.length l ∧ (((q ++ (Prod.fst (List.getD l k ([], [])))) ++ [61]) ++ (Prod.snd (List.getD l k ([], [])))) = prtK l (k + 1)
     refine ⟨by omega, ?_⟩; first | (rw [prtK, ← hI0.2, decide_eq_true (by omega)]; rfl) | (rw [prtK, ← hI0.2, decide_eq_false (by omega)]; rfl)
   · show List.length l - (k + 1) < List.length l - k
     omega
 ·
  refine At rfl ?_
  refine TK.exit ?_
  refine PK.exit rfl ?_
  refine Ap rfl ?_
  refine NR ⟨[(3, vS (bsO q))], []⟩ (sb rfl rfl rfl) rfl ?_
  refine mv rfl ?_
  refine ag rfl ?_
  refine RN ?_
  refine Ap rfl ?_
  refine TK.ret ?_
  refine PK.ret ?_
  refine leaf (val0 := vS (bsO q)) (by kernel_rfl) ?_
  exact ls (by rw [hI0.2, show k = List.length l by omega]; rfl)
end Go.Lens.Tm
end
section
namespace Go.Lens.Tm
open Go.Lens.Tb Go.Proofs
set_option linter.unusedSectionVars false
theorem un4 [Lz] : tab.underlying 4 = some (.bool) := by kernel_rfl
def eL (l : List Fld) : List PV := [.slice (List.map eF l)]
def cutP : List UInt8 → Option Fld
 | [] => none
 | c :: r => bif decide (((c.toNat : Nat) : Int) = 61) then some ([], r) else (cutP r).map fun f => (c :: f.1, f.2)
theorem cutP_at : ∀ (p : List UInt8) (a : Nat), a ≤ p.length → (∀ j, j < a → ¬ ((p.getD j 0).toNat : Int) = 61) →
  (a = p.length → cutP p = none) ∧ (a < p.length → ((p.getD a 0).toNat : Int) = 61 → cutP p = some (p.take a, p.drop (a + 1)))
 | [], a, ha, _ => ⟨fun _ => rfl, fun h => by simp at h⟩
 | c :: r, 0, _, _ => by
  refine ⟨fun h => by simp at h, fun _ h => ?_⟩
  have h : ((c.toNat : Nat) : Int) = 61 := h
  simp [cutP, h]
 | c :: r, a + 1, ha, hn => by
  have h0 : ¬ ((c.toNat : Nat) : Int) = 61 := hn 0 (by omega)
  have ih := cutP_at r a (by simpa using ha) fun j hj => by simpa using hn (j + 1) (by omega)
  simp only [cutP, decide_eq_false h0, cond_false]
  refine ⟨fun h => ?_, fun h1 h2 => ?_⟩
  ·rw [ih.1 (by simpa using h)]; rfl
  ·rw [ih.2 (by simpa using h1) (by simpa using h2)]; rfl
def parGo : List (List UInt8) → Option (List Fld)
 | [] => some []
 | p :: r => match cutP p with
  | none => none
  | some f => (parGo r).map (f :: ·)
def parF (s : List UInt8) : List Fld × Int := if s = [] then ([], 0) else match parGo (splS s) with
 | none => ([], 25)
 | some l => if chkFl l = 0 then (l, 0) else ([], chkFl l)
theorem par_none {P : List (List UInt8)} {k : Nat} {out : List Fld} (hI : parGo P = (parGo (P.drop k)).map (out ++ ·)) (hk : k < P.length) (h : cutP (P.getD k []) = none) : parGo P = none := by
 rw [hI, drop_at P k [] hk, parGo, h]; rfl
theorem par_some {P : List (List UInt8)} {k : Nat} {out : List Fld} {f : Fld} (hI : parGo P = (parGo (P.drop k)).map (out ++ ·)) (hk : k < P.length) (h : cutP (P.getD k []) = some f) : parGo P = (parGo (P.drop (k + 1))).map ((out ++ [f]) ++ ·) := by
 rw [hI, drop_at P k [] hk, parGo, h]
 simp only [Option.map_map]
 congr 1
 funext r; simp
theorem par_end {P : List (List UInt8)} {k : Nat} {out : List Fld} (hI : parGo P = (parGo (P.drop k)).map (out ++ ·)) (hk : P.length ≤ k) : parGo P = some out := by
 rw [hI, List.drop_eq_nil_of_le hk]; simp [parGo]
theorem cut_q {p : List UInt8} {a : Nat} {b : Bool} (h : (bif decide (((a : Nat) : Int) < ((List.length p : Nat) : Int)) then decide ((byteAt (bsO p) a) ≠ 61) else false) = b) :
 (b = true → a < p.length ∧ ¬ ((p.getD a 0).toNat : Int) = 61) ∧ (b = false → a < p.length → ((p.getD a 0).toNat : Int) = 61) := by
 have e : byteAt (bsO p) a = ((p.getD a 0).toNat : Int) := rfl
 rw [e] at h
 by_cases hk : a < p.length
 ·rw [decide_eq_true (by omega), cond_true] at h
  subst h
  exact ⟨fun h => ⟨hk, of_decide_eq_true h⟩, fun h _ => Decidable.not_not.1 (of_decide_eq_false h)⟩
 ·rw [decide_eq_false (by omega), cond_false] at h
  subst h
  exact ⟨fun h => (by cases h), fun _ h => absurd h hk⟩
theorem spl_len (s : List UInt8) : ∀ acc : List UInt8, (splGo acc s).length ≤ s.length + 1 := by
 induction s with
 | nil => intro acc; simp [splGo]
 | cons c r ih =>
  intro acc
  simp only [splGo]
  cases decide (((c.toNat : Nat) : Int) = 32) with
  | true => have := ih []; simp only [cond_true, List.length_cons]; omega
  | false => have := ih (acc ++ [c]); simp only [cond_false, List.length_cons]; omega
theorem spl_part : ∀ (s acc : List UInt8) (p : List UInt8), p ∈ splGo acc s → p.length ≤ acc.length + s.length
 | [], acc, p, h => by
  simp only [splGo, List.mem_singleton] at h
  subst h; simp
 | c :: r, acc, p, h => by
  simp only [splGo] at h
  cases hq : decide (((c.toNat : Nat) : Int) = 32) with
  | true =>
   rw [hq, cond_true] at h
   rcases List.mem_cons.1 h with rfl | h
   ·omega
   ·have := spl_part r [] p h; simp only [List.length_cons, List.length_nil] at this ⊢; omega
  | false =>
   rw [hq, cond_false] at h
   have := spl_part r (acc ++ [c]) p h
   simp only [List.length_append, List.length_cons, List.length_nil] at this ⊢; omega
theorem parF_nil {s : List UInt8} (h : s = []) : parF s = ([], 0) := by unfold parF; rw [if_pos h]
theorem parF_none {s : List UInt8} (h : ¬ s = []) (h2 : parGo (splS s) = none) : parF s = ([], 25) := by unfold parF; rw [if_neg h, h2]
theorem parF_bad {s : List UInt8} {l : List Fld} (h : ¬ s = []) (h2 : parGo (splS s) = some l) (h3 : chkFl l ≠ 0) : parF s = ([], chkFl l) := by
 unfold parF; rw [if_neg h, h2]
 show (if chkFl l = 0 then _ else _) = _
 rw [if_neg h3]
theorem parF_ok {s : List UInt8} {l : List Fld} (h : ¬ s = []) (h2 : parGo (splS s) = some l) (h3 : ¬ chkFl l ≠ 0) : parF s = (l, 0) := by
 unfold parF; rw [if_neg h, h2]
 show (if chkFl l = 0 then _ else _) = _
 rw [if_pos (Decidable.not_not.1 h3)]
theorem len3 {b m t : List Fld} {N : Nat} (hb : b.length ≤ N) (hm : m.length ≤ N) (ht : t.length ≤ N) (k : Nat) : (List.getD [b, m, t] k []).length ≤ N := by
 match k with
 | 0 => exact hb
 | 1 => exact hm
 | 2 => exact ht
 | k + 3 => simp
def rmGo (B M T : List Fld) : List (List UInt8) → List Fld × List (List UInt8)
 | [] => ([], [])
 | x :: l =>
  let r := rmGo B M T l
  let g := if getF x M = getF x T then getF x M else if getF x M = getF x B then getF x T else getF x M
  (if g.isSome then (x, g.getD []) :: r.1 else r.1, if getF x M = getF x T ∨ getF x M = getF x B ∨ getF x T = getF x B then r.2 else x :: r.2)
def refNm (A : List Fld) : List (List UInt8) := A.foldl (fun n f => insS f.1 n) []
def refM (B M T : List Fld) : List Fld × List (List UInt8) :=
 if 0 < (rmGo B M T (refNm (B ++ M ++ T))).2.length then ([], (rmGo B M T (refNm (B ++ M ++ T))).2) else ((rmGo B M T (refNm (B ++ M ++ T))).1, [])
def mfG (e : Int) (r : List Fld × List (List UInt8)) : List Fld × List (List UInt8) × Int :=
 if e ≠ 0 then ([], [], e) else if 0 < r.2.length then ([], r.2, 29) else if 24 < r.1.length then ([], [], 5) else (r.1, [], 0)
theorem nmK_len (A : List Fld) : ∀ k, k ≤ A.length → (refNm (A.take k)).length ≤ k
 | 0, _ => by simp [refNm]
 | k + 1, hk => by
  have h1 := nmK_len A k (by omega)
  have e : refNm (A.take (k + 1)) = insS (A.getD k ([], [])).1 (refNm (A.take k)) := by
   rw [take_fld A k (by omega)]; simp [refNm]
  rw [e]
  have := insS_len (A.getD k ([], [])).1 (refNm (A.take k))
  omega
theorem nmK_step (A : List Fld) (k : Nat) (hk : k < A.length) : refNm (A.take (k + 1)) = insS (A.getD k ([], [])).1 (refNm (A.take k)) := by
 rw [take_fld A k hk]; simp [refNm]
theorem first3 {b m t : List Fld} {k : Nat} (hk : k < 3) (h : ∀ j, j < k → chkFl (List.getD [b, m, t] j []) = 0) (h2 : chkFl (List.getD [b, m, t] k []) ≠ 0) : firstF [chkFl b, chkFl m, chkFl t] = chkFl (List.getD [b, m, t] k []) := by
 have : k = 0 ∨ k = 1 ∨ k = 2 := by omega
 rcases this with rfl | rfl | rfl
 ·have h2 : chkFl b ≠ 0 := h2
  show (if chkFl b = 0 then _ else chkFl b) = chkFl b
  rw [if_neg h2]
 ·have h0 : chkFl b = 0 := h 0 (by omega)
  have h2 : chkFl m ≠ 0 := h2
  show (if chkFl b = 0 then (if chkFl m = 0 then _ else chkFl m) else _) = chkFl m
  rw [if_pos h0, if_neg h2]
 ·have h0 : chkFl b = 0 := h 0 (by omega)
  have h1 : chkFl m = 0 := h 1 (by omega)
  have h2 : chkFl t ≠ 0 := h2
  show (if chkFl b = 0 then (if chkFl m = 0 then (if chkFl t = 0 then _ else chkFl t) else _) else _) = chkFl t
  rw [if_pos h0, if_pos h1, if_neg h2]
theorem first3_ok {b m t : List Fld} (h : ∀ j, j < 3 → chkFl (List.getD [b, m, t] j []) = 0) : firstF [chkFl b, chkFl m, chkFl t] = 0 := by
 have h0 : chkFl b = 0 := h 0 (by omega)
 have h1 : chkFl m = 0 := h 1 (by omega)
 have h2 : chkFl t = 0 := h 2 (by omega)
 simp [firstF, h0, h1, h2]
theorem mfG_bad {e : Int} {r : List Fld × List (List UInt8)} (h : e ≠ 0) : mfG e r = ([], [], e) := by unfold mfG; rw [if_pos h]
theorem mfG_con {e : Int} {r : List Fld × List (List UInt8)} (h : e = 0) (h2 : 0 < ((List.length r.2 : Nat) : Int)) : mfG e r = ([], r.2, 29) := by unfold mfG; rw [if_neg (fun q => q h), if_pos (by omega)]
theorem mfG_many {e : Int} {r : List Fld × List (List UInt8)} (h : e = 0) (h2 : ¬ 0 < ((List.length r.2 : Nat) : Int)) (h3 : 24 < ((List.length r.1 : Nat) : Int)) : mfG e r = ([], [], 5) := by unfold mfG; rw [if_neg (fun q => q h), if_neg (by omega), if_pos (by omega)]
theorem mfG_ok {e : Int} {r : List Fld × List (List UInt8)} (h : e = 0) (h2 : ¬ 0 < ((List.length r.2 : Nat) : Int)) (h3 : ¬ 24 < ((List.length r.1 : Nat) : Int)) : mfG e r = (r.1, [], 0) := by unfold mfG; rw [if_neg (fun q => q h), if_neg (by omega), if_neg (by omega)]
theorem refM_con {B M T out : List Fld} {con : List (List UInt8)} (h : rmGo B M T (refNm (B ++ M ++ T)) = (out, con)) (h2 : 0 < ((List.length con : Nat) : Int)) : refM B M T = ([], con) := by
 unfold refM; rw [h]
 exact if_pos (show 0 < con.length by omega)
theorem refM_out {B M T out : List Fld} {con : List (List UInt8)} (h : rmGo B M T (refNm (B ++ M ++ T)) = (out, con)) (h2 : ¬ 0 < ((List.length con : Nat) : Int)) : refM B M T = (out, []) := by
 unfold refM; rw [h]
 exact if_neg (show ¬ 0 < con.length by omega)
end Go.Lens.Tm
end
section
namespace Go.Lens.Tm
open Go.Lens.Tb Go.Proofs
variable [Lz]
set_option linter.unusedSectionVars false
set_option maxRecDepth 100000
attribute [local irreducible] TK PK T RG EfR Body
theorem ag60 : aggT tab 60 = some false := by kernel_rfl
theorem sz60 : szT tab 60 = some 1 := by kernel_rfl
theorem un212 : tab.underlying 212 = some (.slice 60) := by kernel_rfl
set_option maxHeartbeats 4000000 in
theorem w40 (s : List UInt8) (hl : s.length ≤ 1000000) : CallOk Tryz.prog 40 [vS (bsO s)] (lookM []) (.tup [vL eF (parF s).1, vI (parF s).2]) [] := by
 haveI := tab_ok
 obtain ⟨fn, f1, f2, f3, f4, _, f6⟩ := qf40
 refine callOk_of (Y := tab) (F := fn40) f1 (f2.trans rfl) f3 f4 f6 (Nat.le_of_ble_eq_true rfl) rfl ?_
 clear f1 f2 f3 f4 f6
 have hsl : (splS s).length ≤ s.length + 1 := spl_len s []
 show TK _ _ _ _ _ _ ⟨[(0, vS (bsO s))], []⟩
 refine At rfl ?_
 refine NR ⟨[(0, vS (bsO s))], []⟩ (sb rfl rfl rfl) rfl ?_
 refine RO (Body.nilS (enc := eF) rfl) ?_
 refine ag rfl ?_
 refine RN ?_
 refine Ap rfl ?_
 refine NR ⟨[(0, vS (bsO s))], []⟩ (sb rfl rfl rfl) rfl ?_
 refine mv rfl ?_
 refine RO (Body.seqB (a := s) (b := []) rfl rfl) ?_
 refine RN ?_
 refine Ap rfl ?_
 refine TK.norm ⟨[(0, vS (bsO s)), (10, vB (decide (s = [])))], []⟩ (sb rfl rfl rfl) ?_
 refine TK.condP rfl (fun h1 => ?_) (fun h1 => ?_)
 ·
  refine At rfl ?_
  refine NR ⟨[], []⟩ (sb rfl rfl rfl) rfl ?_
  refine RO (Body.nilS (enc := eF) rfl) ?_
  refine ag rfl ?_
  refine RN ?_
  refine Ap rfl ?_
  refine TK.ret ?_
  refine PK.ret ?_
  refine leaf (val0 := .tup [vL eF [], vI 0]) (by kernel_rfl) ?_
  exact tup2 (lsl (by first
          | rw [parF_nil h1]
          | rw [parF_none h1 (par_none hI0.2.2 (by omega) ((cutP_at _ a hI1.1 hI1.2).1 (by omega)))]
          | rw [parF_bad h1 hpe (by assumption)]
          | rw [parF_ok h1 hpe (by assumption)])) (li (by first
          | rw [parF_nil h1]
          | rw [parF_none h1 (par_none hI0.2.2 (by omega) ((cutP_at _ a hI1.1 hI1.2).1 (by omega)))]
          | rw [parF_bad h1 hpe (by assumption)]
          | rw [parF_ok h1 hpe (by assumption)]))
 ·
  refine At rfl ?_
  refine NR ⟨[(0, vS (bsO s))], []⟩ (sb rfl rfl rfl) rfl ?_
  refine mv rfl ?_
  refine RO (Body.call (w119 s (by first | omega | exact Nat.le_of_ble_eq_true rfl | (simp only [List.length_append, List.length_cons, List.length_nil, List.length_take, List.length_drop]; omega))) rfl rfl rfl) ?_
  refine ag rfl ?_
  refine RN ?_
  refine Ap rfl ?_
  refine NR ⟨[(4, vL eN (splS s))], []⟩ (sb rfl rfl rfl) rfl ?_
  refine RO (Body.adopt 6 2 175 rfl rfl) ?_
  refine RN ?_
  refine Ap rfl ?_
  refine NR ⟨[(4, vL eN (splS s)), (5, .aref 6 0)], [(6, .arr 0 2 175 (List.map eF []))]⟩ (sb rfl rfl rfl) rfl ?_
  refine ag rfl ?_
  refine RN ?_
  refine Ap rfl ?_
  refine TK.loop (α := Nat × Nat × List Fld) (fun x => ⟨[(4, vL eN (splS s)), (5, .aref 6 x.2.1), (6, vI ((x.1 : Nat) : Int))], [(6, .arr x.2.1 2 175 (List.map eF x.2.2))]⟩) (fun x => x.1 ≤ List.length (splS s) ∧ List.length x.2.2 = x.1 ∧ parGo (splS s) = Option.map (fun r => x.2.2 ++ r) (parGo (List.drop x.1 (splS s)))) (fun x => List.length (splS s) - x.1) (0, 0, []) ?_ (sb rfl rfl rfl) ?_
  · show 0 ≤ List.length (splS s) ∧ List.length [] = 0 ∧ parGo (splS s) = Option.map (fun r => [] ++ r) (parGo (List.drop 0 (splS s)))
    exact ⟨Nat.zero_le _, rfl, by simp⟩
  rintro ⟨k, v, out⟩ hI0
  replace hI0 : k ≤ List.length (splS s) ∧ List.length out = k ∧ parGo (splS s) = Option.map (fun r => out ++ r) (parGo (List.drop k (splS s))) := hI0
  show TK _ _ _ _ _ _ ⟨[(4, vL eN (splS s)), (5, .aref 6 v), (6, vI ((k : Nat) : Int))], [(6, .arr v 2 175 (List.map eF out))]⟩
  refine At rfl ?_
  refine NR ⟨[(4, vL eN (splS s)), (5, .aref 6 v), (6, vI ((k : Nat) : Int))], [(6, .arr v 2 175 (List.map eF out))]⟩ (sb rfl rfl rfl) rfl ?_
  refine mv rfl ?_
  refine mv rfl ?_
  refine RO (Body.lenL rfl un73) ?_
  refine RO (Body.lss rfl rfl) ?_
  refine RN ?_
  refine Ap rfl ?_
  refine TK.norm ⟨[(4, vL eN (splS s)), (5, .aref 6 v), (6, vI ((k : Nat) : Int)), (16, vB (decide (((k : Nat) : Int) < ((List.length (splS s) : Nat) : Int))))], [(6, .arr v 2 175 (List.map eF out))]⟩ (sb rfl rfl rfl) ?_
  refine TK.condP rfl (fun h2 => ?_) (fun h2 => ?_)
  ·
   refine At rfl ?_
   refine TK.norm ⟨[(4, vL eN (splS s)), (5, .aref 6 v), (6, vI ((k : Nat) : Int))], [(6, .arr v 2 175 (List.map eF out))]⟩ (sb rfl rfl rfl) ?_
   have hpl := spl_part s [] _ (getD_mem (l := splS s) (k := k) (z := []) (by omega))
   simp only [List.length_nil, Nat.zero_add] at hpl
   refine TK.rg (Y := tab) mixed rfl ?_
   refine ag rfl ?_
   refine RN ?_
   refine Ap rfl ?_
   refine TK.loop (α := Nat) (fun x => ⟨[(4, vL eN (splS s)), (5, .aref 6 v), (6, vI ((k : Nat) : Int)), (7, vI ((x : Nat) : Int))], [(6, .arr v 2 175 (List.map eF out))]⟩) (fun x => x ≤ List.length (List.getD (splS s) k []) ∧ ∀ j, j < x → ¬ (((List.getD (List.getD (splS s) k []) j 0).toNat : Nat) : Int) = 61) (fun x => List.length (List.getD (splS s) k []) - x) 0 ?_ (sb rfl rfl rfl) ?_
   · show 0 ≤ List.length (List.getD (splS s) k []) ∧ ∀ j, j < 0 → ¬ (((List.getD (List.getD (splS s) k []) j 0).toNat : Nat) : Int) = 61
     exact ⟨Nat.zero_le _, fun j hj => by omega⟩
   rintro a hI1
   replace hI1 : a ≤ List.length (List.getD (splS s) k []) ∧ ∀ j, j < a → ¬ (((List.getD (List.getD (splS s) k []) j 0).toNat : Nat) : Int) = 61 := hI1
   show TK _ _ _ _ _ _ ⟨[(4, vL eN (splS s)), (5, .aref 6 v), (6, vI ((k : Nat) : Int)), (7, vI ((a : Nat) : Int))], [(6, .arr v 2 175 (List.map eF out))]⟩
   refine At rfl ?_
   refine NR ⟨[(4, vL eN (splS s)), (5, .aref 6 v), (6, vI ((k : Nat) : Int)), (7, vI ((a : Nat) : Int))], [(6, .arr v 2 175 (List.map eF out))]⟩ (sb rfl rfl rfl) rfl ?_
   refine mv rfl ?_
   refine mv rfl ?_
   refine mv rfl ?_
   refine RO (Body.idx (z := []) (i := k) rfl rfl un73 sz9 (fun _ => rfl) rfl (by first | omega | (have hc2 := hc; simp only [beq_iff_eq, decide_eq_true_eq, decide_eq_false_iff_not] at hc2; omega) | (simp only [List.length_append, List.length_cons, List.length_nil, List.length_take, List.length_drop]; omega))) ?_
   refine RO (Body.loadP rfl ag9 sz9) ?_
   refine RO (Body.lenB (a := (List.getD (splS s) k [])) rfl un9) ?_
   refine RO (Body.lss rfl rfl) ?_
   refine mv rfl ?_
   refine RG.cons (EfR.sym rfl (fun hc => Body.move rfl) rfl) ?_
   refine RG.cons (EfR.sym rfl (fun hc => Body.move rfl) rfl) ?_
   refine RG.cons (EfR.sym rfl (fun hc => Body.idx (z := []) (i := k) (ev1_gd rfl hc) (ev1_gd rfl hc) un73 sz9 (fun _ => rfl) rfl (by first | omega | (have hc2 := hc; simp only [beq_iff_eq, decide_eq_true_eq, decide_eq_false_iff_not] at hc2; omega) | (simp only [List.length_append, List.length_cons, List.length_nil, List.length_take, List.length_drop]; omega))) rfl) ?_
   refine RG.cons (EfR.sym rfl (fun hc => Body.loadP (ev1_gd rfl hc) ag9 sz9) rfl) ?_
   refine RG.cons (EfR.sym rfl (fun hc => Body.move rfl) rfl) ?_
   refine RG.cons (EfR.sym rfl (fun hc => Body.sidx (i := a) (ev1_gd rfl hc) (ev1_gd rfl hc) un9 rfl (show a < List.length (List.getD (splS s) k []) from (by first | omega | (have hc2 := hc; simp only [beq_iff_eq, decide_eq_true_eq, decide_eq_false_iff_not] at hc2; omega) | (simp only [List.length_append, List.length_cons, List.length_nil, List.length_take, List.length_drop]; omega)))) rfl) ?_
   refine RG.cons (EfR.sym rfl (fun hc => Body.neq (ev1_gd rfl hc) rfl) rfl) ?_
   refine RO (Body.pick rfl rfl rfl (gdB rfl) rfl (pick_and _)) ?_
   refine RN ?_
   refine Ap rfl ?_
   refine TK.norm ⟨[(4, vL eN (splS s)), (5, .aref 6 v), (6, vI ((k : Nat) : Int)), (7, vI ((a : Nat) : Int)), (34, vB (bif (decide (((a : Nat) : Int) < ((List.length (List.getD (splS s) k []) : Nat) : Int))) then (decide ((byteAt (bsO (List.getD (splS s) k [])) a) ≠ 61)) else false))], [(6, .arr v 2 175 (List.map eF out))]⟩ (sb rfl rfl rfl) ?_
   refine TK.cond rfl (fun h3 => ?_) (fun h3 => ?_)
   ·
    refine At rfl ?_
    refine NR ⟨[(4, vL eN (splS s)), (5, .aref 6 v), (6, vI ((k : Nat) : Int)), (7, vI ((a : Nat) : Int))], [(6, .arr v 2 175 (List.map eF out))]⟩ (sb rfl rfl rfl) rfl ?_
    refine mv rfl ?_
    refine RO (Body.add rfl rfl (by unfold R64; omega)) ?_
    refine ag rfl ?_
    refine RN ?_
    refine Aq rfl ?_
    refine PK.lp ?_
    refine LP.mk (a + 1) ?_ ?_ (sb rfl rfl rfl)
    · show (a + 1) ≤ List.length (List.getD (splS s) k []) ∧ ∀ j, j < (a + 1) → ¬ (((List.getD (List.getD (splS s) k []) j 0).toNat : Nat) : Int) = 61
      obtain ⟨hq1, hq2⟩ := (cut_q h3).1 rfl; refine ⟨by omega, fun j hj => ?_⟩; rcases Nat.lt_succ_iff_lt_or_eq.1 hj with h | h; exact hI1.2 j h; subst h; exact hq2
    · show List.length (List.getD (splS s) k []) - (a + 1) < List.length (List.getD (splS s) k []) - a
      have hq1 := ((cut_q h3).1 rfl).1; omega
   ·
    refine At rfl ?_
    refine TK.exit ?_
    refine PK.exit rfl ?_
    refine Ap rfl ?_
    refine NR ⟨[(4, vL eN (splS s)), (5, .aref 6 v), (6, vI ((k : Nat) : Int)), (7, vI ((a : Nat) : Int))], [(6, .arr v 2 175 (List.map eF out))]⟩ (sb rfl rfl rfl) rfl ?_
    refine mv rfl ?_
    refine mv rfl ?_
    refine mv rfl ?_
    refine RO (Body.idx (z := []) (i := k) rfl rfl un73 sz9 (fun _ => rfl) rfl (by first | omega | (have hc2 := hc; simp only [beq_iff_eq, decide_eq_true_eq, decide_eq_false_iff_not] at hc2; omega) | (simp only [List.length_append, List.length_cons, List.length_nil, List.length_take, List.length_drop]; omega))) ?_
    refine RO (Body.loadP rfl ag9 sz9) ?_
    refine RO (Body.lenB (a := (List.getD (splS s) k [])) rfl un9) ?_
    refine RO (Body.eql rfl rfl) ?_
    refine RN ?_
    refine Ap rfl ?_
    refine TK.norm ⟨[(4, vL eN (splS s)), (5, .aref 6 v), (6, vI ((k : Nat) : Int)), (7, vI ((a : Nat) : Int)), (43, vB (decide (((a : Nat) : Int) = ((List.length (List.getD (splS s) k []) : Nat) : Int))))], [(6, .arr v 2 175 (List.map eF out))]⟩ (sb rfl rfl rfl) ?_
    refine TK.condP rfl (fun h4 => ?_) (fun h4 => ?_)
    ·
     refine At rfl ?_
     refine NR ⟨[], []⟩ (sb rfl rfl rfl) rfl ?_
     refine RO (Body.nilS (enc := eF) rfl) ?_
     refine ag rfl ?_
     refine RN ?_
     refine Ap rfl ?_
     refine TK.ret ?_
     refine PK.ret ?_
     refine leaf (val0 := .tup [vL eF [], vI 25]) (by kernel_rfl) ?_
     exact tup2 (lsl (by first
          | rw [parF_nil h1]
          | rw [parF_none h1 (par_none hI0.2.2 (by omega) ((cutP_at _ a hI1.1 hI1.2).1 (by omega)))]
          | rw [parF_bad h1 hpe (by assumption)]
          | rw [parF_ok h1 hpe (by assumption)])) (li (by first
          | rw [parF_nil h1]
          | rw [parF_none h1 (par_none hI0.2.2 (by omega) ((cutP_at _ a hI1.1 hI1.2).1 (by omega)))]
          | rw [parF_bad h1 hpe (by assumption)]
          | rw [parF_ok h1 hpe (by assumption)]))
    ·
     refine At rfl ?_
     refine NR ⟨[(4, vL eN (splS s)), (5, .aref 6 v), (6, vI ((k : Nat) : Int)), (7, vI ((a : Nat) : Int))], [(6, .arr v 2 175 (List.map eF out))]⟩ (sb rfl rfl rfl) rfl ?_
     refine rn rfl ?_
     refine mv rfl ?_
     refine mv rfl ?_
     refine RO (Body.idx (z := []) (i := k) rfl rfl un73 sz9 (fun _ => rfl) rfl (by first | omega | (have hc2 := hc; simp only [beq_iff_eq, decide_eq_true_eq, decide_eq_false_iff_not] at hc2; omega) | (simp only [List.length_append, List.length_cons, List.length_nil, List.length_take, List.length_drop]; omega))) ?_
     refine RO (Body.loadP rfl ag9 sz9) ?_
     refine mv rfl ?_
     refine RO (Body.slHB (a := (List.getD (splS s) k [])) (j := a) rfl rfl un9 rfl (by first | omega | (have hc2 := hc; simp only [beq_iff_eq, decide_eq_true_eq, decide_eq_false_iff_not] at hc2; omega) | (simp only [List.length_append, List.length_cons, List.length_nil, List.length_take, List.length_drop]; omega))) ?_
     refine mv rfl ?_
     refine mv rfl ?_
     refine RO (Body.idx (z := []) (i := k) rfl rfl un73 sz9 (fun _ => rfl) rfl (by first | omega | (have hc2 := hc; simp only [beq_iff_eq, decide_eq_true_eq, decide_eq_false_iff_not] at hc2; omega) | (simp only [List.length_append, List.length_cons, List.length_nil, List.length_take, List.length_drop]; omega))) ?_
     refine RO (Body.loadP rfl ag9 sz9) ?_
     refine mv rfl ?_
     refine RO (Body.add rfl rfl (by unfold R64; omega)) ?_
     refine RO (Body.slLB (a := (List.getD (splS s) k [])) (i := (a + 1)) rfl rfl un9 (by omega) (by first | omega | (have hc2 := hc; simp only [beq_iff_eq, decide_eq_true_eq, decide_eq_false_iff_not] at hc2; omega) | (simp only [List.length_append, List.length_cons, List.length_nil, List.length_take, List.length_drop]; omega))) ?_
     refine rn rfl ?_
     refine RO (Body.runZ (val := .pv (.slice (List.map eF [((List.take a (List.getD (splS s) k [])), (List.drop (a + 1) (List.getD (splS s) k [])))]))) rfl (fun l => Frz.arr l _ _ _ _ _) rfl) ?_
     refine RO (Body.append rfl rfl rfl un60 in175 rfl (fun _ => rfl) by175 (by first | omega | (have hc2 := hc; simp only [beq_iff_eq, decide_eq_true_eq, decide_eq_false_iff_not] at hc2; omega) | (simp only [List.length_append, List.length_cons, List.length_nil, List.length_take, List.length_drop]; omega))) ?_
     refine rn rfl ?_
     refine RG.nil (fun _ => by kernel_rfl) ?_
     refine Ap rfl ?_
     refine NR ⟨[(4, vL eN (splS s)), (5, .aref 6 (v + 1)), (6, vI ((k : Nat) : Int))], [(6, .arr (v + 1) 2 175 (List.map eF (out ++ [((List.take a (List.getD (splS s) k [])), (List.drop (a + 1) (List.getD (splS s) k [])))])))]⟩ (sb rfl rfl rfl) rfl ?_
     refine mv rfl ?_
     refine RO (Body.add rfl rfl (by unfold R64; omega)) ?_
     refine ag rfl ?_
     refine RN ?_
     refine Aq rfl ?_
     refine PK.lp ?_
     refine LP.mk ((k + 1), (v + 1), (out ++ [((List.take a (List.getD (splS s) k [])), (List.drop (a + 1) (List.getD (splS s) k [])))])) ?_ ?_ (sb rfl rfl rfl)
     · show (k + 1) ≤ List.length (splS s) ∧ List.length (out ++ [((List.take a (List.getD (splS s) k [])), (List.drop (a + 1) (List.getD (splS s) k [])))]) = (k + 1) ∧ parGo (splS s) = Option.map (fun r => (out ++ [((List.take a (List.getD (splS s) k [])), (List.drop (a + 1) (List.getD (splS s) k [])))]) ++ r) (parGo (List.drop (k + 1) (splS s)))
       refine ⟨by omega, by simp only [List.length_append, List.length_cons, List.length_nil]; omega, ?_⟩; exact par_some hI0.2.2 (by omega) ((cutP_at _ a hI1.1 hI1.2).2 (by omega) ((cut_q h3).2 rfl (by omega)))
     · show List.length (splS s) - (k + 1) < List.length (splS s) - k
       omega
  ·
   refine At rfl ?_
   refine TK.exit ?_
   refine PK.exit rfl ?_
   refine Ap rfl ?_
   refine TK.norm ⟨[(5, .aref 6 v)], [(6, .arr v 2 175 (List.map eF out))]⟩ (sb rfl rfl rfl) ?_
   have hpe := par_end hI0.2.2 (by omega)
   refine TK.frz (t := 5) rfl rfl ?_
   refine NR ⟨[(5, vL eF out)], []⟩ (sb rfl rfl rfl) rfl ?_
   refine mv rfl ?_
   refine RO (Body.call (w38 out (by first | omega | exact Nat.le_of_ble_eq_true rfl | (simp only [List.length_append, List.length_cons, List.length_nil, List.length_take, List.length_drop]; omega))) rfl rfl rfl) ?_
   refine ag rfl ?_
   refine RN ?_
   refine Ap rfl ?_
   refine NR ⟨[(5, vL eF out), (8, vI (chkFl out))], []⟩ (sb rfl rfl rfl) rfl ?_
   refine mv rfl ?_
   refine RO (Body.neq rfl rfl) ?_
   refine RN ?_
   refine Ap rfl ?_
   refine TK.norm ⟨[(5, vL eF out), (8, vI (chkFl out)), (64, vB (decide ((chkFl out) ≠ 0)))], []⟩ (sb rfl rfl rfl) ?_
   refine TK.condP rfl (fun h5 => ?_) (fun h5 => ?_)
   ·
    refine At rfl ?_
    refine NR ⟨[(8, vI (chkFl out))], []⟩ (sb rfl rfl rfl) rfl ?_
    refine mv rfl ?_
    refine RO (Body.nilS (enc := eF) rfl) ?_
    refine ag rfl ?_
    refine RN ?_
    refine Ap rfl ?_
    refine TK.ret ?_
    refine PK.ret ?_
    refine leaf (val0 := .tup [vL eF [], vI (chkFl out)]) (by kernel_rfl) ?_
    exact tup2 (lsl (by first
          | rw [parF_nil h1]
          | rw [parF_none h1 (par_none hI0.2.2 (by omega) ((cutP_at _ a hI1.1 hI1.2).1 (by omega)))]
          | rw [parF_bad h1 hpe (by assumption)]
          | rw [parF_ok h1 hpe (by assumption)])) (li (by first
          | rw [parF_nil h1]
          | rw [parF_none h1 (par_none hI0.2.2 (by omega) ((cutP_at _ a hI1.1 hI1.2).1 (by omega)))]
          | rw [parF_bad h1 hpe (by assumption)]
          | rw [parF_ok h1 hpe (by assumption)]))
   ·
    refine At rfl ?_
    refine NR ⟨[(5, vL eF out)], []⟩ (sb rfl rfl rfl) rfl ?_
    refine mv rfl ?_
    refine ag rfl ?_
    refine ag rfl ?_
    refine RN ?_
    refine Ap rfl ?_
    refine TK.ret ?_
    refine PK.ret ?_
    refine leaf (val0 := .tup [vL eF out, vI 0]) (by kernel_rfl) ?_
    exact tup2 (lsl (by first
          | rw [parF_nil h1]
          | rw [parF_none h1 (par_none hI0.2.2 (by omega) ((cutP_at _ a hI1.1 hI1.2).1 (by omega)))]
          | rw [parF_bad h1 hpe (by assumption)]
          | rw [parF_ok h1 hpe (by assumption)])) (li (by first
          | rw [parF_nil h1]
          | rw [parF_none h1 (par_none hI0.2.2 (by omega) ((cutP_at _ a hI1.1 hI1.2).1 (by omega)))]
          | rw [parF_bad h1 hpe (by assumption)]
          | rw [parF_ok h1 hpe (by assumption)]))
set_option maxHeartbeats 4000000 in
theorem w122 (b m t : List Fld) (hb : b.length ≤ 1000) (hm : m.length ≤ 1000) (ht : t.length ≤ 1000) : CallOk Tryz.prog 122 [vL eF b, vL eF m, vL eF t] (lookM []) (.tup [vL eF (refM b m t).1, vL eN (refM b m t).2]) [] := by
 haveI := tab_ok
 obtain ⟨fn, f1, f2, f3, f4, _, f6⟩ := qf122
 refine callOk_of (Y := tab) (F := fn122) f1 (f2.trans rfl) f3 f4 f6 (Nat.le_of_ble_eq_true rfl) rfl ?_
 clear f1 f2 f3 f4 f6
 have hal : List.length ((b ++ m) ++ t) = b.length + m.length + t.length := by simp only [List.length_append]
 show TK _ _ _ _ _ _ ⟨[(0, vL eF b), (1, vL eF m), (2, vL eF t)], []⟩
 refine At rfl ?_
 refine NR ⟨[(0, vL eF b), (1, vL eF m), (2, vL eF t)], []⟩ (sb rfl rfl rfl) rfl ?_
 refine RO (Body.nilS (enc := eF) rfl) ?_
 refine RO (Body.nilS (enc := eN) rfl) ?_
 refine RN ?_
 refine Ap rfl ?_
 refine NR ⟨[(0, vL eF b), (1, vL eF m), (2, vL eF t)], []⟩ (sb rfl rfl rfl) rfl ?_
 refine RO (Body.nilS (enc := eN) rfl) ?_
 refine RN ?_
 refine Ap rfl ?_
 refine NR ⟨[(0, vL eF b), (1, vL eF m), (2, vL eF t), (8, vL eN [])], []⟩ (sb rfl rfl rfl) rfl ?_
 refine rn rfl ?_
 refine mv rfl ?_
 refine RO (Body.append (enc := eF) (l := []) (r := b) rfl rfl rfl un60 in175 rfl (fun _ => rfl) by175 (by first | omega | (have hc2 := hc; simp only [beq_iff_eq, decide_eq_true_eq, decide_eq_false_iff_not] at hc2; omega) | (simp only [List.length_append, List.length_cons, List.length_nil, List.length_take, List.length_drop]; omega))) ?_
 refine mv rfl ?_
 refine RO (Body.append rfl rfl rfl un60 in175 rfl (fun _ => rfl) by175 (by first | omega | (have hc2 := hc; simp only [beq_iff_eq, decide_eq_true_eq, decide_eq_false_iff_not] at hc2; omega) | (simp only [List.length_append, List.length_cons, List.length_nil, List.length_take, List.length_drop]; omega))) ?_
 refine mv rfl ?_
 refine RO (Body.append rfl rfl rfl un60 in175 rfl (fun _ => rfl) by175 (by first | omega | (have hc2 := hc; simp only [beq_iff_eq, decide_eq_true_eq, decide_eq_false_iff_not] at hc2; omega) | (simp only [List.length_append, List.length_cons, List.length_nil, List.length_take, List.length_drop]; omega))) ?_
 refine rn rfl ?_
 refine RN ?_
 refine Ap rfl ?_
 refine TK.norm ⟨[(0, vL eF b), (1, vL eF m), (2, vL eF t), (8, vL eN []), (9, .aref 23 (((0 + 1) + 1) + 1))], [(23, .arr (((0 + 1) + 1) + 1) 2 175 (List.map eF ((b ++ m) ++ t)))]⟩ (sb rfl rfl rfl) ?_
 refine TK.frz (t := 9) rfl rfl ?_
 refine NR ⟨[(0, vL eF b), (1, vL eF m), (2, vL eF t), (8, vL eN []), (9, vL eF ((b ++ m) ++ t))], []⟩ (sb rfl rfl rfl) rfl ?_
 refine ag rfl ?_
 refine RN ?_
 refine Ap rfl ?_
 refine TK.loop (α := Nat × List (List UInt8)) (fun x => ⟨[(0, vL eF b), (1, vL eF m), (2, vL eF t), (8, vL eN x.2), (9, vL eF ((b ++ m) ++ t)), (10, vI ((x.1 : Nat) : Int))], []⟩) (fun x => x.1 ≤ List.length ((b ++ m) ++ t) ∧ x.2 = refNm (List.take x.1 ((b ++ m) ++ t))) (fun x => List.length ((b ++ m) ++ t) - x.1) (0, []) ?_ (sb rfl rfl rfl) ?_
 · show 0 ≤ List.length ((b ++ m) ++ t) ∧ [] = refNm (List.take 0 ((b ++ m) ++ t))
   exact ⟨Nat.zero_le _, rfl⟩
 rintro ⟨k, ns⟩ hI0
 replace hI0 : k ≤ List.length ((b ++ m) ++ t) ∧ ns = refNm (List.take k ((b ++ m) ++ t)) := hI0
 show TK _ _ _ _ _ _ ⟨[(0, vL eF b), (1, vL eF m), (2, vL eF t), (8, vL eN ns), (9, vL eF ((b ++ m) ++ t)), (10, vI ((k : Nat) : Int))], []⟩
 refine At rfl ?_
 refine NR ⟨[(0, vL eF b), (1, vL eF m), (2, vL eF t), (8, vL eN ns), (9, vL eF ((b ++ m) ++ t)), (10, vI ((k : Nat) : Int))], []⟩ (sb rfl rfl rfl) rfl ?_
 refine mv rfl ?_
 refine mv rfl ?_
 refine RO (Body.lenL rfl un60) ?_
 refine RO (Body.lss rfl rfl) ?_
 refine RN ?_
 refine Ap rfl ?_
 refine TK.norm ⟨[(0, vL eF b), (1, vL eF m), (2, vL eF t), (8, vL eN ns), (9, vL eF ((b ++ m) ++ t)), (10, vI ((k : Nat) : Int)), (32, vB (decide (((k : Nat) : Int) < ((List.length ((b ++ m) ++ t) : Nat) : Int))))], []⟩ (sb rfl rfl rfl) ?_
 refine TK.condP rfl (fun h1 => ?_) (fun h1 => ?_)
 ·
  refine At rfl ?_
  refine TK.norm ⟨[(0, vL eF b), (1, vL eF m), (2, vL eF t), (8, vL eN ns), (9, vL eF ((b ++ m) ++ t)), (10, vI ((k : Nat) : Int))], []⟩ (sb rfl rfl rfl) ?_
  have hnl : List.length ns ≤ k := by rw [hI0.2]; exact nmK_len _ k (by omega)
  refine TK.rg (Y := tab) mixed rfl ?_
  refine mv rfl ?_
  refine mv rfl ?_
  refine mv rfl ?_
  refine RO (Body.idx (z := ([], [])) (i := k) rfl rfl un60 sz175 (fun _ => rfl) rfl (by first | omega | (have hc2 := hc; simp only [beq_iff_eq, decide_eq_true_eq, decide_eq_false_iff_not] at hc2; omega) | (simp only [List.length_append, List.length_cons, List.length_nil, List.length_take, List.length_drop]; omega))) ?_
  refine RO (Body.fadP rfl fa175_0 rfl) ?_
  refine RO (Body.loadP rfl ag9 sz9) ?_
  refine RO (Body.call (w178 ns (Prod.fst (List.getD ((b ++ m) ++ t) k ([], []))) (by first | omega | exact Nat.le_of_ble_eq_true rfl | (simp only [List.length_append, List.length_cons, List.length_nil, List.length_take, List.length_drop]; omega))) rfl rfl rfl) ?_
  refine ag rfl ?_
  refine RN ?_
  refine Ap rfl ?_
  refine NR ⟨[(0, vL eF b), (1, vL eF m), (2, vL eF t), (8, vL eN (insS (Prod.fst (List.getD ((b ++ m) ++ t) k ([], []))) ns)), (9, vL eF ((b ++ m) ++ t)), (10, vI ((k : Nat) : Int))], []⟩ (sb rfl rfl rfl) rfl ?_
  refine mv rfl ?_
  refine RO (Body.add rfl rfl (by unfold R64; omega)) ?_
  refine ag rfl ?_
  refine RN ?_
  refine Aq rfl ?_
  refine PK.lp ?_
  refine LP.mk ((k + 1), (insS (Prod.fst (List.getD ((b ++ m) ++ t) k ([], []))) ns)) ?_ ?_ (sb rfl rfl rfl)
  · show (k + 1) ≤ List.length ((b ++ m) ++ t) ∧ (insS (Prod.fst (List.getD ((b ++ m) ++ t) k ([], []))) ns) = refNm (List.take (k + 1) ((b ++ m) ++ t))
    refine ⟨by omega, ?_⟩; rw [nmK_step _ k (by omega), ← hI0.2]
  · show List.length ((b ++ m) ++ t) - (k + 1) < List.length ((b ++ m) ++ t) - k
    omega
 ·
  refine At rfl ?_
  refine TK.exit ?_
  refine PK.exit rfl ?_
  refine Ap rfl ?_
  refine TK.norm ⟨[(0, vL eF b), (1, vL eF m), (2, vL eF t), (8, vL eN ns)], []⟩ (sb rfl rfl rfl) ?_
  have hns : ns = refNm ((b ++ m) ++ t) := by rw [hI0.2, List.take_of_length_le (by omega)]
  have hnl : List.length ns ≤ k := by rw [hI0.2]; exact nmK_len _ k (by omega)
  refine TK.rg (Y := tab) mixed rfl ?_
  refine RO (Body.adopt 12 2 175 rfl rfl) ?_
  refine RN ?_
  refine Ap rfl ?_
  refine NR ⟨[(0, vL eF b), (1, vL eF m), (2, vL eF t), (8, vL eN ns), (11, .aref 12 0)], [(12, .arr 0 2 175 (List.map eF []))]⟩ (sb rfl rfl rfl) rfl ?_
  refine RO (Body.adopt 13 1 9 rfl rfl) ?_
  refine RN ?_
  refine Ap rfl ?_
  refine NR ⟨[(0, vL eF b), (1, vL eF m), (2, vL eF t), (8, vL eN ns), (11, .aref 12 0), (12, .aref 13 0)], [(12, .arr 0 2 175 (List.map eF [])), (13, .arr 0 1 9 (List.map eN []))]⟩ (sb rfl rfl rfl) rfl ?_
  refine ag rfl ?_
  refine RN ?_
  refine Ap rfl ?_
  refine TK.loop (α := Nat × Nat × List Fld × Nat × List (List UInt8)) (fun x => ⟨[(0, vL eF b), (1, vL eF m), (2, vL eF t), (8, vL eN ns), (11, .aref 12 x.2.1), (12, .aref 13 x.2.2.2.1), (13, vI ((x.1 : Nat) : Int))], [(12, .arr x.2.1 2 175 (List.map eF x.2.2.1)), (13, .arr x.2.2.2.1 1 9 (List.map eN x.2.2.2.2))]⟩) (fun x => x.1 ≤ List.length ns ∧ List.length x.2.2.1 ≤ x.1 ∧ List.length x.2.2.2.2 ≤ x.1 ∧ rmGo b m t ns = (x.2.2.1 ++ (rmGo b m t (List.drop x.1 ns)).1, x.2.2.2.2 ++ (rmGo b m t (List.drop x.1 ns)).2)) (fun x => List.length ns - x.1) (0, 0, [], 0, []) ?_ (sb rfl rfl rfl) ?_
  · show 0 ≤ List.length ns ∧ List.length [] ≤ 0 ∧ List.length [] ≤ 0 ∧ rmGo b m t ns = ([] ++ (rmGo b m t (List.drop 0 ns)).1, [] ++ (rmGo b m t (List.drop 0 ns)).2)
    exact ⟨Nat.zero_le _, Nat.le_refl _, Nat.le_refl _, rfl⟩
  rintro ⟨j, vo, out, vc, con⟩ hI1
  replace hI1 : j ≤ List.length ns ∧ List.length out ≤ j ∧ List.length con ≤ j ∧ rmGo b m t ns = (out ++ (rmGo b m t (List.drop j ns)).1, con ++ (rmGo b m t (List.drop j ns)).2) := hI1
  show TK _ _ _ _ _ _ ⟨[(0, vL eF b), (1, vL eF m), (2, vL eF t), (8, vL eN ns), (11, .aref 12 vo), (12, .aref 13 vc), (13, vI ((j : Nat) : Int))], [(12, .arr vo 2 175 (List.map eF out)), (13, .arr vc 1 9 (List.map eN con))]⟩
  refine At rfl ?_
  refine NR ⟨[(0, vL eF b), (1, vL eF m), (2, vL eF t), (8, vL eN ns), (11, .aref 12 vo), (12, .aref 13 vc), (13, vI ((j : Nat) : Int))], [(12, .arr vo 2 175 (List.map eF out)), (13, .arr vc 1 9 (List.map eN con))]⟩ (sb rfl rfl rfl) rfl ?_
  refine mv rfl ?_
  refine mv rfl ?_
  refine RO (Body.lenL rfl un73) ?_
  refine RO (Body.lss rfl rfl) ?_
  refine RN ?_
  refine Ap rfl ?_
  refine TK.norm ⟨[(0, vL eF b), (1, vL eF m), (2, vL eF t), (8, vL eN ns), (11, .aref 12 vo), (12, .aref 13 vc), (13, vI ((j : Nat) : Int)), (45, vB (decide (((j : Nat) : Int) < ((List.length ns : Nat) : Int))))], [(12, .arr vo 2 175 (List.map eF out)), (13, .arr vc 1 9 (List.map eN con))]⟩ (sb rfl rfl rfl) ?_
  refine TK.condP rfl (fun h2 => ?_) (fun h2 => ?_)
  ·
   refine At rfl ?_
   refine NR ⟨[(0, vL eF b), (1, vL eF m), (2, vL eF t), (8, vL eN ns), (11, .aref 12 vo), (12, .aref 13 vc), (13, vI ((j : Nat) : Int))], [(12, .arr vo 2 175 (List.map eF out)), (13, .arr vc 1 9 (List.map eN con))]⟩ (sb rfl rfl rfl) rfl ?_
   refine mv rfl ?_
   refine mv rfl ?_
   refine mv rfl ?_
   refine RO (Body.idx (z := []) (i := j) rfl rfl un73 sz9 (fun _ => rfl) rfl (by first | omega | (have hc2 := hc; simp only [beq_iff_eq, decide_eq_true_eq, decide_eq_false_iff_not] at hc2; omega) | (simp only [List.length_append, List.length_cons, List.length_nil, List.length_take, List.length_drop]; omega))) ?_
   refine RO (Body.loadP rfl ag9 sz9) ?_
   refine RO (Body.call (w53 b (List.getD ns j []) (by first | omega | exact Nat.le_of_ble_eq_true rfl | (simp only [List.length_append, List.length_cons, List.length_nil, List.length_take, List.length_drop]; omega))) rfl rfl rfl) ?_
   refine rn rfl ?_
   refine rn rfl ?_
   refine rn rfl ?_
   refine ag rfl ?_
   refine ag rfl ?_
   refine RN ?_
   refine Ap rfl ?_
   refine NR ⟨[(0, vL eF b), (1, vL eF m), (2, vL eF t), (8, vL eN ns), (11, .aref 12 vo), (12, .aref 13 vc), (13, vI ((j : Nat) : Int)), (14, vS (bsO (Option.getD (getF (List.getD ns j []) b) []))), (15, vB (Option.isSome (getF (List.getD ns j []) b)))], [(12, .arr vo 2 175 (List.map eF out)), (13, .arr vc 1 9 (List.map eN con))]⟩ (sb rfl rfl rfl) rfl ?_
   refine mv rfl ?_
   refine mv rfl ?_
   refine mv rfl ?_
   refine RO (Body.idx (z := []) (i := j) rfl rfl un73 sz9 (fun _ => rfl) rfl (by first | omega | (have hc2 := hc; simp only [beq_iff_eq, decide_eq_true_eq, decide_eq_false_iff_not] at hc2; omega) | (simp only [List.length_append, List.length_cons, List.length_nil, List.length_take, List.length_drop]; omega))) ?_
   refine RO (Body.loadP rfl ag9 sz9) ?_
   refine RO (Body.call (w53 m (List.getD ns j []) (by first | omega | exact Nat.le_of_ble_eq_true rfl | (simp only [List.length_append, List.length_cons, List.length_nil, List.length_take, List.length_drop]; omega))) rfl rfl rfl) ?_
   refine rn rfl ?_
   refine rn rfl ?_
   refine rn rfl ?_
   refine ag rfl ?_
   refine ag rfl ?_
   refine RN ?_
   refine Ap rfl ?_
   refine NR ⟨[(0, vL eF b), (1, vL eF m), (2, vL eF t), (8, vL eN ns), (11, .aref 12 vo), (12, .aref 13 vc), (13, vI ((j : Nat) : Int)), (14, vS (bsO (Option.getD (getF (List.getD ns j []) b) []))), (15, vB (Option.isSome (getF (List.getD ns j []) b))), (16, vS (bsO (Option.getD (getF (List.getD ns j []) m) []))), (17, vB (Option.isSome (getF (List.getD ns j []) m)))], [(12, .arr vo 2 175 (List.map eF out)), (13, .arr vc 1 9 (List.map eN con))]⟩ (sb rfl rfl rfl) rfl ?_
   refine mv rfl ?_
   refine mv rfl ?_
   refine mv rfl ?_
   refine RO (Body.idx (z := []) (i := j) rfl rfl un73 sz9 (fun _ => rfl) rfl (by first | omega | (have hc2 := hc; simp only [beq_iff_eq, decide_eq_true_eq, decide_eq_false_iff_not] at hc2; omega) | (simp only [List.length_append, List.length_cons, List.length_nil, List.length_take, List.length_drop]; omega))) ?_
   refine RO (Body.loadP rfl ag9 sz9) ?_
   refine RO (Body.call (w53 t (List.getD ns j []) (by first | omega | exact Nat.le_of_ble_eq_true rfl | (simp only [List.length_append, List.length_cons, List.length_nil, List.length_take, List.length_drop]; omega))) rfl rfl rfl) ?_
   refine rn rfl ?_
   refine rn rfl ?_
   refine rn rfl ?_
   refine ag rfl ?_
   refine ag rfl ?_
   refine RN ?_
   refine Ap rfl ?_
   refine NR ⟨[(0, vL eF b), (1, vL eF m), (2, vL eF t), (8, vL eN ns), (11, .aref 12 vo), (12, .aref 13 vc), (13, vI ((j : Nat) : Int)), (14, vS (bsO (Option.getD (getF (List.getD ns j []) b) []))), (15, vB (Option.isSome (getF (List.getD ns j []) b))), (16, vS (bsO (Option.getD (getF (List.getD ns j []) m) []))), (17, vB (Option.isSome (getF (List.getD ns j []) m))), (18, vS (bsO (Option.getD (getF (List.getD ns j []) t) []))), (19, vB (Option.isSome (getF (List.getD ns j []) t)))], [(12, .arr vo 2 175 (List.map eF out)), (13, .arr vc 1 9 (List.map eN con))]⟩ (sb rfl rfl rfl) rfl ?_
   refine mv rfl ?_
   refine mv rfl ?_
   refine ag rfl ?_
   refine ag rfl ?_
   refine RN ?_
   refine Ap rfl ?_
   refine NR ⟨[(0, vL eF b), (1, vL eF m), (2, vL eF t), (8, vL eN ns), (11, .aref 12 vo), (12, .aref 13 vc), (13, vI ((j : Nat) : Int)), (14, vS (bsO (Option.getD (getF (List.getD ns j []) b) []))), (15, vB (Option.isSome (getF (List.getD ns j []) b))), (16, vS (bsO (Option.getD (getF (List.getD ns j []) m) []))), (17, vB (Option.isSome (getF (List.getD ns j []) m))), (18, vS (bsO (Option.getD (getF (List.getD ns j []) t) []))), (19, vB (Option.isSome (getF (List.getD ns j []) t))), (20, vS (bsO (Option.getD (getF (List.getD ns j []) m) []))), (21, vB (Option.isSome (getF (List.getD ns j []) m)))], [(12, .arr vo 2 175 (List.map eF out)), (13, .arr vc 1 9 (List.map eN con))]⟩ (sb rfl rfl rfl) rfl ?_
   refine mv rfl ?_
   refine mv rfl ?_
   refine RO (Body.seqB (a := (Option.getD (getF (List.getD ns j []) m) [])) (b := (Option.getD (getF (List.getD ns j []) t) [])) rfl rfl) ?_
   refine mv rfl ?_
   refine RG.cons (EfR.sym rfl (fun hc => Body.move rfl) rfl) ?_
   refine RG.cons (EfR.sym rfl (fun hc => Body.move rfl) rfl) ?_
   refine RG.cons (EfR.sym rfl (fun hc => Body.bqB (ev1_gd rfl hc) (ev1_gd rfl hc) un4) rfl) ?_
   refine RO (Body.pick rfl rfl rfl (gdB rfl) rfl (pick_and _)) ?_
   refine ag rfl ?_
   refine RN ?_
   refine Ap rfl ?_
   refine TK.norm ⟨[(0, vL eF b), (1, vL eF m), (2, vL eF t), (8, vL eN ns), (11, .aref 12 vo), (12, .aref 13 vc), (13, vI ((j : Nat) : Int)), (14, vS (bsO (Option.getD (getF (List.getD ns j []) b) []))), (15, vB (Option.isSome (getF (List.getD ns j []) b))), (16, vS (bsO (Option.getD (getF (List.getD ns j []) m) []))), (17, vB (Option.isSome (getF (List.getD ns j []) m))), (18, vS (bsO (Option.getD (getF (List.getD ns j []) t) []))), (19, vB (Option.isSome (getF (List.getD ns j []) t))), (20, vS (bsO (Option.getD (getF (List.getD ns j []) m) []))), (21, vB (Option.isSome (getF (List.getD ns j []) m))), (84, vB (bif (decide ((Option.getD (getF (List.getD ns j []) m) []) = (Option.getD (getF (List.getD ns j []) t) []))) then ((Option.isSome (getF (List.getD ns j []) m)) == (Option.isSome (getF (List.getD ns j []) t))) else false))], [(12, .arr vo 2 175 (List.map eF out)), (13, .arr vc 1 9 (List.map eN con))]⟩ (sb rfl rfl rfl) ?_
   refine TK.cond rfl (fun h3 => ?_) (fun h3 => ?_)
   ·
    refine At rfl ?_
    refine NR ⟨[(0, vL eF b), (1, vL eF m), (2, vL eF t), (8, vL eN ns), (11, .aref 12 vo), (12, .aref 13 vc), (13, vI ((j : Nat) : Int)), (20, vS (bsO (Option.getD (getF (List.getD ns j []) m) []))), (21, vB (Option.isSome (getF (List.getD ns j []) m)))], [(12, .arr vo 2 175 (List.map eF out)), (13, .arr vc 1 9 (List.map eN con))]⟩ (sb rfl rfl rfl) rfl ?_
    refine mv rfl ?_
    refine RN ?_
    refine Ap rfl ?_
    refine TK.norm ⟨[(0, vL eF b), (1, vL eF m), (2, vL eF t), (8, vL eN ns), (11, .aref 12 vo), (12, .aref 13 vc), (13, vI ((j : Nat) : Int)), (20, vS (bsO (Option.getD (getF (List.getD ns j []) m) []))), (113, vB (Option.isSome (getF (List.getD ns j []) m)))], [(12, .arr vo 2 175 (List.map eF out)), (13, .arr vc 1 9 (List.map eN con))]⟩ (sb rfl rfl rfl) ?_
    refine TK.cond rfl (fun h4 => ?_) (fun h4 => ?_)
    ·
     refine At rfl ?_
     refine NR ⟨[(0, vL eF b), (1, vL eF m), (2, vL eF t), (8, vL eN ns), (11, .aref 12 vo), (12, .aref 13 vc), (13, vI ((j : Nat) : Int)), (20, vS (bsO (Option.getD (getF (List.getD ns j []) m) [])))], [(12, .arr vo 2 175 (List.map eF out)), (13, .arr vc 1 9 (List.map eN con))]⟩ (sb rfl rfl rfl) rfl ?_
     refine rn rfl ?_
     refine mv rfl ?_
     refine mv rfl ?_
     refine RO (Body.idx (z := []) (i := j) rfl rfl un73 sz9 (fun _ => rfl) rfl (by first | omega | (have hc2 := hc; simp only [beq_iff_eq, decide_eq_true_eq, decide_eq_false_iff_not] at hc2; omega) | (simp only [List.length_append, List.length_cons, List.length_nil, List.length_take, List.length_drop]; omega))) ?_
     refine RO (Body.loadP rfl ag9 sz9) ?_
     refine mv rfl ?_
     refine rn rfl ?_
     refine RO (Body.runZ (val := .pv (.slice (List.map eF [((List.getD ns j []), (Option.getD (getF (List.getD ns j []) m) []))]))) rfl (fun l => Frz.arr l _ _ _ _ _) rfl) ?_
     refine RO (Body.append rfl rfl rfl un60 in175 rfl (fun _ => rfl) by175 (by first | omega | (have hc2 := hc; simp only [beq_iff_eq, decide_eq_true_eq, decide_eq_false_iff_not] at hc2; omega) | (simp only [List.length_append, List.length_cons, List.length_nil, List.length_take, List.length_drop]; omega))) ?_
     refine rn rfl ?_
     refine RN ?_
     refine Ap rfl ?_
     refine NR ⟨[(0, vL eF b), (1, vL eF m), (2, vL eF t), (8, vL eN ns), (11, .aref 12 (vo + 1)), (12, .aref 13 vc), (13, vI ((j : Nat) : Int))], [(12, .arr (vo + 1) 2 175 (List.map eF (out ++ [((List.getD ns j []), (Option.getD (getF (List.getD ns j []) m) []))]))), (13, .arr vc 1 9 (List.map eN con))]⟩ (sb rfl rfl rfl) rfl ?_
     refine mv rfl ?_
     refine RO (Body.add rfl rfl (by unfold R64; omega)) ?_
     refine ag rfl ?_
     refine RN ?_
     refine Aq rfl ?_
     refine PK.lp ?_
     refine LP.mk ((j + 1), (vo + 1), (out ++ [((List.getD ns j []), (Option.getD (getF (List.getD ns j []) m) []))]), vc, con) ?_ ?_ (sb rfl rfl rfl)
     · show (j + 1) ≤ List.length ns ∧ List.length (out ++ [((List.getD ns j []), (Option.getD (getF (List.getD ns j []) m) []))]) ≤ (j + 1) ∧ List.length con ≤ (j + 1) ∧ rmGo b m t ns = ((out ++ [((List.getD ns j []), (Option.getD (getF (List.getD ns j []) m) []))]) ++ (rmGo b m t (List.drop (j + 1) ns)).1, con ++ (rmGo b m t (List.drop (j + 1) ns)).2)
       refine ⟨by omega, by first | omega | (simp only [List.length_append, List.length_cons, List.length_nil]; omega), by first | omega | (simp only [List.length_append, List.length_cons, List.length_nil]; omega), ?_⟩; rw [hI1.2.2.2, drop_at ns j [] (by omega), rmGo]; clear hI1 hI0 hns hal; simp_all [pairEq, bif_and]
     · show List.length ns - (j + 1) < List.length ns - j
       omega
    ·
     refine At rfl ?_
     refine NR ⟨[(0, vL eF b), (1, vL eF m), (2, vL eF t), (8, vL eN ns), (11, .aref 12 vo), (12, .aref 13 vc), (13, vI ((j : Nat) : Int))], [(12, .arr vo 2 175 (List.map eF out)), (13, .arr vc 1 9 (List.map eN con))]⟩ (sb rfl rfl rfl) rfl ?_
     refine mv rfl ?_
     refine RO (Body.add rfl rfl (by unfold R64; omega)) ?_
     refine ag rfl ?_
     refine RN ?_
     refine Aq rfl ?_
     refine PK.lp ?_
     refine LP.mk ((j + 1), vo, out, vc, con) ?_ ?_ (sb rfl rfl rfl)
     · show (j + 1) ≤ List.length ns ∧ List.length out ≤ (j + 1) ∧ List.length con ≤ (j + 1) ∧ rmGo b m t ns = (out ++ (rmGo b m t (List.drop (j + 1) ns)).1, con ++ (rmGo b m t (List.drop (j + 1) ns)).2)
       refine ⟨by omega, by first | omega | (simp only [List.length_append, List.length_cons, List.length_nil]; omega), by first | omega | (simp only [List.length_append, List.length_cons, List.length_nil]; omega), ?_⟩; rw [hI1.2.2.2, drop_at ns j [] (by omega), rmGo]; clear hI1 hI0 hns hal; simp_all [pairEq, bif_and]
     · show List.length ns - (j + 1) < List.length ns - j
       omega
   ·
    refine At rfl ?_
    refine NR ⟨[(0, vL eF b), (1, vL eF m), (2, vL eF t), (8, vL eN ns), (11, .aref 12 vo), (12, .aref 13 vc), (13, vI ((j : Nat) : Int)), (14, vS (bsO (Option.getD (getF (List.getD ns j []) b) []))), (15, vB (Option.isSome (getF (List.getD ns j []) b))), (16, vS (bsO (Option.getD (getF (List.getD ns j []) m) []))), (17, vB (Option.isSome (getF (List.getD ns j []) m))), (18, vS (bsO (Option.getD (getF (List.getD ns j []) t) []))), (19, vB (Option.isSome (getF (List.getD ns j []) t))), (20, vS (bsO (Option.getD (getF (List.getD ns j []) m) []))), (21, vB (Option.isSome (getF (List.getD ns j []) m)))], [(12, .arr vo 2 175 (List.map eF out)), (13, .arr vc 1 9 (List.map eN con))]⟩ (sb rfl rfl rfl) rfl ?_
    refine mv rfl ?_
    refine mv rfl ?_
    refine RO (Body.seqB (a := (Option.getD (getF (List.getD ns j []) m) [])) (b := (Option.getD (getF (List.getD ns j []) b) [])) rfl rfl) ?_
    refine mv rfl ?_
    refine RG.cons (EfR.sym rfl (fun hc => Body.move rfl) rfl) ?_
    refine RG.cons (EfR.sym rfl (fun hc => Body.move rfl) rfl) ?_
    refine RG.cons (EfR.sym rfl (fun hc => Body.bqB (ev1_gd rfl hc) (ev1_gd rfl hc) un4) rfl) ?_
    refine RO (Body.pick rfl rfl rfl (gdB rfl) rfl (pick_and _)) ?_
    refine ag rfl ?_
    refine RN ?_
    refine Ap rfl ?_
    refine TK.norm ⟨[(0, vL eF b), (1, vL eF m), (2, vL eF t), (8, vL eN ns), (11, .aref 12 vo), (12, .aref 13 vc), (13, vI ((j : Nat) : Int)), (14, vS (bsO (Option.getD (getF (List.getD ns j []) b) []))), (15, vB (Option.isSome (getF (List.getD ns j []) b))), (18, vS (bsO (Option.getD (getF (List.getD ns j []) t) []))), (19, vB (Option.isSome (getF (List.getD ns j []) t))), (20, vS (bsO (Option.getD (getF (List.getD ns j []) m) []))), (21, vB (Option.isSome (getF (List.getD ns j []) m))), (93, vB (bif (decide ((Option.getD (getF (List.getD ns j []) m) []) = (Option.getD (getF (List.getD ns j []) b) []))) then ((Option.isSome (getF (List.getD ns j []) m)) == (Option.isSome (getF (List.getD ns j []) b))) else false))], [(12, .arr vo 2 175 (List.map eF out)), (13, .arr vc 1 9 (List.map eN con))]⟩ (sb rfl rfl rfl) ?_
    refine TK.cond rfl (fun h5 => ?_) (fun h5 => ?_)
    ·
     refine At rfl ?_
     refine NR ⟨[(0, vL eF b), (1, vL eF m), (2, vL eF t), (8, vL eN ns), (11, .aref 12 vo), (12, .aref 13 vc), (13, vI ((j : Nat) : Int)), (18, vS (bsO (Option.getD (getF (List.getD ns j []) t) []))), (19, vB (Option.isSome (getF (List.getD ns j []) t)))], [(12, .arr vo 2 175 (List.map eF out)), (13, .arr vc 1 9 (List.map eN con))]⟩ (sb rfl rfl rfl) rfl ?_
     refine mv rfl ?_
     refine mv rfl ?_
     refine ag rfl ?_
     refine ag rfl ?_
     refine RN ?_
     refine Ap rfl ?_
     refine NR ⟨[(0, vL eF b), (1, vL eF m), (2, vL eF t), (8, vL eN ns), (11, .aref 12 vo), (12, .aref 13 vc), (13, vI ((j : Nat) : Int)), (20, vS (bsO (Option.getD (getF (List.getD ns j []) t) []))), (21, vB (Option.isSome (getF (List.getD ns j []) t)))], [(12, .arr vo 2 175 (List.map eF out)), (13, .arr vc 1 9 (List.map eN con))]⟩ (sb rfl rfl rfl) rfl ?_
     refine mv rfl ?_
     refine RN ?_
     refine Ap rfl ?_
     refine TK.norm ⟨[(0, vL eF b), (1, vL eF m), (2, vL eF t), (8, vL eN ns), (11, .aref 12 vo), (12, .aref 13 vc), (13, vI ((j : Nat) : Int)), (20, vS (bsO (Option.getD (getF (List.getD ns j []) t) []))), (113, vB (Option.isSome (getF (List.getD ns j []) t)))], [(12, .arr vo 2 175 (List.map eF out)), (13, .arr vc 1 9 (List.map eN con))]⟩ (sb rfl rfl rfl) ?_
     refine TK.cond rfl (fun h6 => ?_) (fun h6 => ?_)
     ·
      refine At rfl ?_
      refine NR ⟨[(0, vL eF b), (1, vL eF m), (2, vL eF t), (8, vL eN ns), (11, .aref 12 vo), (12, .aref 13 vc), (13, vI ((j : Nat) : Int)), (20, vS (bsO (Option.getD (getF (List.getD ns j []) t) [])))], [(12, .arr vo 2 175 (List.map eF out)), (13, .arr vc 1 9 (List.map eN con))]⟩ (sb rfl rfl rfl) rfl ?_
      refine rn rfl ?_
      refine mv rfl ?_
      refine mv rfl ?_
      refine RO (Body.idx (z := []) (i := j) rfl rfl un73 sz9 (fun _ => rfl) rfl (by first | omega | (have hc2 := hc; simp only [beq_iff_eq, decide_eq_true_eq, decide_eq_false_iff_not] at hc2; omega) | (simp only [List.length_append, List.length_cons, List.length_nil, List.length_take, List.length_drop]; omega))) ?_
      refine RO (Body.loadP rfl ag9 sz9) ?_
      refine mv rfl ?_
      refine rn rfl ?_
      refine RO (Body.runZ (val := .pv (.slice (List.map eF [((List.getD ns j []), (Option.getD (getF (List.getD ns j []) t) []))]))) rfl (fun l => Frz.arr l _ _ _ _ _) rfl) ?_
      refine RO (Body.append rfl rfl rfl un60 in175 rfl (fun _ => rfl) by175 (by first | omega | (have hc2 := hc; simp only [beq_iff_eq, decide_eq_true_eq, decide_eq_false_iff_not] at hc2; omega) | (simp only [List.length_append, List.length_cons, List.length_nil, List.length_take, List.length_drop]; omega))) ?_
      refine rn rfl ?_
      refine RN ?_
      refine Ap rfl ?_
      refine NR ⟨[(0, vL eF b), (1, vL eF m), (2, vL eF t), (8, vL eN ns), (11, .aref 12 (vo + 1)), (12, .aref 13 vc), (13, vI ((j : Nat) : Int))], [(12, .arr (vo + 1) 2 175 (List.map eF (out ++ [((List.getD ns j []), (Option.getD (getF (List.getD ns j []) t) []))]))), (13, .arr vc 1 9 (List.map eN con))]⟩ (sb rfl rfl rfl) rfl ?_
      refine mv rfl ?_
      refine RO (Body.add rfl rfl (by unfold R64; omega)) ?_
      refine ag rfl ?_
      refine RN ?_
      refine Aq rfl ?_
      refine PK.lp ?_
      refine LP.mk ((j + 1), (vo + 1), (out ++ [((List.getD ns j []), (Option.getD (getF (List.getD ns j []) t) []))]), vc, con) ?_ ?_ (sb rfl rfl rfl)
      · show (j + 1) ≤ List.length ns ∧ List.length (out ++ [((List.getD ns j []), (Option.getD (getF (List.getD ns j []) t) []))]) ≤ (j + 1) ∧ List.length con ≤ (j + 1) ∧ rmGo b m t ns = ((out ++ [((List.getD ns j []), (Option.getD (getF (List.getD ns j []) t) []))]) ++ (rmGo b m t (List.drop (j + 1) ns)).1, con ++ (rmGo b m t (List.drop (j + 1) ns)).2)
        refine ⟨by omega, by first | omega | (simp only [List.length_append, List.length_cons, List.length_nil]; omega), by first | omega | (simp only [List.length_append, List.length_cons, List.length_nil]; omega), ?_⟩; rw [hI1.2.2.2, drop_at ns j [] (by omega), rmGo]; clear hI1 hI0 hns hal; simp_all [pairEq, bif_and]
      · show List.length ns - (j + 1) < List.length ns - j
        omega
     ·
      refine At rfl ?_
      refine NR ⟨[(0, vL eF b), (1, vL eF m), (2, vL eF t), (8, vL eN ns), (11, .aref 12 vo), (12, .aref 13 vc), (13, vI ((j : Nat) : Int))], [(12, .arr vo 2 175 (List.map eF out)), (13, .arr vc 1 9 (List.map eN con))]⟩ (sb rfl rfl rfl) rfl ?_
      refine mv rfl ?_
      refine RO (Body.add rfl rfl (by unfold R64; omega)) ?_
      refine ag rfl ?_
      refine RN ?_
      refine Aq rfl ?_
      refine PK.lp ?_
      refine LP.mk ((j + 1), vo, out, vc, con) ?_ ?_ (sb rfl rfl rfl)
      · show (j + 1) ≤ List.length ns ∧ List.length out ≤ (j + 1) ∧ List.length con ≤ (j + 1) ∧ rmGo b m t ns = (out ++ (rmGo b m t (List.drop (j + 1) ns)).1, con ++ (rmGo b m t (List.drop (j + 1) ns)).2)
        refine ⟨by omega, by first | omega | (simp only [List.length_append, List.length_cons, List.length_nil]; omega), by first | omega | (simp only [List.length_append, List.length_cons, List.length_nil]; omega), ?_⟩; rw [hI1.2.2.2, drop_at ns j [] (by omega), rmGo]; clear hI1 hI0 hns hal; simp_all [pairEq, bif_and]
      · show List.length ns - (j + 1) < List.length ns - j
        omega
    ·
     refine At rfl ?_
     refine NR ⟨[(0, vL eF b), (1, vL eF m), (2, vL eF t), (8, vL eN ns), (11, .aref 12 vo), (12, .aref 13 vc), (13, vI ((j : Nat) : Int)), (14, vS (bsO (Option.getD (getF (List.getD ns j []) b) []))), (15, vB (Option.isSome (getF (List.getD ns j []) b))), (18, vS (bsO (Option.getD (getF (List.getD ns j []) t) []))), (19, vB (Option.isSome (getF (List.getD ns j []) t))), (20, vS (bsO (Option.getD (getF (List.getD ns j []) m) []))), (21, vB (Option.isSome (getF (List.getD ns j []) m)))], [(12, .arr vo 2 175 (List.map eF out)), (13, .arr vc 1 9 (List.map eN con))]⟩ (sb rfl rfl rfl) rfl ?_
     refine mv rfl ?_
     refine mv rfl ?_
     refine RO (Body.seqB (a := (Option.getD (getF (List.getD ns j []) t) [])) (b := (Option.getD (getF (List.getD ns j []) b) [])) rfl rfl) ?_
     refine mv rfl ?_
     refine RG.cons (EfR.sym rfl (fun hc => Body.move rfl) rfl) ?_
     refine RG.cons (EfR.sym rfl (fun hc => Body.move rfl) rfl) ?_
     refine RG.cons (EfR.sym rfl (fun hc => Body.bqB (ev1_gd rfl hc) (ev1_gd rfl hc) un4) rfl) ?_
     refine RO (Body.pick rfl rfl rfl (gdB rfl) rfl (pick_and _)) ?_
     refine ag rfl ?_
     refine RN ?_
     refine Ap rfl ?_
     refine TK.norm ⟨[(0, vL eF b), (1, vL eF m), (2, vL eF t), (8, vL eN ns), (11, .aref 12 vo), (12, .aref 13 vc), (13, vI ((j : Nat) : Int)), (20, vS (bsO (Option.getD (getF (List.getD ns j []) m) []))), (21, vB (Option.isSome (getF (List.getD ns j []) m))), (104, vB (bif (decide ((Option.getD (getF (List.getD ns j []) t) []) = (Option.getD (getF (List.getD ns j []) b) []))) then ((Option.isSome (getF (List.getD ns j []) t)) == (Option.isSome (getF (List.getD ns j []) b))) else false))], [(12, .arr vo 2 175 (List.map eF out)), (13, .arr vc 1 9 (List.map eN con))]⟩ (sb rfl rfl rfl) ?_
     refine TK.cond rfl (fun h7 => ?_) (fun h7 => ?_)
     ·
      refine At rfl ?_
      refine NR ⟨[(0, vL eF b), (1, vL eF m), (2, vL eF t), (8, vL eN ns), (11, .aref 12 vo), (12, .aref 13 vc), (13, vI ((j : Nat) : Int)), (20, vS (bsO (Option.getD (getF (List.getD ns j []) m) []))), (21, vB (Option.isSome (getF (List.getD ns j []) m)))], [(12, .arr vo 2 175 (List.map eF out)), (13, .arr vc 1 9 (List.map eN con))]⟩ (sb rfl rfl rfl) rfl ?_
      refine mv rfl ?_
      refine RN ?_
      refine Ap rfl ?_
      refine TK.norm ⟨[(0, vL eF b), (1, vL eF m), (2, vL eF t), (8, vL eN ns), (11, .aref 12 vo), (12, .aref 13 vc), (13, vI ((j : Nat) : Int)), (20, vS (bsO (Option.getD (getF (List.getD ns j []) m) []))), (113, vB (Option.isSome (getF (List.getD ns j []) m)))], [(12, .arr vo 2 175 (List.map eF out)), (13, .arr vc 1 9 (List.map eN con))]⟩ (sb rfl rfl rfl) ?_
      refine TK.cond rfl (fun h8 => ?_) (fun h8 => ?_)
      ·
       refine At rfl ?_
       refine NR ⟨[(0, vL eF b), (1, vL eF m), (2, vL eF t), (8, vL eN ns), (11, .aref 12 vo), (12, .aref 13 vc), (13, vI ((j : Nat) : Int)), (20, vS (bsO (Option.getD (getF (List.getD ns j []) m) [])))], [(12, .arr vo 2 175 (List.map eF out)), (13, .arr vc 1 9 (List.map eN con))]⟩ (sb rfl rfl rfl) rfl ?_
       refine rn rfl ?_
       refine mv rfl ?_
       refine mv rfl ?_
       refine RO (Body.idx (z := []) (i := j) rfl rfl un73 sz9 (fun _ => rfl) rfl (by first | omega | (have hc2 := hc; simp only [beq_iff_eq, decide_eq_true_eq, decide_eq_false_iff_not] at hc2; omega) | (simp only [List.length_append, List.length_cons, List.length_nil, List.length_take, List.length_drop]; omega))) ?_
       refine RO (Body.loadP rfl ag9 sz9) ?_
       refine mv rfl ?_
       refine rn rfl ?_
       refine RO (Body.runZ (val := .pv (.slice (List.map eF [((List.getD ns j []), (Option.getD (getF (List.getD ns j []) m) []))]))) rfl (fun l => Frz.arr l _ _ _ _ _) rfl) ?_
       refine RO (Body.append rfl rfl rfl un60 in175 rfl (fun _ => rfl) by175 (by first | omega | (have hc2 := hc; simp only [beq_iff_eq, decide_eq_true_eq, decide_eq_false_iff_not] at hc2; omega) | (simp only [List.length_append, List.length_cons, List.length_nil, List.length_take, List.length_drop]; omega))) ?_
       refine rn rfl ?_
       refine RN ?_
       refine Ap rfl ?_
       refine NR ⟨[(0, vL eF b), (1, vL eF m), (2, vL eF t), (8, vL eN ns), (11, .aref 12 (vo + 1)), (12, .aref 13 vc), (13, vI ((j : Nat) : Int))], [(12, .arr (vo + 1) 2 175 (List.map eF (out ++ [((List.getD ns j []), (Option.getD (getF (List.getD ns j []) m) []))]))), (13, .arr vc 1 9 (List.map eN con))]⟩ (sb rfl rfl rfl) rfl ?_
       refine mv rfl ?_
       refine RO (Body.add rfl rfl (by unfold R64; omega)) ?_
       refine ag rfl ?_
       refine RN ?_
       refine Aq rfl ?_
       refine PK.lp ?_
       refine LP.mk ((j + 1), (vo + 1), (out ++ [((List.getD ns j []), (Option.getD (getF (List.getD ns j []) m) []))]), vc, con) ?_ ?_ (sb rfl rfl rfl)
       · show (j + 1) ≤ List.length ns ∧ List.length (out ++ [((List.getD ns j []), (Option.getD (getF (List.getD ns j []) m) []))]) ≤ (j + 1) ∧ List.length con ≤ (j + 1) ∧ rmGo b m t ns = ((out ++ [((List.getD ns j []), (Option.getD (getF (List.getD ns j []) m) []))]) ++ (rmGo b m t (List.drop (j + 1) ns)).1, con ++ (rmGo b m t (List.drop (j + 1) ns)).2)
         refine ⟨by omega, by first | omega | (simp only [List.length_append, List.length_cons, List.length_nil]; omega), by first | omega | (simp only [List.length_append, List.length_cons, List.length_nil]; omega), ?_⟩; rw [hI1.2.2.2, drop_at ns j [] (by omega), rmGo]; clear hI1 hI0 hns hal; simp_all [pairEq, bif_and]
       · show List.length ns - (j + 1) < List.length ns - j
         omega
      ·
       refine At rfl ?_
       refine NR ⟨[(0, vL eF b), (1, vL eF m), (2, vL eF t), (8, vL eN ns), (11, .aref 12 vo), (12, .aref 13 vc), (13, vI ((j : Nat) : Int))], [(12, .arr vo 2 175 (List.map eF out)), (13, .arr vc 1 9 (List.map eN con))]⟩ (sb rfl rfl rfl) rfl ?_
       refine mv rfl ?_
       refine RO (Body.add rfl rfl (by unfold R64; omega)) ?_
       refine ag rfl ?_
       refine RN ?_
       refine Aq rfl ?_
       refine PK.lp ?_
       refine LP.mk ((j + 1), vo, out, vc, con) ?_ ?_ (sb rfl rfl rfl)
       · show (j + 1) ≤ List.length ns ∧ List.length out ≤ (j + 1) ∧ List.length con ≤ (j + 1) ∧ rmGo b m t ns = (out ++ (rmGo b m t (List.drop (j + 1) ns)).1, con ++ (rmGo b m t (List.drop (j + 1) ns)).2)
         refine ⟨by omega, by first | omega | (simp only [List.length_append, List.length_cons, List.length_nil]; omega), by first | omega | (simp only [List.length_append, List.length_cons, List.length_nil]; omega), ?_⟩; rw [hI1.2.2.2, drop_at ns j [] (by omega), rmGo]; clear hI1 hI0 hns hal; simp_all [pairEq, bif_and]
       · show List.length ns - (j + 1) < List.length ns - j
         omega
     ·
      refine At rfl ?_
      refine NR ⟨[(0, vL eF b), (1, vL eF m), (2, vL eF t), (8, vL eN ns), (11, .aref 12 vo), (12, .aref 13 vc), (13, vI ((j : Nat) : Int)), (20, vS (bsO (Option.getD (getF (List.getD ns j []) m) []))), (21, vB (Option.isSome (getF (List.getD ns j []) m)))], [(12, .arr vo 2 175 (List.map eF out)), (13, .arr vc 1 9 (List.map eN con))]⟩ (sb rfl rfl rfl) rfl ?_
      refine rn rfl ?_
      refine mv rfl ?_
      refine mv rfl ?_
      refine RO (Body.idx (z := []) (i := j) rfl rfl un73 sz9 (fun _ => rfl) rfl (by first | omega | (have hc2 := hc; simp only [beq_iff_eq, decide_eq_true_eq, decide_eq_false_iff_not] at hc2; omega) | (simp only [List.length_append, List.length_cons, List.length_nil, List.length_take, List.length_drop]; omega))) ?_
      refine RO (Body.loadP rfl ag9 sz9) ?_
      refine RO (Body.runZ (val := .pv (.slice (List.map eN [(List.getD ns j [])]))) rfl (fun l => Frz.arr l _ _ _ _ _) rfl) ?_
      refine RO (Body.append rfl rfl rfl un73 in9 rfl (fun _ => rfl) by9 (by first | omega | (have hc2 := hc; simp only [beq_iff_eq, decide_eq_true_eq, decide_eq_false_iff_not] at hc2; omega) | (simp only [List.length_append, List.length_cons, List.length_nil, List.length_take, List.length_drop]; omega))) ?_
      refine rn rfl ?_
      refine RN ?_
      refine Ap rfl ?_
      refine NR ⟨[(0, vL eF b), (1, vL eF m), (2, vL eF t), (8, vL eN ns), (11, .aref 12 vo), (12, .aref 13 (vc + 1)), (13, vI ((j : Nat) : Int)), (20, vS (bsO (Option.getD (getF (List.getD ns j []) m) []))), (21, vB (Option.isSome (getF (List.getD ns j []) m)))], [(12, .arr vo 2 175 (List.map eF out)), (13, .arr (vc + 1) 1 9 (List.map eN (con ++ [(List.getD ns j [])])))]⟩ (sb rfl rfl rfl) rfl ?_
      refine mv rfl ?_
      refine RN ?_
      refine Ap rfl ?_
      refine TK.norm ⟨[(0, vL eF b), (1, vL eF m), (2, vL eF t), (8, vL eN ns), (11, .aref 12 vo), (12, .aref 13 (vc + 1)), (13, vI ((j : Nat) : Int)), (20, vS (bsO (Option.getD (getF (List.getD ns j []) m) []))), (113, vB (Option.isSome (getF (List.getD ns j []) m)))], [(12, .arr vo 2 175 (List.map eF out)), (13, .arr (vc + 1) 1 9 (List.map eN (con ++ [(List.getD ns j [])])))]⟩ (sb rfl rfl rfl) ?_
      refine TK.cond rfl (fun h9 => ?_) (fun h9 => ?_)
      ·
       refine At rfl ?_
       refine NR ⟨[(0, vL eF b), (1, vL eF m), (2, vL eF t), (8, vL eN ns), (11, .aref 12 vo), (12, .aref 13 (vc + 1)), (13, vI ((j : Nat) : Int)), (20, vS (bsO (Option.getD (getF (List.getD ns j []) m) [])))], [(12, .arr vo 2 175 (List.map eF out)), (13, .arr (vc + 1) 1 9 (List.map eN (con ++ [(List.getD ns j [])])))]⟩ (sb rfl rfl rfl) rfl ?_
       refine rn rfl ?_
       refine mv rfl ?_
       refine mv rfl ?_
       refine RO (Body.idx (z := []) (i := j) rfl rfl un73 sz9 (fun _ => rfl) rfl (by first | omega | (have hc2 := hc; simp only [beq_iff_eq, decide_eq_true_eq, decide_eq_false_iff_not] at hc2; omega) | (simp only [List.length_append, List.length_cons, List.length_nil, List.length_take, List.length_drop]; omega))) ?_
       refine RO (Body.loadP rfl ag9 sz9) ?_
       refine mv rfl ?_
       refine rn rfl ?_
       refine RO (Body.runZ (val := .pv (.slice (List.map eF [((List.getD ns j []), (Option.getD (getF (List.getD ns j []) m) []))]))) rfl (fun l => Frz.arr l _ _ _ _ _) rfl) ?_
       refine RO (Body.append rfl rfl rfl un60 in175 rfl (fun _ => rfl) by175 (by first | omega | (have hc2 := hc; simp only [beq_iff_eq, decide_eq_true_eq, decide_eq_false_iff_not] at hc2; omega) | (simp only [List.length_append, List.length_cons, List.length_nil, List.length_take, List.length_drop]; omega))) ?_
       refine rn rfl ?_
       refine RN ?_
       refine Ap rfl ?_
       refine NR ⟨[(0, vL eF b), (1, vL eF m), (2, vL eF t), (8, vL eN ns), (11, .aref 12 (vo + 1)), (12, .aref 13 (vc + 1)), (13, vI ((j : Nat) : Int))], [(12, .arr (vo + 1) 2 175 (List.map eF (out ++ [((List.getD ns j []), (Option.getD (getF (List.getD ns j []) m) []))]))), (13, .arr (vc + 1) 1 9 (List.map eN (con ++ [(List.getD ns j [])])))]⟩ (sb rfl rfl rfl) rfl ?_
       refine mv rfl ?_
       refine RO (Body.add rfl rfl (by unfold R64; omega)) ?_
       refine ag rfl ?_
       refine RN ?_
       refine Aq rfl ?_
       refine PK.lp ?_
       refine LP.mk ((j + 1), (vo + 1), (out ++ [((List.getD ns j []), (Option.getD (getF (List.getD ns j []) m) []))]), (vc + 1), (con ++ [(List.getD ns j [])])) ?_ ?_ (sb rfl rfl rfl)
       · show (j + 1) ≤ List.length ns ∧ List.length (out ++ [((List.getD ns j []), (Option.getD (getF (List.getD ns j []) m) []))]) ≤ (j + 1) ∧ List.length (con ++ [(List.getD ns j [])]) ≤ (j + 1) ∧ rmGo b m t ns = ((out ++ [((List.getD ns j []), (Option.getD (getF (List.getD ns j []) m) []))]) ++ (rmGo b m t (List.drop (j + 1) ns)).1, (con ++ [(List.getD ns j [])]) ++ (rmGo b m t (List.drop (j + 1) ns)).2)
         refine ⟨by omega, by first | omega | (simp only [List.length_append, List.length_cons, List.length_nil]; omega), by first | omega | (simp only [List.length_append, List.length_cons, List.length_nil]; omega), ?_⟩; rw [hI1.2.2.2, drop_at ns j [] (by omega), rmGo]; clear hI1 hI0 hns hal; simp_all [pairEq, bif_and]
       · show List.length ns - (j + 1) < List.length ns - j
         omega
      ·
       refine At rfl ?_
       refine NR ⟨[(0, vL eF b), (1, vL eF m), (2, vL eF t), (8, vL eN ns), (11, .aref 12 vo), (12, .aref 13 (vc + 1)), (13, vI ((j : Nat) : Int))], [(12, .arr vo 2 175 (List.map eF out)), (13, .arr (vc + 1) 1 9 (List.map eN (con ++ [(List.getD ns j [])])))]⟩ (sb rfl rfl rfl) rfl ?_
       refine mv rfl ?_
       refine RO (Body.add rfl rfl (by unfold R64; omega)) ?_
       refine ag rfl ?_
       refine RN ?_
       refine Aq rfl ?_
       refine PK.lp ?_
       refine LP.mk ((j + 1), vo, out, (vc + 1), (con ++ [(List.getD ns j [])])) ?_ ?_ (sb rfl rfl rfl)
       · show (j + 1) ≤ List.length ns ∧ List.length out ≤ (j + 1) ∧ List.length (con ++ [(List.getD ns j [])]) ≤ (j + 1) ∧ rmGo b m t ns = (out ++ (rmGo b m t (List.drop (j + 1) ns)).1, (con ++ [(List.getD ns j [])]) ++ (rmGo b m t (List.drop (j + 1) ns)).2)
         refine ⟨by omega, by first | omega | (simp only [List.length_append, List.length_cons, List.length_nil]; omega), by first | omega | (simp only [List.length_append, List.length_cons, List.length_nil]; omega), ?_⟩; rw [hI1.2.2.2, drop_at ns j [] (by omega), rmGo]; clear hI1 hI0 hns hal; simp_all [pairEq, bif_and]
       · show List.length ns - (j + 1) < List.length ns - j
         omega
  ·
   refine At rfl ?_
   refine TK.exit ?_
   refine PK.exit rfl ?_
   refine Ap rfl ?_
   refine TK.norm ⟨[(11, .aref 12 vo), (12, .aref 13 vc)], [(12, .arr vo 2 175 (List.map eF out)), (13, .arr vc 1 9 (List.map eN con))]⟩ (sb rfl rfl rfl) ?_
   have hrm : rmGo b m t (refNm ((b ++ m) ++ t)) = (out, con) := by rw [← hns, hI1.2.2.2, List.drop_eq_nil_of_le (by omega)]; simp [rmGo]
   refine TK.frz (t := 12) rfl rfl ?_
   refine NR ⟨[(11, .aref 12 vo), (12, vL eN con)], [(12, .arr vo 2 175 (List.map eF out))]⟩ (sb rfl rfl rfl) rfl ?_
   refine mv rfl ?_
   refine RO (Body.lenL rfl un73) ?_
   refine RO (Body.gtr rfl rfl) ?_
   refine RN ?_
   refine Ap rfl ?_
   refine TK.norm ⟨[(11, .aref 12 vo), (12, vL eN con), (125, vB (decide (0 < ((List.length con : Nat) : Int))))], [(12, .arr vo 2 175 (List.map eF out))]⟩ (sb rfl rfl rfl) ?_
   refine TK.condP rfl (fun h10 => ?_) (fun h10 => ?_)
   ·
    refine At rfl ?_
    refine NR ⟨[(12, vL eN con)], []⟩ (sb rfl rfl rfl) rfl ?_
    refine mv rfl ?_
    refine RO (Body.nilS (enc := eF) rfl) ?_
    refine ag rfl ?_
    refine RN ?_
    refine Ap rfl ?_
    refine TK.ret ?_
    refine PK.ret ?_
    refine leaf (val0 := .tup [vL eF [], vL eN con]) (by kernel_rfl) ?_
    exact tup2 (lsl (by first
          | rw [refM_con hrm (by assumption)]
          | rw [refM_out hrm (by assumption)])) (lsl (by first
          | rw [refM_con hrm (by assumption)]
          | rw [refM_out hrm (by assumption)]))
   ·
    refine At rfl ?_
    refine TK.norm ⟨[(11, .aref 12 vo)], [(12, .arr vo 2 175 (List.map eF out))]⟩ (sb rfl rfl rfl) ?_
    refine TK.frz (t := 11) rfl rfl ?_
    refine NR ⟨[(11, vL eF out)], []⟩ (sb rfl rfl rfl) rfl ?_
    refine mv rfl ?_
    refine ag rfl ?_
    refine RO (Body.nilS (enc := eN) rfl) ?_
    refine RN ?_
    refine Ap rfl ?_
    refine TK.ret ?_
    refine PK.ret ?_
    refine leaf (val0 := .tup [vL eF out, vL eN []]) (by kernel_rfl) ?_
    exact tup2 (lsl (by first
          | rw [refM_con hrm (by assumption)]
          | rw [refM_out hrm (by assumption)])) (lsl (by first
          | rw [refM_con hrm (by assumption)]
          | rw [refM_out hrm (by assumption)]))
set_option maxHeartbeats 4000000 in
theorem w44 (b m t : List Fld) (hb : b.length ≤ 1000) (hm : m.length ≤ 1000) (ht : t.length ≤ 1000) : CallOk Tryz.prog 44 [vL eF b, vL eF m, vL eF t] (lookM []) (.tup [vL eF (mfG (firstF [chkFl b, chkFl m, chkFl t]) (refM b m t)).1, vL eN (mfG (firstF [chkFl b, chkFl m, chkFl t]) (refM b m t)).2.1, vI (mfG (firstF [chkFl b, chkFl m, chkFl t]) (refM b m t)).2.2]) [] := by
 haveI := tab_ok
 obtain ⟨fn, f1, f2, f3, f4, _, f6⟩ := qf44
 refine callOk_of (Y := tab) (F := fn44) f1 (f2.trans rfl) f3 f4 f6 (Nat.le_of_ble_eq_true rfl) rfl ?_
 clear f1 f2 f3 f4 f6
 show TK _ _ _ _ _ _ ⟨[(0, vL eF b), (1, vL eF m), (2, vL eF t)], []⟩
 refine At rfl ?_
 refine NR ⟨[(0, vL eF b), (1, vL eF m), (2, vL eF t)], []⟩ (sb rfl rfl rfl) rfl ?_
 refine RO (Body.nilS (enc := eF) rfl) ?_
 refine RO (Body.nilS (enc := eN) rfl) ?_
 refine ag rfl ?_
 refine RN ?_
 refine Ap rfl ?_
 refine NR ⟨[(0, vL eF b), (1, vL eF m), (2, vL eF t)], []⟩ (sb rfl rfl rfl) rfl ?_
 refine mv rfl ?_
 refine mv rfl ?_
 refine mv rfl ?_
 refine RO (Body.runZ (val := .pv (.slice (List.map eL [b, m, t]))) rfl (fun l => Frz.arr l _ _ _ _ _) rfl) ?_
 refine ag rfl ?_
 refine RN ?_
 refine Ap rfl ?_
 refine NR ⟨[(0, vL eF b), (1, vL eF m), (2, vL eF t), (9, vL eL [b, m, t])], []⟩ (sb rfl rfl rfl) rfl ?_
 refine ag rfl ?_
 refine RN ?_
 refine Ap rfl ?_
 refine TK.loop (α := Nat) (fun x => ⟨[(0, vL eF b), (1, vL eF m), (2, vL eF t), (9, vL eL [b, m, t]), (10, vI ((x : Nat) : Int))], []⟩) (fun x => x ≤ 3 ∧ ∀ j, j < x → chkFl (List.getD [b, m, t] j []) = 0) (fun x => 3 - x) 0 ?_ (sb rfl rfl rfl) ?_
 · show 0 ≤ 3 ∧ ∀ j, j < 0 → chkFl (List.getD [b, m, t] j []) = 0
   exact ⟨by omega, fun j hj => by omega⟩
 rintro k hI0
 replace hI0 : k ≤ 3 ∧ ∀ j, j < k → chkFl (List.getD [b, m, t] j []) = 0 := hI0
 show TK _ _ _ _ _ _ ⟨[(0, vL eF b), (1, vL eF m), (2, vL eF t), (9, vL eL [b, m, t]), (10, vI ((k : Nat) : Int))], []⟩
 refine At rfl ?_
 refine NR ⟨[(0, vL eF b), (1, vL eF m), (2, vL eF t), (9, vL eL [b, m, t]), (10, vI ((k : Nat) : Int))], []⟩ (sb rfl rfl rfl) rfl ?_
 refine mv rfl ?_
 refine RO (Body.lss rfl rfl) ?_
 refine RN ?_
 refine Ap rfl ?_
 refine TK.norm ⟨[(0, vL eF b), (1, vL eF m), (2, vL eF t), (9, vL eL [b, m, t]), (10, vI ((k : Nat) : Int)), (19, vB (decide (((k : Nat) : Int) < 3)))], []⟩ (sb rfl rfl rfl) ?_
 refine TK.condP rfl (fun h1 => ?_) (fun h1 => ?_)
 ·
  refine At rfl ?_
  refine TK.norm ⟨[(0, vL eF b), (1, vL eF m), (2, vL eF t), (9, vL eL [b, m, t]), (10, vI ((k : Nat) : Int))], []⟩ (sb rfl rfl rfl) ?_
  have hlk := len3 hb hm ht k
  refine TK.rg (Y := tab) mixed rfl ?_
  refine mv rfl ?_
  refine mv rfl ?_
  refine RO (Body.idx (z := []) (i := k) rfl rfl un212 sz60 (fun _ => rfl) rfl (by first | omega | (have hc2 := hc; simp only [beq_iff_eq, decide_eq_true_eq, decide_eq_false_iff_not] at hc2; omega) | (simp only [List.length_append, List.length_cons, List.length_nil, List.length_take, List.length_drop]; omega))) ?_
  refine RO (Body.loadP rfl ag60 sz60) ?_
  refine RO (Body.call (w38 (List.getD [b, m, t] k []) (by first | omega | exact Nat.le_of_ble_eq_true rfl | (simp only [List.length_append, List.length_cons, List.length_nil, List.length_take, List.length_drop]; omega))) rfl rfl rfl) ?_
  refine ag rfl ?_
  refine RN ?_
  refine Ap rfl ?_
  refine NR ⟨[(0, vL eF b), (1, vL eF m), (2, vL eF t), (9, vL eL [b, m, t]), (10, vI ((k : Nat) : Int)), (11, vI (chkFl (List.getD [b, m, t] k [])))], []⟩ (sb rfl rfl rfl) rfl ?_
  refine mv rfl ?_
  refine RO (Body.neq rfl rfl) ?_
  refine RN ?_
  refine Ap rfl ?_
  refine TK.norm ⟨[(0, vL eF b), (1, vL eF m), (2, vL eF t), (9, vL eL [b, m, t]), (10, vI ((k : Nat) : Int)), (11, vI (chkFl (List.getD [b, m, t] k []))), (28, vB (decide ((chkFl (List.getD [b, m, t] k [])) ≠ 0)))], []⟩ (sb rfl rfl rfl) ?_
  refine TK.condP rfl (fun h2 => ?_) (fun h2 => ?_)
  ·
   refine At rfl ?_
   refine NR ⟨[(11, vI (chkFl (List.getD [b, m, t] k [])))], []⟩ (sb rfl rfl rfl) rfl ?_
   refine mv rfl ?_
   refine RO (Body.nilS (enc := eF) rfl) ?_
   refine RO (Body.nilS (enc := eN) rfl) ?_
   refine ag rfl ?_
   refine RN ?_
   refine Ap rfl ?_
   refine TK.ret ?_
   refine PK.ret ?_
   refine leaf (val0 := .tup [vL eF [], vL eN [], vI (chkFl (List.getD [b, m, t] k []))]) (by kernel_rfl) ?_
   exact tup3 (lsl (by first
          | rw [mfG_bad (by assumption)]
          | rw [mfG_bad (by rw [first3 (by omega) hI0.2 h2]; exact h2), first3 (by omega) hI0.2 h2]
          | rw [mfG_bad (by rw [first3 (by omega) hI0.2 h2]; exact h2)]
          | rw [mfG_con he (by assumption)]
          | rw [mfG_many he (by assumption) (by assumption)]
          | rw [mfG_ok he (by assumption) (by assumption)])) (lsl (by first
          | rw [mfG_bad (by assumption)]
          | rw [mfG_bad (by rw [first3 (by omega) hI0.2 h2]; exact h2), first3 (by omega) hI0.2 h2]
          | rw [mfG_bad (by rw [first3 (by omega) hI0.2 h2]; exact h2)]
          | rw [mfG_con he (by assumption)]
          | rw [mfG_many he (by assumption) (by assumption)]
          | rw [mfG_ok he (by assumption) (by assumption)])) (li (by first
          | rw [mfG_bad (by assumption)]
          | rw [mfG_bad (by rw [first3 (by omega) hI0.2 h2]; exact h2), first3 (by omega) hI0.2 h2]
          | rw [mfG_bad (by rw [first3 (by omega) hI0.2 h2]; exact h2)]
          | rw [mfG_con he (by assumption)]
          | rw [mfG_many he (by assumption) (by assumption)]
          | rw [mfG_ok he (by assumption) (by assumption)]))
  ·
   refine At rfl ?_
   refine NR ⟨[(0, vL eF b), (1, vL eF m), (2, vL eF t), (9, vL eL [b, m, t]), (10, vI ((k : Nat) : Int))], []⟩ (sb rfl rfl rfl) rfl ?_
   refine mv rfl ?_
   refine RO (Body.add rfl rfl (by unfold R64; omega)) ?_
   refine ag rfl ?_
   refine RN ?_
   refine Aq rfl ?_
   refine PK.lp ?_
   refine LP.mk (k + 1) ?_ ?_ (sb rfl rfl rfl)
   · show (k + 1) ≤ 3 ∧ ∀ j, j < (k + 1) → chkFl (List.getD [b, m, t] j []) = 0
     refine ⟨by omega, fun j hj => ?_⟩; rcases Nat.lt_succ_iff_lt_or_eq.1 hj with h | h; exact hI0.2 j h; subst h; exact Decidable.not_not.1 h2
   · show 3 - (k + 1) < 3 - k
     omega
 ·
  refine At rfl ?_
  refine TK.exit ?_
  refine PK.exit rfl ?_
  refine Ap rfl ?_
  refine TK.norm ⟨[(0, vL eF b), (1, vL eF m), (2, vL eF t)], []⟩ (sb rfl rfl rfl) ?_
  have he := first3_ok (b := b) (m := m) (t := t) fun j hj => hI0.2 j (by omega)
  refine TK.rg (Y := tab) mixed rfl ?_
  refine mv rfl ?_
  refine mv rfl ?_
  refine mv rfl ?_
  refine RO (Body.call (w122 b m t (by omega) (by omega) (by omega)) rfl rfl rfl) ?_
  refine rn rfl ?_
  refine rn rfl ?_
  refine rn rfl ?_
  refine ag rfl ?_
  refine ag rfl ?_
  refine RN ?_
  refine Ap rfl ?_
  refine NR ⟨[(12, vL eF (refM b m t).1), (13, vL eN (refM b m t).2)], []⟩ (sb rfl rfl rfl) rfl ?_
  refine mv rfl ?_
  refine RO (Body.lenL rfl un73) ?_
  refine RO (Body.gtr rfl rfl) ?_
  refine RN ?_
  refine Ap rfl ?_
  refine TK.norm ⟨[(12, vL eF (refM b m t).1), (13, vL eN (refM b m t).2), (39, vB (decide (0 < ((List.length (refM b m t).2 : Nat) : Int))))], []⟩ (sb rfl rfl rfl) ?_
  refine TK.condP rfl (fun h3 => ?_) (fun h3 => ?_)
  ·
   refine At rfl ?_
   refine NR ⟨[(13, vL eN (refM b m t).2)], []⟩ (sb rfl rfl rfl) rfl ?_
   refine mv rfl ?_
   refine RO (Body.nilS (enc := eF) rfl) ?_
   refine ag rfl ?_
   refine ag rfl ?_
   refine RN ?_
   refine Ap rfl ?_
   refine TK.ret ?_
   refine PK.ret ?_
   refine leaf (val0 := .tup [vL eF [], vL eN (refM b m t).2, vI 29]) (by kernel_rfl) ?_
   exact tup3 (lsl (by first
          | rw [mfG_bad (by assumption)]
          | rw [mfG_bad (by rw [first3 (by omega) hI0.2 h2]; exact h2), first3 (by omega) hI0.2 h2]
          | rw [mfG_bad (by rw [first3 (by omega) hI0.2 h2]; exact h2)]
          | rw [mfG_con he (by assumption)]
          | rw [mfG_many he (by assumption) (by assumption)]
          | rw [mfG_ok he (by assumption) (by assumption)])) (lsl (by first
          | rw [mfG_bad (by assumption)]
          | rw [mfG_bad (by rw [first3 (by omega) hI0.2 h2]; exact h2), first3 (by omega) hI0.2 h2]
          | rw [mfG_bad (by rw [first3 (by omega) hI0.2 h2]; exact h2)]
          | rw [mfG_con he (by assumption)]
          | rw [mfG_many he (by assumption) (by assumption)]
          | rw [mfG_ok he (by assumption) (by assumption)])) (li (by first
          | rw [mfG_bad (by assumption)]
          | rw [mfG_bad (by rw [first3 (by omega) hI0.2 h2]; exact h2), first3 (by omega) hI0.2 h2]
          | rw [mfG_bad (by rw [first3 (by omega) hI0.2 h2]; exact h2)]
          | rw [mfG_con he (by assumption)]
          | rw [mfG_many he (by assumption) (by assumption)]
          | rw [mfG_ok he (by assumption) (by assumption)]))
  ·
   refine At rfl ?_
   refine NR ⟨[(12, vL eF (refM b m t).1)], []⟩ (sb rfl rfl rfl) rfl ?_
   refine mv rfl ?_
   refine RO (Body.lenL rfl un60) ?_
   refine RO (Body.gtr rfl rfl) ?_
   refine RN ?_
   refine Ap rfl ?_
   refine TK.norm ⟨[(12, vL eF (refM b m t).1), (43, vB (decide (24 < ((List.length (refM b m t).1 : Nat) : Int))))], []⟩ (sb rfl rfl rfl) ?_
   refine TK.condP rfl (fun h4 => ?_) (fun h4 => ?_)
   ·
    refine At rfl ?_
    refine NR ⟨[], []⟩ (sb rfl rfl rfl) rfl ?_
    refine RO (Body.nilS (enc := eF) rfl) ?_
    refine RO (Body.nilS (enc := eN) rfl) ?_
    refine ag rfl ?_
    refine RN ?_
    refine Ap rfl ?_
    refine TK.ret ?_
    refine PK.ret ?_
    refine leaf (val0 := .tup [vL eF [], vL eN [], vI 5]) (by kernel_rfl) ?_
    exact tup3 (lsl (by first
          | rw [mfG_bad (by assumption)]
          | rw [mfG_bad (by rw [first3 (by omega) hI0.2 h2]; exact h2), first3 (by omega) hI0.2 h2]
          | rw [mfG_bad (by rw [first3 (by omega) hI0.2 h2]; exact h2)]
          | rw [mfG_con he (by assumption)]
          | rw [mfG_many he (by assumption) (by assumption)]
          | rw [mfG_ok he (by assumption) (by assumption)])) (lsl (by first
          | rw [mfG_bad (by assumption)]
          | rw [mfG_bad (by rw [first3 (by omega) hI0.2 h2]; exact h2), first3 (by omega) hI0.2 h2]
          | rw [mfG_bad (by rw [first3 (by omega) hI0.2 h2]; exact h2)]
          | rw [mfG_con he (by assumption)]
          | rw [mfG_many he (by assumption) (by assumption)]
          | rw [mfG_ok he (by assumption) (by assumption)])) (li (by first
          | rw [mfG_bad (by assumption)]
          | rw [mfG_bad (by rw [first3 (by omega) hI0.2 h2]; exact h2), first3 (by omega) hI0.2 h2]
          | rw [mfG_bad (by rw [first3 (by omega) hI0.2 h2]; exact h2)]
          | rw [mfG_con he (by assumption)]
          | rw [mfG_many he (by assumption) (by assumption)]
          | rw [mfG_ok he (by assumption) (by assumption)]))
   ·
    refine At rfl ?_
    refine NR ⟨[(12, vL eF (refM b m t).1)], []⟩ (sb rfl rfl rfl) rfl ?_
    refine mv rfl ?_
    refine ag rfl ?_
    refine RO (Body.nilS (enc := eN) rfl) ?_
    refine ag rfl ?_
    refine RN ?_
    refine Ap rfl ?_
    refine TK.ret ?_
    refine PK.ret ?_
    refine leaf (val0 := .tup [vL eF (refM b m t).1, vL eN [], vI 0]) (by kernel_rfl) ?_
    exact tup3 (lsl (by first
          | rw [mfG_bad (by assumption)]
          | rw [mfG_bad (by rw [first3 (by omega) hI0.2 h2]; exact h2), first3 (by omega) hI0.2 h2]
          | rw [mfG_bad (by rw [first3 (by omega) hI0.2 h2]; exact h2)]
          | rw [mfG_con he (by assumption)]
          | rw [mfG_many he (by assumption) (by assumption)]
          | rw [mfG_ok he (by assumption) (by assumption)])) (lsl (by first
          | rw [mfG_bad (by assumption)]
          | rw [mfG_bad (by rw [first3 (by omega) hI0.2 h2]; exact h2), first3 (by omega) hI0.2 h2]
          | rw [mfG_bad (by rw [first3 (by omega) hI0.2 h2]; exact h2)]
          | rw [mfG_con he (by assumption)]
          | rw [mfG_many he (by assumption) (by assumption)]
          | rw [mfG_ok he (by assumption) (by assumption)])) (li (by first
          | rw [mfG_bad (by assumption)]
          | rw [mfG_bad (by rw [first3 (by omega) hI0.2 h2]; exact h2), first3 (by omega) hI0.2 h2]
          | rw [mfG_bad (by rw [first3 (by omega) hI0.2 h2]; exact h2)]
          | rw [mfG_con he (by assumption)]
          | rw [mfG_many he (by assumption) (by assumption)]
          | rw [mfG_ok he (by assumption) (by assumption)]))
set_option maxHeartbeats 4000000 in
theorem w43 (b m t : List Fld) (hb : b.length ≤ 1000) (hm : m.length ≤ 1000) (ht : t.length ≤ 1000) (hsb : Small b) (hcb : ∀ f ∈ b, f.2.length ≤ 1000000000000000) (hsm : Small m) (hcm : ∀ f ∈ m, f.2.length ≤ 1000000000000000) (hst : Small t) (hct : ∀ f ∈ t, f.2.length ≤ 1000000000000000) : CallOk Tryz.prog 43 [vL eF b, vL eF m, vL eF t] (lookM []) (.tup [vL eF (mfG (firstF [chkFl b, chkFl m, chkFl t]) (mgR b m t)).1, vL eN (mfG (firstF [chkFl b, chkFl m, chkFl t]) (mgR b m t)).2.1, vI (mfG (firstF [chkFl b, chkFl m, chkFl t]) (mgR b m t)).2.2]) [] := by
 haveI := tab_ok
 obtain ⟨fn, f1, f2, f3, f4, _, f6⟩ := qf43
 refine callOk_of (Y := tab) (F := fn43) f1 (f2.trans rfl) f3 f4 f6 (Nat.le_of_ble_eq_true rfl) rfl ?_
 clear f1 f2 f3 f4 f6
 show TK _ _ _ _ _ _ ⟨[(0, vL eF b), (1, vL eF m), (2, vL eF t)], []⟩
 refine At rfl ?_
 refine NR ⟨[(0, vL eF b), (1, vL eF m), (2, vL eF t)], []⟩ (sb rfl rfl rfl) rfl ?_
 refine RO (Body.nilS (enc := eF) rfl) ?_
 refine RO (Body.nilS (enc := eN) rfl) ?_
 refine ag rfl ?_
 refine RN ?_
 refine Ap rfl ?_
 refine NR ⟨[(0, vL eF b), (1, vL eF m), (2, vL eF t)], []⟩ (sb rfl rfl rfl) rfl ?_
 refine mv rfl ?_
 refine RO (Body.call (w41 b (by omega) hcb) rfl rfl rfl) ?_
 refine mv rfl ?_
 refine RO (Body.call (w41 m (by omega) hcm) rfl rfl rfl) ?_
 refine mv rfl ?_
 refine RO (Body.call (w41 t (by omega) hct) rfl rfl rfl) ?_
 refine RO (Body.runZ (val := .pv (.slice (List.map eI [(chkFl b), (chkFl m), (chkFl t)]))) rfl (fun l => Frz.arr l _ _ _ _ _) rfl) ?_
 refine RO (Body.call (w100 [(chkFl b), (chkFl m), (chkFl t)] (Nat.le_of_ble_eq_true rfl)) rfl rfl rfl) ?_
 refine ag rfl ?_
 refine RN ?_
 refine Ap rfl ?_
 refine NR ⟨[(0, vL eF b), (1, vL eF m), (2, vL eF t), (9, vI (firstF [(chkFl b), (chkFl m), (chkFl t)]))], []⟩ (sb rfl rfl rfl) rfl ?_
 refine mv rfl ?_
 refine RO (Body.neq rfl rfl) ?_
 refine RN ?_
 refine Ap rfl ?_
 refine TK.norm ⟨[(0, vL eF b), (1, vL eF m), (2, vL eF t), (9, vI (firstF [(chkFl b), (chkFl m), (chkFl t)])), (21, vB (decide ((firstF [(chkFl b), (chkFl m), (chkFl t)]) ≠ 0)))], []⟩ (sb rfl rfl rfl) ?_
 refine TK.condP rfl (fun h1 => ?_) (fun h1 => ?_)
 ·
  refine At rfl ?_
  refine NR ⟨[(9, vI (firstF [(chkFl b), (chkFl m), (chkFl t)]))], []⟩ (sb rfl rfl rfl) rfl ?_
  refine mv rfl ?_
  refine RO (Body.nilS (enc := eF) rfl) ?_
  refine RO (Body.nilS (enc := eN) rfl) ?_
  refine ag rfl ?_
  refine RN ?_
  refine Ap rfl ?_
  refine TK.ret ?_
  refine PK.ret ?_
  refine leaf (val0 := .tup [vL eF [], vL eN [], vI (firstF [(chkFl b), (chkFl m), (chkFl t)])]) (by kernel_rfl) ?_
  exact tup3 (lsl (by first
          | rw [mfG_bad (by assumption)]
          | rw [mfG_bad (by rw [first3 (by omega) hI0.2 h2]; exact h2), first3 (by omega) hI0.2 h2]
          | rw [mfG_bad (by rw [first3 (by omega) hI0.2 h2]; exact h2)]
          | rw [mfG_con he (by assumption)]
          | rw [mfG_many he (by assumption) (by assumption)]
          | rw [mfG_ok he (by assumption) (by assumption)])) (lsl (by first
          | rw [mfG_bad (by assumption)]
          | rw [mfG_bad (by rw [first3 (by omega) hI0.2 h2]; exact h2), first3 (by omega) hI0.2 h2]
          | rw [mfG_bad (by rw [first3 (by omega) hI0.2 h2]; exact h2)]
          | rw [mfG_con he (by assumption)]
          | rw [mfG_many he (by assumption) (by assumption)]
          | rw [mfG_ok he (by assumption) (by assumption)])) (li (by first
          | rw [mfG_bad (by assumption)]
          | rw [mfG_bad (by rw [first3 (by omega) hI0.2 h2]; exact h2), first3 (by omega) hI0.2 h2]
          | rw [mfG_bad (by rw [first3 (by omega) hI0.2 h2]; exact h2)]
          | rw [mfG_con he (by assumption)]
          | rw [mfG_many he (by assumption) (by assumption)]
          | rw [mfG_ok he (by assumption) (by assumption)]))
 ·
  refine At rfl ?_
  refine TK.norm ⟨[(0, vL eF b), (1, vL eF m), (2, vL eF t)], []⟩ (sb rfl rfl rfl) ?_
  have he := Decidable.not_not.1 h1
  refine TK.rg (Y := tab) mixed rfl ?_
  refine mv rfl ?_
  refine mv rfl ?_
  refine mv rfl ?_
  refine RO (Body.callS (l := []) (w121 b m t hsb hsm hst) rfl rfl trivial rfl rfl) ?_
  refine rn rfl ?_
  refine rn rfl ?_
  refine rn rfl ?_
  refine rn rfl ?_
  refine rn rfl ?_
  refine RN ?_
  refine Ap rfl ?_
  refine TK.norm ⟨[(10, .aref 14 (List.length (mgR b m t).1)), (11, .aref 15 (List.length (mgR b m t).2))], [(14, .arr (List.length (mgR b m t).1) 2 174 (List.map eF (mgR b m t).1)), (15, .arr (List.length (mgR b m t).2) 1 9 (List.map eN (mgR b m t).2))]⟩ (sb rfl rfl rfl) ?_
  refine TK.frz (t := 10) rfl rfl ?_
  refine TK.norm ⟨[(10, vL eF (mgR b m t).1), (11, .aref 15 (List.length (mgR b m t).2))], [(15, .arr (List.length (mgR b m t).2) 1 9 (List.map eN (mgR b m t).2))]⟩ (sb rfl rfl rfl) ?_
  refine TK.frz (t := 11) rfl rfl ?_
  refine NR ⟨[(10, vL eF (mgR b m t).1), (11, vL eN (mgR b m t).2)], []⟩ (sb rfl rfl rfl) rfl ?_
  refine mv rfl ?_
  refine RO (Body.lenL rfl un73) ?_
  refine RO (Body.gtr rfl rfl) ?_
  refine RN ?_
  refine Ap rfl ?_
  refine TK.norm ⟨[(10, vL eF (mgR b m t).1), (11, vL eN (mgR b m t).2), (32, vB (decide (0 < ((List.length (mgR b m t).2 : Nat) : Int))))], []⟩ (sb rfl rfl rfl) ?_
  refine TK.condP rfl (fun h2 => ?_) (fun h2 => ?_)
  ·
   refine At rfl ?_
   refine NR ⟨[(11, vL eN (mgR b m t).2)], []⟩ (sb rfl rfl rfl) rfl ?_
   refine mv rfl ?_
   refine RO (Body.nilS (enc := eF) rfl) ?_
   refine ag rfl ?_
   refine ag rfl ?_
   refine RN ?_
   refine Ap rfl ?_
   refine TK.ret ?_
   refine PK.ret ?_
   refine leaf (val0 := .tup [vL eF [], vL eN (mgR b m t).2, vI 29]) (by kernel_rfl) ?_
   exact tup3 (lsl (by first
          | rw [mfG_bad (by assumption)]
          | rw [mfG_bad (by rw [first3 (by omega) hI0.2 h2]; exact h2), first3 (by omega) hI0.2 h2]
          | rw [mfG_bad (by rw [first3 (by omega) hI0.2 h2]; exact h2)]
          | rw [mfG_con he (by assumption)]
          | rw [mfG_many he (by assumption) (by assumption)]
          | rw [mfG_ok he (by assumption) (by assumption)])) (lsl (by first
          | rw [mfG_bad (by assumption)]
          | rw [mfG_bad (by rw [first3 (by omega) hI0.2 h2]; exact h2), first3 (by omega) hI0.2 h2]
          | rw [mfG_bad (by rw [first3 (by omega) hI0.2 h2]; exact h2)]
          | rw [mfG_con he (by assumption)]
          | rw [mfG_many he (by assumption) (by assumption)]
          | rw [mfG_ok he (by assumption) (by assumption)])) (li (by first
          | rw [mfG_bad (by assumption)]
          | rw [mfG_bad (by rw [first3 (by omega) hI0.2 h2]; exact h2), first3 (by omega) hI0.2 h2]
          | rw [mfG_bad (by rw [first3 (by omega) hI0.2 h2]; exact h2)]
          | rw [mfG_con he (by assumption)]
          | rw [mfG_many he (by assumption) (by assumption)]
          | rw [mfG_ok he (by assumption) (by assumption)]))
  ·
   refine At rfl ?_
   refine NR ⟨[(10, vL eF (mgR b m t).1)], []⟩ (sb rfl rfl rfl) rfl ?_
   refine mv rfl ?_
   refine RO (Body.lenL rfl un59) ?_
   refine RO (Body.gtr rfl rfl) ?_
   refine RN ?_
   refine Ap rfl ?_
   refine TK.norm ⟨[(10, vL eF (mgR b m t).1), (36, vB (decide (24 < ((List.length (mgR b m t).1 : Nat) : Int))))], []⟩ (sb rfl rfl rfl) ?_
   refine TK.condP rfl (fun h3 => ?_) (fun h3 => ?_)
   ·
    refine At rfl ?_
    refine NR ⟨[], []⟩ (sb rfl rfl rfl) rfl ?_
    refine RO (Body.nilS (enc := eF) rfl) ?_
    refine RO (Body.nilS (enc := eN) rfl) ?_
    refine ag rfl ?_
    refine RN ?_
    refine Ap rfl ?_
    refine TK.ret ?_
    refine PK.ret ?_
    refine leaf (val0 := .tup [vL eF [], vL eN [], vI 5]) (by kernel_rfl) ?_
    exact tup3 (lsl (by first
          | rw [mfG_bad (by assumption)]
          | rw [mfG_bad (by rw [first3 (by omega) hI0.2 h2]; exact h2), first3 (by omega) hI0.2 h2]
          | rw [mfG_bad (by rw [first3 (by omega) hI0.2 h2]; exact h2)]
          | rw [mfG_con he (by assumption)]
          | rw [mfG_many he (by assumption) (by assumption)]
          | rw [mfG_ok he (by assumption) (by assumption)])) (lsl (by first
          | rw [mfG_bad (by assumption)]
          | rw [mfG_bad (by rw [first3 (by omega) hI0.2 h2]; exact h2), first3 (by omega) hI0.2 h2]
          | rw [mfG_bad (by rw [first3 (by omega) hI0.2 h2]; exact h2)]
          | rw [mfG_con he (by assumption)]
          | rw [mfG_many he (by assumption) (by assumption)]
          | rw [mfG_ok he (by assumption) (by assumption)])) (li (by first
          | rw [mfG_bad (by assumption)]
          | rw [mfG_bad (by rw [first3 (by omega) hI0.2 h2]; exact h2), first3 (by omega) hI0.2 h2]
          | rw [mfG_bad (by rw [first3 (by omega) hI0.2 h2]; exact h2)]
          | rw [mfG_con he (by assumption)]
          | rw [mfG_many he (by assumption) (by assumption)]
          | rw [mfG_ok he (by assumption) (by assumption)]))
   ·
    refine At rfl ?_
    refine NR ⟨[(10, vL eF (mgR b m t).1)], []⟩ (sb rfl rfl rfl) rfl ?_
    refine mv rfl ?_
    refine ag rfl ?_
    refine RO (Body.nilS (enc := eN) rfl) ?_
    refine ag rfl ?_
    refine RN ?_
    refine Ap rfl ?_
    refine TK.ret ?_
    refine PK.ret ?_
    refine leaf (val0 := .tup [vL eF (mgR b m t).1, vL eN [], vI 0]) (by kernel_rfl) ?_
    exact tup3 (lsl (by first
          | rw [mfG_bad (by assumption)]
          | rw [mfG_bad (by rw [first3 (by omega) hI0.2 h2]; exact h2), first3 (by omega) hI0.2 h2]
          | rw [mfG_bad (by rw [first3 (by omega) hI0.2 h2]; exact h2)]
          | rw [mfG_con he (by assumption)]
          | rw [mfG_many he (by assumption) (by assumption)]
          | rw [mfG_ok he (by assumption) (by assumption)])) (lsl (by first
          | rw [mfG_bad (by assumption)]
          | rw [mfG_bad (by rw [first3 (by omega) hI0.2 h2]; exact h2), first3 (by omega) hI0.2 h2]
          | rw [mfG_bad (by rw [first3 (by omega) hI0.2 h2]; exact h2)]
          | rw [mfG_con he (by assumption)]
          | rw [mfG_many he (by assumption) (by assumption)]
          | rw [mfG_ok he (by assumption) (by assumption)])) (li (by first
          | rw [mfG_bad (by assumption)]
          | rw [mfG_bad (by rw [first3 (by omega) hI0.2 h2]; exact h2), first3 (by omega) hI0.2 h2]
          | rw [mfG_bad (by rw [first3 (by omega) hI0.2 h2]; exact h2)]
          | rw [mfG_con he (by assumption)]
          | rw [mfG_many he (by assumption) (by assumption)]
          | rw [mfG_ok he (by assumption) (by assumption)]))
end Go.Lens.Tm
end
section
namespace Go.Lens.Tm
open Go.Lens.Tb Go.Proofs
set_option linter.unusedSectionVars false
variable [Lz]
theorem ltS_iff : ∀ {x y : List UInt8}, ltS x y = true ↔ x < y
 | x, [] => by cases x <;> simp [ltS, Op.bytesLess]
 | [], b :: m => by simp [ltS, Op.bytesLess]
 | a :: l, b :: m => by
  have ih := ltS_iff (x := l) (y := m)
  unfold ltS at ih ⊢
  rw [List.cons_lt_cons_iff]
  simp [Op.bytesLess, ih]
theorem leS_iff {x y : List UInt8} : leS x y = true ↔ x ≤ y := by
 have h := ltS_iff (x := x) (y := y)
 unfold ltS at h
 unfold leS
 rw [Bool.or_eq_true, h, beq_iff_eq]
 constructor
 ·rintro (h | rfl)
  ·exact List.le_of_lt h
  ·exact List.le_refl _
 ·intro h
  by_cases e : x = y
  ·exact .inr e
  ·left
   by_cases hl : x < y
   ·exact hl
   ·exact absurd (List.le_antisymm h (List.not_lt.1 hl)) e
theorem insS_insB {x : List UInt8} : ∀ {l : List (List UInt8)}, l.Pairwise (· < ·) → insS x l = insB x l
 | [], _ => rfl
 | y :: l, h => by
  have ih := insS_insB (x := x) (List.pairwise_cons.1 h).2
  have hy := (List.pairwise_cons.1 h).1
  unfold insS at ih ⊢
  simp only [insB, List.any_cons]
  cases h1 : beqB x y with
  | true =>
   rw [beqB_iff] at h1
   subst h1
   simp
  | false =>
   have n1 : ¬ x = y := fun e => by rw [beqB_iff.2 e] at h1; cases h1
   rw [decide_eq_false (p := y = x) (fun e => n1 e.symm), Bool.false_or]
   cases h2 : blt x y with
   | true =>
    rw [blt_iff] at h2
    have hno : List.any l (fun z => decide (z = x)) = false := by
     rw [List.any_eq_false]
     intro z hz e
     have e := of_decide_eq_true e
     subst e
     exact List.lt_irrefl _ (List.lt_trans h2 (hy z hz))
    have hlt : ltS y x = false := by
     rw [Bool.eq_false_iff]
     intro e
     exact List.lt_irrefl _ (List.lt_trans h2 (ltS_iff.1 e))
    rw [hno]
    simp only [cond_false, cond_true, insGo, hlt]
   | false =>
    have n2 : ¬ x < y := fun e => by rw [blt_iff.2 e] at h2; cases h2
    have hlt : ltS y x = true := ltS_iff.2 (lt_of_not n1 n2)
    simp only [cond_false, insGo, hlt, cond_true]
    cases hany : List.any l (fun z => decide (z = x)) with
    | true => rw [hany] at ih; simp only [cond_true] at ih ⊢; rw [← ih]
    | false => rw [hany] at ih; simp only [cond_false] at ih ⊢; rw [← ih]
theorem sorted_one {L M : List (List UInt8)} (hL : L.Pairwise (· < ·)) (hM : M.Pairwise (· < ·)) (h : ∀ x, x ∈ L ↔ x ∈ M) : L = M := by
 have nd : ∀ {L : List (List UInt8)}, L.Pairwise (· < ·) → L.Nodup := fun hs => hs.imp fun h e => by subst e; exact List.lt_irrefl _ h
 refine List.Perm.eq_of_pairwise (le := fun a b => decide (a ≤ b) = true) (fun a b _ _ h1 h2 => ?_) ?_ ?_ ?_
 ·simp only [decide_eq_true_eq] at h1 h2
  exact List.le_antisymm h1 h2
 ·exact hL.imp fun h => by simp only [decide_eq_true_eq]; exact List.le_of_lt h
 ·exact hM.imp fun h => by simp only [decide_eq_true_eq]; exact List.le_of_lt h
 ·exact (List.perm_ext_iff_of_nodup (nd hL) (nd hM)).2 h
theorem foldS : ∀ (A : List Fld) (acc : List (List UInt8)), acc.Pairwise (· < ·) → (A.foldl (fun n f => insS f.1 n) acc).Pairwise (· < ·) ∧ ∀ x, x ∈ A.foldl (fun n f => insS f.1 n) acc ↔ x ∈ acc ∨ x ∈ A.map (·.1)
 | [], acc, h => ⟨h, fun x => by simp⟩
 | f :: A, acc, h => by
  have h1 : (insS f.1 acc).Pairwise (· < ·) := by rw [insS_insB h]; exact ins_sorted h
  obtain ⟨k1, k2⟩ := foldS A (insS f.1 acc) h1
  refine ⟨k1, fun x => ?_⟩
  show x ∈ A.foldl _ (insS f.1 acc) ↔ _
  rw [k2 x, insS_insB h, mem_ins, List.map_cons, List.mem_cons]
  constructor
  ·rintro ((h | h) | h) <;> simp [h]
  ·rintro (h | h | h) <;> simp [h]
theorem refNm_srt (A : List Fld) : refNm A = srt (A.map (·.1)) := by
 obtain ⟨k1, k2⟩ := foldS A [] List.Pairwise.nil
 refine sorted_one k1 (srt_sorted _) fun x => ?_
 rw [mem_srt]
 exact (k2 x).trans (by simp)
theorem rm_con (B M T : List Fld) : ∀ L, (rmGo B M T L).2 = (mgo B M T L).2
 | [] => rfl
 | x :: L => by
  have ih := rm_con B M T L
  simp only [rmGo, mgo]
  by_cases h1 : getF x M = getF x T
  ·rw [if_pos (.inl h1), if_pos (.inl h1)]; split <;> exact ih
  ·by_cases h2 : getF x T = getF x B
   ·rw [if_pos (.inr (.inr h2)), if_pos (.inr h2)]; split <;> exact ih
   ·by_cases h3 : getF x M = getF x B
    ·rw [if_pos (.inr (.inl h3)), if_neg (by rintro (h | h); exact h1 h; exact h2 h), if_pos h3]; split <;> exact ih
    ·rw [if_neg (by rintro (h | h | h); exact h1 h; exact h3 h; exact h2 h), if_neg (by rintro (h | h); exact h1 h; exact h2 h), if_neg h3, ih]
theorem rm_out (B M T : List Fld) : ∀ L, (mgo B M T L).2 = [] → (rmGo B M T L).1 = (mgo B M T L).1
 | [], _ => rfl
 | x :: L, h => by
  simp only [mgo] at h
  simp only [rmGo, mgo]
  by_cases h1 : getF x M = getF x T
  ·rw [if_pos (Or.inl h1)] at h ⊢
   rw [if_pos h1]
   have hq : (mgo B M T L).2 = [] := by split at h <;> exact h
   rw [rm_out B M T L hq]
   split <;> rfl
  ·by_cases h2 : getF x T = getF x B
   ·rw [if_pos (Or.inr h2)] at h ⊢
    have hq : (mgo B M T L).2 = [] := by split at h <;> exact h
    rw [if_neg h1, rm_out B M T L hq]
    by_cases h3 : getF x M = getF x B
    ·exact absurd (h3.trans h2.symm) h1
    ·rw [if_neg h3]; split <;> rfl
   ·have hn : ¬ (getF x M = getF x T ∨ getF x T = getF x B) := by rintro (h | h); exact h1 h; exact h2 h
    rw [if_neg hn] at h ⊢
    by_cases h3 : getF x M = getF x B
    ·rw [if_pos h3] at h ⊢
     have hq : (mgo B M T L).2 = [] := by split at h <;> exact h
     rw [if_neg h1, if_pos h3, rm_out B M T L hq]; split <;> rfl
    ·rw [if_neg h3] at h; cases h
theorem fGo_all {l : List Fld} : ∀ (n i : Nat), i + n = l.length → fGo l n i = 0 → ∀ j, i ≤ j → j < l.length → fOne l j = 0
 | 0, i, hn, _, j, h1, h2 => by omega
 | n + 1, i, hn, h, j, h1, h2 => by
  simp only [fGo] at h
  split at h
  ·rename_i h0
   by_cases hij : j = i
   ·subst hij; exact h0
   ·exact fGo_all n (i + 1) (by omega) h j (by omega) h2
  ·rename_i h0; exact absurd h h0
theorem chk_parts {l : List Fld} (h : chkFl l = 0) : l.length ≤ 24 ∧ ∀ j, j < l.length → chkF (l.getD j ([], [])) = 0 ∧ ordB l j = false := by
 unfold chkFl at h
 by_cases hl : 24 < l.length
 ·rw [decide_eq_true hl] at h; cases h
 ·rw [decide_eq_false hl] at h
  refine ⟨by omega, fun j hj => ?_⟩
  have := fGo_all l.length 0 (by omega) h j (by omega) hj
  unfold fOne at this
  split at this
  ·rename_i h0
   refine ⟨h0, ?_⟩
   cases ho : ordB l j with
   | false => rfl
   | true => rw [ho] at this; cases this
  ·rename_i h0; exact absurd this h0
theorem chkF_len {f : Fld} (h : chkF f = 0) : f.1.length ≤ 24 ∧ f.2.length ≤ 60 := by
 unfold chkF at h
 cases hn : isNameF (bsO f.1) with
 | false => rw [hn] at h; cases h
 | true =>
  rw [hn] at h
  by_cases hc : 60 < f.2.length
  ·rw [decide_eq_true hc] at h; cases h
  ·refine ⟨?_, by omega⟩
   by_cases hz : 24 < f.1.length
   ·rw [isName_len (s := bsO f.1) (.inr hz)] at hn; cases hn
   ·omega
theorem mem_getD {α : Type} {l : List α} {a : α} (z : α) (h : a ∈ l) : ∃ j, j < l.length ∧ l.getD j z = a := by
 obtain ⟨j, hj, rfl⟩ := List.getElem_of_mem h
 exact ⟨j, hj, by rw [List.getD_eq_getElem?_getD, List.getElem?_eq_getElem hj]; rfl⟩
theorem asc_of : ∀ (l : List Fld), (∀ j, 0 < j → j < l.length → leS (l.getD j ([], [])).1 (l.getD (j - 1) ([], [])).1 = false) → ascB l = true
 | [], _ => rfl
 | [_], _ => rfl
 | a :: b :: l, h => by
  have h0 : leS b.1 a.1 = false := h 1 (by omega) (by simp)
  have hlt : blt a.1 b.1 = true := by
   rw [blt_iff]
   rw [Bool.eq_false_iff, Ne, leS_iff] at h0
   exact List.not_le.1 h0
  simp only [ascB, hlt, Bool.true_and]
  refine asc_of (b :: l) fun j h1 h2 => ?_
  have := h (j + 1) (by omega) (by simpa using h2)
  rw [show j + 1 - 1 = (j - 1) + 1 by omega] at this
  simpa using this
theorem chk_asc {l : List Fld} (h : chkFl l = 0) : ascB l = true := by
 refine asc_of l fun j h1 h2 => ?_
 have := ((chk_parts h).2 j h2).2
 unfold ordB at this
 rw [decide_eq_true h1, Bool.true_and] at this
 exact this
theorem first3_zero {a b c : Int} (h : firstF [a, b, c] = 0) : a = 0 ∧ b = 0 ∧ c = 0 := by
 simp only [firstF] at h
 split at h
 ·rename_i h1
  split at h
  ·rename_i h2
   split at h
   ·rename_i h3; exact ⟨h1, h2, h3⟩
   ·rename_i h3; exact absurd h h3
  ·rename_i h2; exact absurd h h2
 ·rename_i h1; exact absurd h h1
theorem merge_same (b m t : List Fld) : mfG (firstF [chkFl b, chkFl m, chkFl t]) (mgR b m t) = mfG (firstF [chkFl b, chkFl m, chkFl t]) (refM b m t) := by
 by_cases he : firstF [chkFl b, chkFl m, chkFl t] = 0
 ·obtain ⟨hb, hm, ht⟩ := first3_zero he
  have e : mgR b m t = mgo b m t (refNm (b ++ m ++ t)) := by
   unfold mgR
   rw [cF_asc (chk_asc hb), cF_asc (chk_asc hm), cF_asc (chk_asc ht), refNm_srt]
   have : nmsK b m t 3 = (b ++ m ++ t).map (·.1) := by
    show nm b ++ nm m ++ nm t = _
    unfold nm
    rw [cF_asc (chk_asc hb), cF_asc (chk_asc hm), cF_asc (chk_asc ht)]; simp
   rw [this]
  have hc := rm_con b m t (refNm (b ++ m ++ t))
  rw [he, e]
  unfold refM
  by_cases hq : 0 < (rmGo b m t (refNm (b ++ m ++ t))).2.length
  ·have hq2 : 0 < (mgo b m t (refNm (b ++ m ++ t))).2.length := by rw [← hc]; exact hq
   rw [if_pos hq, mfG_con (r := mgo b m t (refNm (b ++ m ++ t))) rfl (by omega), mfG_con (r := ([], (rmGo b m t (refNm (b ++ m ++ t))).2)) rfl (show 0 < (((rmGo b m t (refNm (b ++ m ++ t))).2.length : Nat) : Int) by omega), hc]
  ·rw [if_neg hq]
   have h0 : (mgo b m t (refNm (b ++ m ++ t))).2 = [] := by rw [← hc]; exact List.eq_nil_of_length_eq_zero (by omega)
   have ho := rm_out b m t _ h0
   rw [ho]
   unfold mfG
   rw [h0]
 ·rw [mfG_bad he, mfG_bad he]
end Go.Lens.Tm
end
