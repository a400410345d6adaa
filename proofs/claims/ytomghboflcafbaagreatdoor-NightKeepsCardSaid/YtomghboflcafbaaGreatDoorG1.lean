/- A part of the proof that NightKeepsCardSaid holds, without conditions. -/
import Derived.Test.YtomghboflcafbaaGreatDoorS3
import Derived.Test.YtomghboflcafbaaGreatDoorS4
import Derived.Laws.RangeAny
import Derived.Test.YtomghboflcafbaaGreatDoorS10
import Derived.Lib.Bytealg
set_option linter.unusedVariables false
set_option linter.unusedSimpArgs false
section
namespace Go.Lens
set_option linter.unusedSectionVars false
variable [Lz]
theorem bsO_size (a : List UInt8) : (bsO a).size = a.length := rfl
theorem bsO_toList (a : List UInt8) : (bsO a).toList = a := by rw [ByteArray.toList_eq]; rfl
theorem bsO_append (a b : List UInt8) : bsO a ++ bsO b = bsO (a ++ b) := by
 apply ByteArray.ext
 apply Array.toList_inj.1
 simp [bsO]
theorem bsO_extract (a : List UInt8) (i j : Nat) : (bsO a).extract i j = bsO ((a.take j).drop i) := by
 apply ByteArray.ext
 apply Array.toList_inj.1
 simp [bsO, ByteArray.data_extract, List.drop_take]
theorem byteAt_bsO (a : List UInt8) (i : Nat) : byteAt (bsO a) i = ((a.getD i 0).toNat : Int) := rfl
def ltS (a b : List UInt8) : Bool := Op.bytesLess a b
def leS (a b : List UInt8) : Bool := Op.bytesLess a b || a == b
section
variable {P : Program} {Y : Tab} [TabOk P Y] {nb : Nat} {s : St} {dst : Option Tmp} {ty u : TypeId} {pos : String} {af : Array Edge} {gd : Option (Nat × Bool)} {t : TypeId} {x y z : Operand} {a b : List UInt8}
theorem Body.catB (hx : ev1 s x = lit (.string (bsO a))) (hy : ev1 s y = lit (.string (bsO b))) (h : a.length + b.length ≤ 9223372036854775807) : Body P Y nb s ⟨dst, .binOp .add t x y u, ty, pos, af, gd⟩ (lit (.string (bsO (a ++ b)))) [] [] := by
 refine Body.bin hx hy ?_
 show qE (some (decide ((bsO a).size + (bsO b).size ≤ 9223372036854775807), lit (.string (bsO a ++ bsO b)))) = _
 have : decide ((bsO a).size + (bsO b).size ≤ 9223372036854775807) = true := decide_eq_true h
 rw [this, bsO_append]; rfl
theorem Body.seqB (hx : ev1 s x = lit (.string (bsO a))) (hy : ev1 s y = lit (.string (bsO b))) : Body P Y nb s ⟨dst, .binOp .eql t x y u, ty, pos, af, gd⟩ (lit (.bool (decide (a = b)))) [] [] := by
 have := Body.seql (P := P) (Y := Y) (nb := nb) (s := s) (dst := dst) (ty := ty) (u := u) (pos := pos) (af := af) (gd := gd) (t := t) hx hy
 rwa [show decide (bsO a = bsO b) = decide (a = b) by rw [Bool.eq_iff_iff]; simp [bsO_inj]] at this
theorem Body.sneB (hx : ev1 s x = lit (.string (bsO a))) (hy : ev1 s y = lit (.string (bsO b))) : Body P Y nb s ⟨dst, .binOp .neq t x y u, ty, pos, af, gd⟩ (lit (.bool (decide (a ≠ b)))) [] [] := by
 have := Body.sneq (P := P) (Y := Y) (nb := nb) (s := s) (dst := dst) (ty := ty) (u := u) (pos := pos) (af := af) (gd := gd) (t := t) hx hy
 rwa [show decide (bsO a ≠ bsO b) = decide (a ≠ b) by rw [Bool.eq_iff_iff]; simp [bsO_inj]] at this
theorem Body.sleB (hx : ev1 s x = lit (.string (bsO a))) (hy : ev1 s y = lit (.string (bsO b))) : Body P Y nb s ⟨dst, .binOp .leq t x y u, ty, pos, af, gd⟩ (lit (.bool (leS a b))) [] [] := by
 refine Body.bin hx hy ?_
 show qE (some (true, lit (.bool (Op.bytesLess (bsO a).toList (bsO b).toList || (bsO a).toList == (bsO b).toList)))) = _
 rw [bsO_toList, bsO_toList]; rfl
theorem Body.bqB {p q : Bool} (hx : ev1 s x = lit (.bool p)) (hy : ev1 s y = lit (.bool q)) (und : Y.underlying t = some .bool) : Body P Y nb s ⟨dst, .binOp .eql t x y u, ty, pos, af, gd⟩ (lit (.bool (p == q))) [] [] := by
 refine Body.bin hx hy ?_
 have h3 : binQ Y .eql t (lit (.bool p)) (lit (.bool q)) = some (true, lit (.bool (p == q))) := by
  simp only [binQ, lit, und]
 show qE (binW Y .eql t (lookM []) (isNilC y) (lit (.bool p)) (lit (.bool q))) = _
 have h4 : binW Y .eql t (lookM []) (isNilC y) (lit (.bool p)) (lit (.bool q)) = some (true, lit (.bool (p == q))) := by
  unfold binW
  simp only [lit] at h3 ⊢
  simp only [nilQ, nilKind, samePQ, h3]
 rw [h4]; rfl
theorem Body.lenB {at' : TypeId} (hx : ev1 s x = lit (.string (bsO a))) (hu : Y.underlying at' = some .string) : Body P Y nb s ⟨dst, .call ⟨.builtin .len, ⟨[x]⟩, ⟨[at']⟩⟩, ty, pos, af, gd⟩ (lit (.int .i64 ((a.length : Nat) : Int))) [] [] := Body.lenS hx hu
theorem Body.slHB {hi : Operand} {k : IntKind} {n : Int} {j : Nat} (hx : ev1 s x = lit (.string (bsO a))) (hy : ev1 s hi = lit (.int k n)) (hu : Y.underlying t = some .string) (hn : n = (j : Int)) (hj : j ≤ a.length) :
 Body P Y nb s ⟨dst, .slice t x none (some hi) none, ty, pos, af, gd⟩ (lit (.string (bsO (a.take j)))) [] [] := by
 refine Body.pure (lo := 0) (nm := 0) (O0_ok P) ?_ ?_
 ·intro z hz
  have : z = x ∨ z = hi := by simpa [Op.operands] using hz
  rcases this with rfl | rfl
  ·rw [hx]; rfl
  ·rw [hy]; rfl
 ·have e1 : evU (tmpsOf [x, hi]) s x = _ := (evU_own (by simp)).trans hx
  have e2 : evU (tmpsOf [x, hi]) s hi = _ := (evU_own (by simp)).trans hy
  have hv : effV Y 0 dst (.slice t x none (some hi) none) (evU (tmpsOf [x, hi]) s) (lookM []) = liftQ (sliceW Y t (lookM []) (evU (tmpsOf [x, hi]) s x) none (some (evU (tmpsOf [x, hi]) s hi)) none) := rfl
  show (match effV Y 0 dst (.slice t x none (some hi) none) (evU (tmpsOf [x, hi]) s) (lookM []) with | some ⟨true, v, m⟩ => some (v, m) | _ => none) = _
  rw [hv, e1, e2]
  have hq : sliceW Y t (lookM []) (lit (.string (bsO a))) none (some (lit (.int k n))) none = some (true, lit (.string (bsO (a.take j)))) := by
   show sliceQ Y t (lookM []) (lit (.string (bsO a))) none (some (lit (.int k n))) none = _
   unfold sliceQ lit
   simp only [hu, bound, Option.getD_some, Option.getD_none]
   subst hn
   have : decide ((0 : Int) ≤ 0 ∧ (0 : Int) ≤ (j : Int) ∧ (j : Int) ≤ ((bsO a).size : Int)) = true := decide_eq_true ⟨by omega, by omega, by rw [bsO_size]; omega⟩
   rw [this, Int.toNat_natCast, bsO_extract]; rfl
  rw [hq]; rfl
theorem Body.slLB {lo : Operand} {k : IntKind} {n : Int} {i : Nat} (hx : ev1 s x = lit (.string (bsO a))) (hy : ev1 s lo = lit (.int k n)) (hu : Y.underlying t = some .string) (hn : n = (i : Int)) (hi : i ≤ a.length) :
 Body P Y nb s ⟨dst, .slice t x (some lo) none none, ty, pos, af, gd⟩ (lit (.string (bsO (a.drop i)))) [] [] := by
 refine Body.pure (lo := 0) (nm := 0) (O0_ok P) ?_ ?_
 ·intro z hz
  have : z = x ∨ z = lo := by simpa [Op.operands] using hz
  rcases this with rfl | rfl
  ·rw [hx]; rfl
  ·rw [hy]; rfl
 ·have e1 : evU (tmpsOf [x, lo]) s x = _ := (evU_own (by simp)).trans hx
  have e2 : evU (tmpsOf [x, lo]) s lo = _ := (evU_own (by simp)).trans hy
  have hv : effV Y 0 dst (.slice t x (some lo) none none) (evU (tmpsOf [x, lo]) s) (lookM []) = liftQ (sliceW Y t (lookM []) (evU (tmpsOf [x, lo]) s x) (some (evU (tmpsOf [x, lo]) s lo)) none none) := by
   show (match frzU (lookM []) (refsOf (evU (tmpsOf [x, lo]) s) [x]) with
    | [] => stepV Y 0 dst (.slice t x (some lo) none none) (evU (tmpsOf [x, lo]) s) (lookM []) (lookM [])
    | fz => match stepV Y 0 dst (.slice t x (some lo) none none) (evU (tmpsOf [x, lo]) s) (upd fz (lookM [])) (upd fz (lookM [])) with
     | some ⟨s, v, ms⟩ => some ⟨s, v, mrg ms fz⟩
     | none => none) = _
   have hrf : refsOf (evU (tmpsOf [x, lo]) s) [x] = [] := by simp [refsOf, e1, lit, DV.refs]
   rw [hrf]; rfl
  show (match effV Y 0 dst (.slice t x (some lo) none none) (evU (tmpsOf [x, lo]) s) (lookM []) with | some ⟨true, v, m⟩ => some (v, m) | _ => none) = _
  rw [hv, e1, e2]
  have hq : sliceW Y t (lookM []) (lit (.string (bsO a))) (some (lit (.int k n))) none none = some (true, lit (.string (bsO (a.drop i)))) := by
   show sliceQ Y t (lookM []) (lit (.string (bsO a))) (some (lit (.int k n))) none none = _
   unfold sliceQ lit
   simp only [hu, bound, Option.getD_some, Option.getD_none]
   subst hn
   have : decide ((0 : Int) ≤ (i : Int) ∧ (i : Int) ≤ ((bsO a).size : Int) ∧ ((bsO a).size : Int) ≤ ((bsO a).size : Int)) = true := decide_eq_true ⟨by omega, by rw [bsO_size]; omega, by omega⟩
   rw [this, Int.toNat_natCast, Int.toNat_natCast, bsO_extract, bsO_size, List.take_of_length_le (Nat.le_refl _)]
  rw [hq]; rfl
theorem Body.st2neq {a b c d : List UInt8} (hx : ev1 s x = .pv (.agg [.lit (.string (bsO a)), .lit (.string (bsO b))])) (hy : ev1 s y = .pv (.agg [.lit (.string (bsO c)), .lit (.string (bsO d))])) (hf : flatEq Y t = some [.string, .string]) :
 Body P Y nb s ⟨dst, .binOp .neq t x y u, ty, pos, af, gd⟩ (lit (.bool (!(decide (a = c) && decide (b = d))))) [] [] := by
 refine Body.bin hx hy ?_
 have h1 : decide (a = c) = ((bsO a).toList == (bsO c).toList) := by rw [Bool.eq_iff_iff]; simp [toList_inj, bsO_inj]
 have h2 : decide (b = d) = ((bsO b).toList == (bsO d).toList) := by rw [Bool.eq_iff_iff]; simp [toList_inj, bsO_inj]
 have h3 : binQ Y .neq t (.pv (.agg [.lit (.string (bsO a)), .lit (.string (bsO b))])) (.pv (.agg [.lit (.string (bsO c)), .lit (.string (bsO d))])) = some (true, lit (.bool (!(decide (a = c) && decide (b = d))))) := by
  simp only [binQ, hf, eqVs, eqV, h1, h2, Bool.and_true]
 show qE (binW Y .neq t (lookM []) (isNilC y) _ _) = _
 have h4 : binW Y .neq t (lookM []) (isNilC y) (.pv (.agg [.lit (.string (bsO a)), .lit (.string (bsO b))])) (.pv (.agg [.lit (.string (bsO c)), .lit (.string (bsO d))])) = some (true, lit (.bool (!(decide (a = c) && decide (b = d))))) := by
  unfold binW
  simp only [nilQ, nilKind, samePQ, h3]
 rw [h4]; rfl
end
end Go.Lens
end
section
namespace Go.Lens.Tb
open Go.Proofs
variable [Lz]
set_option linter.unusedSectionVars false
set_option maxRecDepth 100000
attribute [local irreducible] TK PK T RG EfR Body
theorem ag34 : aggT tab 34 = some false := by kernel_rfl
theorem sz34 : szT tab 34 = some 1 := by kernel_rfl
theorem un289 : tab.underlying 289 = some (.slice 34) := by kernel_rfl
theorem w101 (b : Bool) (e : Int) : CallOk Tryz.prog 101 [vB b, vI e] (lookM []) (vI (whenF b e)) [] := by
 haveI := tab_ok
 obtain ⟨fn, f1, f2, f3, f4, _, f6⟩ := qf101
 refine callOk_of (Y := tab) (F := fn101) f1 (f2.trans rfl) f3 f4 f6 (Nat.le_of_ble_eq_true rfl) rfl ?_
 clear f1 f2 f3 f4 f6
 show TK _ _ _ _ _ _ ⟨[(0, vB b), (1, vI e)], []⟩
 refine At rfl ?_
 refine NR ⟨[(0, vB b), (1, vI e)], []⟩ (sb rfl rfl rfl) rfl ?_
 refine ag rfl ?_
 refine RN ?_
 refine Ap rfl ?_
 refine NR ⟨[(0, vB b), (1, vI e)], []⟩ (sb rfl rfl rfl) rfl ?_
 refine mv rfl ?_
 refine RN ?_
 refine Ap rfl ?_
 refine TK.norm ⟨[(1, vI e), (5, vB b)], []⟩ (sb rfl rfl rfl) ?_
 refine TK.cond rfl (fun h1 => ?_) (fun h1 => ?_)
 ·
  refine At rfl ?_
  refine NR ⟨[(1, vI e)], []⟩ (sb rfl rfl rfl) rfl ?_
  refine mv rfl ?_
  refine ag rfl ?_
  refine RN ?_
  refine Ap rfl ?_
  refine TK.ret ?_
  refine PK.ret ?_
  refine leaf (val0 := vI e) (by kernel_rfl) ?_
  exact li (by subst h1; rfl)
 ·
  refine At rfl ?_
  refine NR ⟨[], []⟩ (sb rfl rfl rfl) rfl ?_
  refine ag rfl ?_
  refine RN ?_
  refine Ap rfl ?_
  refine TK.ret ?_
  refine PK.ret ?_
  refine leaf (val0 := vI 0) (by kernel_rfl) ?_
  exact li (by subst h1; rfl)
theorem w100 (l : List Int) (hl : l.length ≤ 1000000000000000) : CallOk Tryz.prog 100 [vL eI l] (lookM []) (vI (firstF l)) [] := by
 haveI := tab_ok
 obtain ⟨fn, f1, f2, f3, f4, _, f6⟩ := qf100
 refine callOk_of (Y := tab) (F := fn100) f1 (f2.trans rfl) f3 f4 f6 (Nat.le_of_ble_eq_true rfl) rfl ?_
 clear f1 f2 f3 f4 f6
 show TK _ _ _ _ _ _ ⟨[(0, vL eI l)], []⟩
 refine At rfl ?_
 refine NR ⟨[(0, vL eI l)], []⟩ (sb rfl rfl rfl) rfl ?_
 refine ag rfl ?_
 refine RN ?_
 refine Ap rfl ?_
 refine NR ⟨[(0, vL eI l)], []⟩ (sb rfl rfl rfl) rfl ?_
 refine mv rfl ?_
 refine RO (Body.lenL rfl un289) ?_
 refine mv rfl ?_
 refine RN ?_
 refine Ap rfl ?_
 refine TK.loop (α := Nat) (fun x => ⟨[(5, vL eI l), (6, vI ((List.length l : Nat) : Int)), (7, vI ((x : Nat) : Int))], []⟩) (fun x => x ≤ List.length l ∧ firstF l = firstF (List.drop x l)) (fun x => List.length l - x) 0 ?_ (sb rfl rfl rfl) ?_
 · show 0 ≤ List.length l ∧ firstF l = firstF (List.drop 0 l)
   exact ⟨Nat.zero_le _, rfl⟩
 rintro k hI0
 replace hI0 : k ≤ List.length l ∧ firstF l = firstF (List.drop k l) := hI0
 show TK _ _ _ _ _ _ ⟨[(5, vL eI l), (6, vI ((List.length l : Nat) : Int)), (7, vI ((k : Nat) : Int))], []⟩
 refine At rfl ?_
 refine NR ⟨[(5, vL eI l), (6, vI ((List.length l : Nat) : Int)), (7, vI ((k : Nat) : Int))], []⟩ (sb rfl rfl rfl) rfl ?_
 refine RO (Body.lss rfl rfl) ?_
 refine RN ?_
 refine Ap rfl ?_
 refine TK.norm ⟨[(5, vL eI l), (6, vI ((List.length l : Nat) : Int)), (7, vI ((k : Nat) : Int)), (8, vB (decide (((k : Nat) : Int) < ((List.length l : Nat) : Int))))], []⟩ (sb rfl rfl rfl) ?_
 refine TK.condP rfl (fun h1 => ?_) (fun h1 => ?_)
 ·
  refine At rfl ?_
  refine NR ⟨[(5, vL eI l), (6, vI ((List.length l : Nat) : Int)), (7, vI ((k : Nat) : Int))], []⟩ (sb rfl rfl rfl) rfl ?_
  refine RO (Body.idx (z := 0) (i := k) rfl rfl un289 sz34 (fun _ => rfl) rfl (by omega)) ?_
  refine RO (Body.loadP rfl ag34 sz34) ?_
  refine ag rfl ?_
  refine RN ?_
  refine Ap rfl ?_
  refine NR ⟨[(4, vI (List.getD l k 0)), (5, vL eI l), (6, vI ((List.length l : Nat) : Int)), (7, vI ((k : Nat) : Int))], []⟩ (sb rfl rfl rfl) rfl ?_
  refine mv rfl ?_
  refine RO (Body.neq rfl rfl) ?_
  refine RN ?_
  refine Ap rfl ?_
  refine TK.norm ⟨[(4, vI (List.getD l k 0)), (5, vL eI l), (6, vI ((List.length l : Nat) : Int)), (7, vI ((k : Nat) : Int)), (12, vB (decide ((List.getD l k 0) ≠ 0)))], []⟩ (sb rfl rfl rfl) ?_
  refine TK.condP rfl (fun h2 => ?_) (fun h2 => ?_)
  ·
   refine At rfl ?_
   refine NR ⟨[(4, vI (List.getD l k 0))], []⟩ (sb rfl rfl rfl) rfl ?_
   refine mv rfl ?_
   refine ag rfl ?_
   refine RN ?_
   refine Ap rfl ?_
   refine TK.ret ?_
   refine PK.ret ?_
   refine leaf (val0 := vI (List.getD l k 0)) (by kernel_rfl) ?_
   exact li (by first | (rw [hI0.2, drop_at l k 0 (by omega), firstF, if_neg (by omega)]) | (rw [hI0.2, List.drop_eq_nil_of_le (by omega)]; rfl))
  ·
   refine At rfl ?_
   refine NR ⟨[(5, vL eI l), (6, vI ((List.length l : Nat) : Int)), (7, vI ((k : Nat) : Int))], []⟩ (sb rfl rfl rfl) rfl ?_
   refine RO (Body.add rfl rfl (by unfold R64; omega)) ?_
   refine mv rfl ?_
   refine RN ?_
   refine Aq rfl ?_
   refine PK.lp ?_
   refine LP.mk (k + 1) ?_ ?_ (sb rfl rfl rfl)
   · show (k + 1) ≤ List.length l ∧ firstF l = firstF (List.drop (k + 1) l)
     refine ⟨by omega, ?_⟩; rw [hI0.2, drop_at l k 0 (by omega), firstF, if_pos (by omega)]
   · show List.length l - (k + 1) < List.length l - k
     omega
 ·
  refine At rfl ?_
  refine TK.exit ?_
  refine PK.exit rfl ?_
  refine Ap rfl ?_
  refine NR ⟨[], []⟩ (sb rfl rfl rfl) rfl ?_
  refine ag rfl ?_
  refine RN ?_
  refine Ap rfl ?_
  refine TK.ret ?_
  refine PK.ret ?_
  refine leaf (val0 := vI 0) (by kernel_rfl) ?_
  exact li (by first | (rw [hI0.2, drop_at l k 0 (by omega), firstF, if_neg (by omega)]) | (rw [hI0.2, List.drop_eq_nil_of_le (by omega)]; rfl))
end Go.Lens.Tb
end
section
namespace Go.Lens.Tb
set_option linter.unusedSectionVars false
theorem bnot_t {b : Bool} (h : (!b) = true) : b = false := by cases b <;> first | rfl | cases h
theorem bnot_f {b : Bool} (h : (!b) = false) : b = true := by cases b <;> first | rfl | cases h
def letterF (c : Int) : Bool := (decide (97 ≤ c) && decide (c ≤ 122)) || (decide (65 ≤ c) && decide (c ≤ 90))
def nameAt (i : Nat) (c : Int) : Bool := letterF c || (!decide ((i : Int) = 0) && ((decide (48 ≤ c) && decide (c ≤ 57)) || decide (c = 95)))
def isNameF (s : ByteArray) : Bool := decide (1 ≤ s.size) && decide (s.size ≤ 24) && (List.range s.size).all fun i => nameAt i (byteAt s i)
theorem nm8 : ∀ a b c d z e f g : Bool, (bif !(bif (bif a then b else false) then true else (bif c then d else false)) then (bif z then true else !(bif (bif e then f else false) then true else g)) else false) = !(((a && b) || (c && d)) || (!z && ((e && f) || g))) := by decide
theorem isName_no {s : ByteArray} (k : Nat) (hk : k < s.size) (h : nameAt k (byteAt s k) = false) : isNameF s = false := by
  unfold isNameF
  have : ((List.range s.size).all fun i => nameAt i (byteAt s i)) = false := by
    rw [List.all_eq_false]
    exact ⟨k, List.mem_range.2 hk, by simp [h]⟩
  rw [this, Bool.and_false]
theorem isName_yes {s : ByteArray} (h1 : 1 ≤ s.size) (h2 : s.size ≤ 24) (h : ∀ j, j < s.size → nameAt j (byteAt s j) = true) : isNameF s = true := by
  unfold isNameF
  rw [decide_eq_true h1, decide_eq_true h2]
  simp only [Bool.true_and, List.all_eq_true, List.mem_range]
  exact h
theorem isName_len {s : ByteArray} (h : s.size < 1 ∨ 24 < s.size) : isNameF s = false := by
  unfold isNameF
  rcases h with h | h
  · rw [decide_eq_false (by omega)]; simp
  · rw [decide_eq_false (p := s.size ≤ 24) (by omega)]; simp
def findI {α : Type} (p : α → Bool) : List α → Int
  | [] => -1
  | a :: l => bif p a then 0 else (bif decide (findI p l < 0) then -1 else findI p l + 1)
section
variable {α : Type} {p : α → Bool} {z : α}
theorem findI_none : ∀ {l : List α}, (∀ j, j < l.length → p (l.getD j z) = false) → findI p l = -1
  | [], _ => rfl
  | a :: l, h => by
    have h0 := h 0 (by simp)
    have h1 := findI_none (l := l) fun j hj => h (j + 1) (by simpa using hj)
    simp only [List.getD_cons_zero] at h0
    simp [findI, h0, h1]
theorem findI_some : ∀ {l : List α} (k : Nat), k < l.length → (∀ j, j < k → p (l.getD j z) = false) → p (l.getD k z) = true → findI p l = k
  | [], k, hk, _, _ => by simp at hk
  | a :: l, 0, _, _, h => by
    simp only [List.getD_cons_zero] at h
    simp [findI, h]
  | a :: l, k + 1, hk, hj, h => by
    have h0 := hj 0 (by omega)
    have h1 := findI_some (l := l) k (by simpa using hk) (fun j hj' => hj (j + 1) (by omega)) h
    simp only [List.getD_cons_zero] at h0
    simp only [findI, h0, h1, cond_false]
    rw [decide_eq_false (by omega)]; simp
theorem findI_nonneg : ∀ (l : List α), decide (0 ≤ findI p l) = l.any p
  | [] => rfl
  | a :: l => by
    have ih := findI_nonneg l
    simp only [findI, List.any_cons]
    by_cases hp : p a = true
    · simp only [hp, cond_true, Bool.true_or]; rfl
    · rw [Bool.not_eq_true] at hp
      simp only [hp, cond_false, Bool.false_or]
      rw [← ih]
      by_cases h : findI p l < 0
      · rw [decide_eq_true h, decide_eq_false (p := 0 ≤ findI p l) (by omega)]; rfl
      · rw [decide_eq_false h, decide_eq_true (p := 0 ≤ findI p l) (by omega)]
        exact decide_eq_true (by simp only [cond_false]; omega)
end
def inRangeF (t : Tgt) : Bool := !outF t.bright 1 1000 && !outF t.place 0 360 && !outF t.length 1 1440 && !outF t.from_ 0 1440 && !outF t.to 0 1440 && !outF t.limit 0 100
def chkNightF (start : Int) (W : List Int) : Int := bif outF start 0 1440 then 3 else bif decide (W.length = 0) then 12 else bif decide (24 < W.length) then 5 else bif W.any (fun x => outF x 0 100) then 3 else 0
def chkOne (pre : List Tgt) (t : Tgt) : Int := bif !isNameF t.name then 8 else bif pre.any (fun o => decide (o.name = t.name)) then 9 else bif !inRangeF t then 3 else 0
def chkGo : List Tgt → List Tgt → Int
  | _, [] => 0
  | pre, t :: r => if chkOne pre t = 0 then chkGo (pre ++ [t]) r else chkOne pre t
def chkTgtsF (l : List Tgt) : Int := bif decide (32 < l.length) then 5 else chkGo [] l
def ordOne (n : Int) (pre : List Int) (i : Int) : Int := bif outF i 0 (n - 1) then 10 else bif pre.any (fun j => decide (j = i)) then 9 else 0
def ordGo (n : Int) : List Int → List Int → Int
  | _, [] => 0
  | pre, t :: r => if ordOne n pre t = 0 then ordGo n (pre ++ [t]) r else ordOne n pre t
def chkOrdF (n : Int) (o : List Int) : Int := ordGo n [] o
def calmM (W : List Int) (lim b : Int) (n : Nat) : Bool := (List.range n).all fun j => decide (W.getD ((b + (j : Int)) / 60).toNat 0 ≤ lim)
def canF (W : List Int) (t : Tgt) (b : Int) : Bool := !(decide (b < t.from_)) && !(decide (t.to < b + t.length)) && !(decide (60 * (W.length : Int) < b + t.length)) && calmM W t.limit b t.length.toNat
def searchF (p : Int → Bool) (b : Int) : Nat → Int
  | 0 => -1
  | n + 1 => bif p b then b else searchF p (b + 1) n
def begF (W : List Int) (t : Tgt) (e : Int) : Int := searchF (canF W t) e (1441 - e).toNat
def shortN (W : List Int) : Bool := decide ((W.length : Int) ≤ 6) || (decide (24 < (W.length : Int)) && decide ((W.length : Int) ≤ 26))
def shortT (l : List Tgt) (k limit : Int) : Bool := bif ((decide (k < (l.length : Int)) && decide ((l.length : Int) ≤ limit)) || decide (34 < (l.length : Int))) then false else l.all fun t => decide (t.name.size ≤ 40)
def tlGo (W : List Int) (l : List Tgt) : Option Tgt → Int → List Int → Option (List Int)
  | _, _, [] => some []
  | prev, at_, i :: r =>
    let t := l.getD i.toNat default
    let b := begF W t (match prev with | none => at_ | some p => at_ + apartF t.place p.place)
    if b < 0 then none else (tlGo W l (some t) (b + t.length) r).map (b :: ·)
def tlF (start : Int) (W : List Int) (l : List Tgt) (order : List Int) : Option (List Int) := tlGo W l none start order
end Go.Lens.Tb
end
section
namespace Go.Lens.Tb
open Go.Proofs
variable [Lz]
set_option linter.unusedSectionVars false
set_option maxRecDepth 100000
attribute [local irreducible] TK PK T RG EfR Body
theorem ag9 : aggT tab 9 = some false := by kernel_rfl
theorem sz9 : szT tab 9 = some 1 := by kernel_rfl
theorem un9 : tab.underlying 9 = some (.string) := by kernel_rfl
theorem w94 (s : ByteArray) : CallOk Tryz.prog 94 [vS s] (lookM []) (vB (isNameF s)) [] := by
 haveI := tab_ok
 obtain ⟨fn, f1, f2, f3, f4, _, f6⟩ := qf94
 refine callOk_of (Y := tab) (F := fn94) f1 (f2.trans rfl) f3 f4 f6 (Nat.le_of_ble_eq_true rfl) rfl ?_
 clear f1 f2 f3 f4 f6
 show TK _ _ _ _ _ _ ⟨[(0, vS s)], []⟩
 refine At rfl ?_
 refine NR ⟨[(0, vS s)], []⟩ (sb rfl rfl rfl) rfl ?_
 refine ag rfl ?_
 refine RN ?_
 refine Ap rfl ?_
 refine NR ⟨[(0, vS s)], []⟩ (sb rfl rfl rfl) rfl ?_
 refine mv rfl ?_
 refine RO (Body.lenS rfl un9) ?_
 refine RO (Body.lss rfl rfl) ?_
 refine mv rfl ?_
 refine RG.cons (EfR.sym rfl (fun hc => Body.move rfl) rfl) ?_
 refine RG.cons (EfR.sym rfl (fun hc => Body.lenS (ev1_gd rfl hc) un9) rfl) ?_
 refine RG.cons (EfR.sym rfl (fun hc => Body.gtr (ev1_gd rfl hc) rfl) rfl) ?_
 refine RO (Body.pick rfl rfl rfl rfl (gdB rfl) (pick_or _)) ?_
 refine RN ?_
 refine Ap rfl ?_
 refine TK.norm ⟨[(0, vS s), (13, vB (bif (decide (((ByteArray.size s : Nat) : Int) < 1)) then true else (decide (24 < ((ByteArray.size s : Nat) : Int)))))], []⟩ (sb rfl rfl rfl) ?_
 refine TK.cond rfl (fun h1 => ?_) (fun h1 => ?_)
 ·
  refine At rfl ?_
  refine NR ⟨[], []⟩ (sb rfl rfl rfl) rfl ?_
  refine ag rfl ?_
  refine RN ?_
  refine Ap rfl ?_
  refine TK.ret ?_
  refine PK.ret ?_
  refine leaf (val0 := vB false) (by kernel_rfl) ?_
  exact lb (by first | (refine (isName_len ?_).symm; simp only [bif_or, Bool.or_eq_true, decide_eq_true_eq] at h1; omega) | (exact (isName_no k (by omega) (bnot_t ((nm8 _ _ _ _ _ _ _ _).symm.trans h3))).symm) | exact (isName_yes hI0.2.1 hI0.2.2.1 fun j hj => hI0.2.2.2 j (by omega)).symm)
 ·
  refine At rfl ?_
  refine NR ⟨[(0, vS s)], []⟩ (sb rfl rfl rfl) rfl ?_
  refine ag rfl ?_
  refine RN ?_
  refine Ap rfl ?_
  refine TK.loop (α := Nat) (fun x => ⟨[(0, vS s), (3, vI ((x : Nat) : Int))], []⟩) (fun x => x ≤ ByteArray.size s ∧ 1 ≤ ByteArray.size s ∧ ByteArray.size s ≤ 24 ∧ ∀ j, j < x → nameAt j (byteAt s j) = true) (fun x => ByteArray.size s - x) 0 ?_ (sb rfl rfl rfl) ?_
  · show 0 ≤ ByteArray.size s ∧ 1 ≤ ByteArray.size s ∧ ByteArray.size s ≤ 24 ∧ ∀ j, j < 0 → nameAt j (byteAt s j) = true
    simp only [bif_or, Bool.or_eq_false_iff, decide_eq_false_iff_not] at h1; exact ⟨by omega, by omega, by omega, fun j hj => by omega⟩
  rintro k hI0
  replace hI0 : k ≤ ByteArray.size s ∧ 1 ≤ ByteArray.size s ∧ ByteArray.size s ≤ 24 ∧ ∀ j, j < k → nameAt j (byteAt s j) = true := hI0
  show TK _ _ _ _ _ _ ⟨[(0, vS s), (3, vI ((k : Nat) : Int))], []⟩
  refine At rfl ?_
  refine NR ⟨[(0, vS s), (3, vI ((k : Nat) : Int))], []⟩ (sb rfl rfl rfl) rfl ?_
  refine mv rfl ?_
  refine mv rfl ?_
  refine RO (Body.lenS rfl un9) ?_
  refine RO (Body.lss rfl rfl) ?_
  refine RN ?_
  refine Ap rfl ?_
  refine TK.norm ⟨[(0, vS s), (3, vI ((k : Nat) : Int)), (17, vB (decide (((k : Nat) : Int) < ((ByteArray.size s : Nat) : Int))))], []⟩ (sb rfl rfl rfl) ?_
  refine TK.condP rfl (fun h2 => ?_) (fun h2 => ?_)
  ·
   refine At rfl ?_
   refine NR ⟨[(0, vS s), (3, vI ((k : Nat) : Int))], []⟩ (sb rfl rfl rfl) rfl ?_
   refine mv rfl ?_
   refine mv rfl ?_
   refine RO (Body.sidx (i := k) rfl rfl un9 rfl (by omega)) ?_
   refine ag rfl ?_
   refine RN ?_
   refine Ap rfl ?_
   refine NR ⟨[(0, vS s), (3, vI ((k : Nat) : Int)), (4, .pv (.lit (.int .u8 (byteAt s k))))], []⟩ (sb rfl rfl rfl) rfl ?_
   refine mv rfl ?_
   refine RO (Body.geq rfl rfl) ?_
   refine mv rfl ?_
   refine RG.cons (EfR.sym rfl (fun hc => Body.move rfl) rfl) ?_
   refine RG.cons (EfR.sym rfl (fun hc => Body.leq (ev1_gd rfl hc) rfl) rfl) ?_
   refine RO (Body.pick rfl rfl rfl (gdB rfl) rfl (pick_and _)) ?_
   refine mv rfl ?_
   refine RG.cons (EfR.sym rfl (fun hc => Body.move rfl) rfl) ?_
   refine RG.cons (EfR.sym rfl (fun hc => Body.geq (ev1_gd rfl hc) rfl) rfl) ?_
   refine RG.cons (EfR.sym rfl (fun hc => Body.move (ev1_gd rfl hc)) rfl) ?_
   refine RG.cons (EfR.sym rfl (fun hc => Body.move rfl) rfl) ?_
   refine RG.cons (EfR.sym rfl (fun hc => Body.leq (ev1_gd rfl hc) rfl) rfl) ?_
   refine RG.cons (EfR.sym rfl (fun hc => Body.pick (ev1_gd rfl hc) rfl rfl (gdB rfl) rfl (pick_and2 hc)) rfl) ?_
   refine RO (Body.pick rfl rfl rfl rfl (gdB rfl) (pick_or _)) ?_
   refine ag rfl ?_
   refine RN ?_
   refine Ap rfl ?_
   refine NR ⟨[(0, vS s), (3, vI ((k : Nat) : Int)), (4, .pv (.lit (.int .u8 (byteAt s k)))), (5, vB (bif (bif (decide (97 ≤ (byteAt s k))) then (decide ((byteAt s k) ≤ 122)) else false) then true else (bif (decide (65 ≤ (byteAt s k))) then (decide ((byteAt s k) ≤ 90)) else false)))], []⟩ (sb rfl rfl rfl) rfl ?_
   refine mv rfl ?_
   refine RO (Body.not rfl) ?_
   refine mv rfl ?_
   refine RG.cons (EfR.sym rfl (fun hc => Body.move rfl) rfl) ?_
   refine RG.cons (EfR.sym rfl (fun hc => Body.eql (ev1_gd rfl hc) rfl) rfl) ?_
   refine RG.cons (EfR.sym rfl (fun hc => Body.move (ev1_gd rfl hc)) rfl) ?_
   refine RG.cons (EfR.sym rfl (fun hc => Body.move rfl) rfl) ?_
   refine RG.cons (EfR.sym rfl (fun hc => Body.geq (ev1_gd rfl hc) rfl) rfl) ?_
   refine RG.cons (EfR.sym rfl (fun hc => Body.move (ev1_gd rfl hc)) rfl) ?_
   refine RG.cons (EfR.sym rfl (fun hc => Body.move rfl) rfl) ?_
   refine RG.cons (EfR.sym rfl (fun hc => Body.leq (ev1_gd rfl hc) rfl) rfl) ?_
   refine RG.cons (EfR.sym rfl (fun hc => Body.pick (ev1_gd rfl hc) rfl rfl (gdB rfl) rfl (pick_and2 hc)) rfl) ?_
   refine RG.cons (EfR.sym rfl (fun hc => Body.move (ev1_gd rfl hc)) rfl) ?_
   refine RG.cons (EfR.sym rfl (fun hc => Body.move rfl) rfl) ?_
   refine RG.cons (EfR.sym rfl (fun hc => Body.eql (ev1_gd rfl hc) rfl) rfl) ?_
   refine RG.cons (EfR.sym rfl (fun hc => Body.pick (ev1_gd rfl hc) rfl rfl rfl (gdB rfl) (pick_or2 hc)) rfl) ?_
   refine RG.cons (EfR.sym rfl (fun hc => Body.not (ev1_gd rfl hc)) rfl) ?_
   refine RG.cons (EfR.sym rfl (fun hc => Body.pick (ev1_gd rfl hc) rfl rfl rfl (gdB rfl) (pick_or2 hc)) rfl) ?_
   refine RO (Body.pick rfl rfl rfl (gdB rfl) rfl (pick_and _)) ?_
   refine RN ?_
   refine Ap rfl ?_
   refine TK.norm ⟨[(0, vS s), (3, vI ((k : Nat) : Int)), (55, vB (bif (!(bif (bif (decide (97 ≤ (byteAt s k))) then (decide ((byteAt s k) ≤ 122)) else false) then true else (bif (decide (65 ≤ (byteAt s k))) then (decide ((byteAt s k) ≤ 90)) else false))) then (bif (decide (((k : Nat) : Int) = 0)) then true else (!(bif (bif (decide (48 ≤ (byteAt s k))) then (decide ((byteAt s k) ≤ 57)) else false) then true else (decide ((byteAt s k) = 95))))) else false))], []⟩ (sb rfl rfl rfl) ?_
   refine TK.cond rfl (fun h3 => ?_) (fun h3 => ?_)
   ·
    refine At rfl ?_
    refine NR ⟨[], []⟩ (sb rfl rfl rfl) rfl ?_
    refine ag rfl ?_
    refine RN ?_
    refine Ap rfl ?_
    refine TK.ret ?_
    refine PK.ret ?_
    refine leaf (val0 := vB false) (by kernel_rfl) ?_
    exact lb (by first | (refine (isName_len ?_).symm; simp only [bif_or, Bool.or_eq_true, decide_eq_true_eq] at h1; omega) | (exact (isName_no k (by omega) (bnot_t ((nm8 _ _ _ _ _ _ _ _).symm.trans h3))).symm) | exact (isName_yes hI0.2.1 hI0.2.2.1 fun j hj => hI0.2.2.2 j (by omega)).symm)
   ·
    refine At rfl ?_
    refine NR ⟨[(0, vS s), (3, vI ((k : Nat) : Int))], []⟩ (sb rfl rfl rfl) rfl ?_
    refine mv rfl ?_
    refine RO (Body.add rfl rfl (by unfold R64; omega)) ?_
    refine ag rfl ?_
    refine RN ?_
    refine Aq rfl ?_
    refine PK.lp ?_
    refine LP.mk (k + 1) ?_ ?_ (sb rfl rfl rfl)
    · show (k + 1) ≤ ByteArray.size s ∧ 1 ≤ ByteArray.size s ∧ ByteArray.size s ≤ 24 ∧ ∀ j, j < (k + 1) → nameAt j (byteAt s j) = true
      refine ⟨by omega, hI0.2.1, hI0.2.2.1, fun j hj => ?_⟩; rcases Nat.lt_succ_iff_lt_or_eq.1 hj with h | h; exact hI0.2.2.2 j h; subst h; exact bnot_f ((nm8 _ _ _ _ _ _ _ _).symm.trans h3)
    · show ByteArray.size s - (k + 1) < ByteArray.size s - k
      omega
  ·
   refine At rfl ?_
   refine TK.exit ?_
   refine PK.exit rfl ?_
   refine Ap rfl ?_
   refine NR ⟨[], []⟩ (sb rfl rfl rfl) rfl ?_
   refine ag rfl ?_
   refine RN ?_
   refine Ap rfl ?_
   refine TK.ret ?_
   refine PK.ret ?_
   refine leaf (val0 := vB true) (by kernel_rfl) ?_
   exact lb (by first | (refine (isName_len ?_).symm; simp only [bif_or, Bool.or_eq_true, decide_eq_true_eq] at h1; omega) | (exact (isName_no k (by omega) (bnot_t ((nm8 _ _ _ _ _ _ _ _).symm.trans h3))).symm) | exact (isName_yes hI0.2.1 hI0.2.2.1 fun j hj => hI0.2.2.2 j (by omega)).symm)
end Go.Lens.Tb
end
section
namespace Go.Lens.Tb
open Go.Proofs
variable [Lz]
set_option linter.unusedSectionVars false
set_option maxRecDepth 100000
attribute [local irreducible] TK PK T RG EfR Body
end Go.Lens.Tb
end
section
namespace Go.Lens.Tb
open Go.Proofs
variable [Lz]
set_option linter.unusedSectionVars false
set_option maxRecDepth 100000
attribute [local irreducible] TK PK T RG EfR Body
end Go.Lens.Tb
end
section
namespace Go.Lens.Tb
set_option linter.unusedSectionVars false
abbrev VT (t : Tgt) : Prop := 1 ≤ t.bright ∧ t.bright ≤ 1000 ∧ 0 ≤ t.place ∧ t.place ≤ 360 ∧ 1 ≤ t.length ∧ t.length ≤ 1440 ∧ 0 ≤ t.from_ ∧ t.from_ ≤ 1440 ∧ 0 ≤ t.to ∧ t.to ≤ 1440 ∧ 0 ≤ t.limit ∧ t.limit ≤ 100
abbrev VI (l : List Tgt) (n : Int) : Prop := 0 ≤ n ∧ n < (l.length : Int) ∧ VT (l.getD n.toNat default)
theorem getD_mem {α : Type} {l : List α} {k : Nat} {z : α} (h : k < l.length) : l.getD k z ∈ l := by
  rw [List.getD_eq_getElem?_getD, List.getElem?_eq_getElem h]; exact List.getElem_mem h
def prevT (l : List Tgt) (o : List Int) (i : Nat) : Option Tgt := if i = 0 then none else some (l.getD (o.getD (i - 1) 0).toNat default)
def startA (prev : Option Tgt) (t : Tgt) (a : Int) : Int := match prev with | none => a | some p => a + apartF t.place p.place
end Go.Lens.Tb
end
section
namespace Go.Lens.Tb
open Go.Proofs
variable [Lz]
set_option linter.unusedSectionVars false
set_option maxRecDepth 100000
attribute [local irreducible] TK PK T RG EfR Body
end Go.Lens.Tb
end
section
namespace Go.Lens.Tb
set_option linter.unusedSectionVars false
theorem byteAt_get {s : ByteArray} {p : Nat} (h : p < s.size) : byteAt s p = ((s[p]'h).toNat : Int) := by
  unfold byteAt
  have h' : p < s.data.toList.length := by simpa using h
  rw [List.getD_eq_getElem?_getD, List.getElem?_eq_getElem h']
  simp [ByteArray.getElem_eq_getElem_data]
theorem nameAt_high {p : Nat} {c : Int} (h : 128 ≤ c) : nameAt p c = false := by
  unfold nameAt letterF
  rw [decide_eq_false (p := c ≤ 122) (by omega), decide_eq_false (p := c ≤ 90) (by omega), decide_eq_false (p := c ≤ 57) (by omega), decide_eq_false (p := c = 95) (by omega)]
  simp
theorem rune_name {s : ByteArray} {p : Nat} (h : p < s.size) : nameAt p (((Utf8.decode s p).1 : Nat) : Int) = nameAt p (byteAt s p) ∧ (nameAt p (byteAt s p) = true → (Utf8.decode s p).2 = 1) := by
  rw [byteAt_get h]
  rcases Nat.lt_or_ge (s[p]'h).toNat 128 with ha | ha
  · rw [decode_ascii s p h ha]
    exact ⟨rfl, fun _ => rfl⟩
  · have := decode_high s p h ha
    rw [nameAt_high (by omega), nameAt_high (by omega)]
    exact ⟨rfl, fun h => by cases h⟩
theorem nm8r : ∀ L z n95 l48 g57 : Bool, (bif !L then (bif z then true else (bif n95 then (bif l48 then true else g57) else false)) else false) = !(L || (!z && ((!l48 && !g57) || !n95))) := by decide
theorem nameAt_r (p : Nat) (c : Int) : (letterF c || (!decide ((p : Int) = 0) && ((!decide (c < 48) && !decide (57 < c)) || !decide (c ≠ 95)))) = nameAt p c := by
  unfold nameAt
  congr 2
  have h1 : (!decide (c < 48)) = decide (48 ≤ c) := by rw [Bool.eq_iff_iff]; simp
  have h2 : (!decide (57 < c)) = decide (c ≤ 57) := by rw [Bool.eq_iff_iff]; simp
  have h3 : (!decide (c ≠ 95)) = decide (c = 95) := by rw [Bool.eq_iff_iff]; simp
  rw [h1, h2, h3]
theorem rune_cond {s : ByteArray} {p : Nat} (h : p < s.size) {c : Int} (hc : c = (((Utf8.decode s p).1 : Nat) : Int)) {b : Bool}
    (hb : (bif !(letterF c) then (bif decide ((p : Int) = 0) then true else (bif decide (c ≠ 95) then (bif decide (c < 48) then true else decide (57 < c)) else false)) else false) = b) : nameAt p (byteAt s p) = !b := by
  rw [nm8r, nameAt_r, hc, (rune_name h).1] at hb
  rw [← hb, Bool.not_not]
theorem empty_iff {s : ByteArray} : s = ⟨#[]⟩ ↔ s.size = 0 := by
  constructor
  · rintro rfl; rfl
  · intro h; exact ByteArray.ext (Array.eq_empty_of_size_eq_zero h)
end Go.Lens.Tb
end
section
namespace Go.Lens.Tb
open Go.Proofs
variable [Lz]
set_option linter.unusedSectionVars false
set_option maxRecDepth 100000
attribute [local irreducible] TK PK T RG EfR Body
theorem w241 (c : Int) : CallOk Tryz.prog 241 [.pv (.lit (.int .i32 c))] (lookM []) (vB (letterF c)) [] := by
 haveI := tab_ok
 obtain ⟨fn, f1, f2, f3, f4, _, f6⟩ := qf241
 refine callOk_of (Y := tab) (F := fn241) f1 (f2.trans rfl) f3 f4 f6 (Nat.le_of_ble_eq_true rfl) rfl ?_
 clear f1 f2 f3 f4 f6
 show TK _ _ _ _ _ _ ⟨[(0, .pv (.lit (.int .i32 c)))], []⟩
 refine At rfl ?_
 refine NR ⟨[(0, .pv (.lit (.int .i32 c)))], []⟩ (sb rfl rfl rfl) rfl ?_
 refine ag rfl ?_
 refine RN ?_
 refine Ap rfl ?_
 refine NR ⟨[(0, .pv (.lit (.int .i32 c)))], []⟩ (sb rfl rfl rfl) rfl ?_
 refine mv rfl ?_
 refine RO (Body.geq rfl rfl) ?_
 refine mv rfl ?_
 refine RG.cons (EfR.sym rfl (fun hc => Body.move rfl) rfl) ?_
 refine RG.cons (EfR.sym rfl (fun hc => Body.leq (ev1_gd rfl hc) rfl) rfl) ?_
 refine RO (Body.pick rfl rfl rfl (gdB rfl) rfl (pick_and _)) ?_
 refine mv rfl ?_
 refine RG.cons (EfR.sym rfl (fun hc => Body.move rfl) rfl) ?_
 refine RG.cons (EfR.sym rfl (fun hc => Body.geq (ev1_gd rfl hc) rfl) rfl) ?_
 refine RG.cons (EfR.sym rfl (fun hc => Body.move (ev1_gd rfl hc)) rfl) ?_
 refine RG.cons (EfR.sym rfl (fun hc => Body.move rfl) rfl) ?_
 refine RG.cons (EfR.sym rfl (fun hc => Body.leq (ev1_gd rfl hc) rfl) rfl) ?_
 refine RG.cons (EfR.sym rfl (fun hc => Body.pick (ev1_gd rfl hc) rfl rfl (gdB rfl) rfl (pick_and2 hc)) rfl) ?_
 refine RO (Body.pick rfl rfl rfl rfl (gdB rfl) (pick_or _)) ?_
 refine ag rfl ?_
 refine RN ?_
 refine Ap rfl ?_
 refine TK.ret ?_
 refine PK.ret ?_
 refine leaf (val0 := vB (bif (bif (decide (97 ≤ c)) then (decide (c ≤ 122)) else false) then true else (bif (decide (65 ≤ c)) then (decide (c ≤ 90)) else false))) (by kernel_rfl) ?_
 exact lb (by simp only [letterF, bif_or, bif_and])
theorem w164 (s : ByteArray) : CallOk Tryz.prog 164 [vS s] (lookM []) (vB (isNameF s)) [] := by
 haveI := tab_ok
 obtain ⟨fn, f1, f2, f3, f4, _, f6⟩ := qf164
 refine callOk_of (Y := tab) (F := fn164) f1 (f2.trans rfl) f3 f4 f6 (Nat.le_of_ble_eq_true rfl) rfl ?_
 clear f1 f2 f3 f4 f6
 show TK _ _ _ _ _ _ ⟨[(0, vS s)], []⟩
 refine At rfl ?_
 refine NR ⟨[(0, vS s)], []⟩ (sb rfl rfl rfl) rfl ?_
 refine ag rfl ?_
 refine RN ?_
 refine Ap rfl ?_
 refine NR ⟨[(0, vS s)], []⟩ (sb rfl rfl rfl) rfl ?_
 refine mv rfl ?_
 refine RO (Body.rangeS rfl un9 rfl rfl) ?_
 refine RN ?_
 refine Ap rfl ?_
 refine TK.loop (α := Nat) (fun x => ⟨[(0, vS s), (6, .bref 7 0)], [(7, .siter s x)]⟩) (fun x => x ≤ ByteArray.size s ∧ ∀ j, j < x → nameAt j (byteAt s j) = true) (fun x => ByteArray.size s - x) 0 ?_ (sb rfl rfl rfl) ?_
 · show 0 ≤ ByteArray.size s ∧ ∀ j, j < 0 → nameAt j (byteAt s j) = true
   exact ⟨Nat.zero_le _, fun j hj => by omega⟩
 rintro p hI0
 replace hI0 : p ≤ ByteArray.size s ∧ ∀ j, j < p → nameAt j (byteAt s j) = true := hI0
 show TK _ _ _ _ _ _ ⟨[(0, vS s), (6, .bref 7 0)], [(7, .siter s p)]⟩
 refine At rfl ?_
 refine NR ⟨[(0, vS s), (6, .bref 7 0)], [(7, .siter s p)]⟩ (sb rfl rfl rfl) rfl ?_
 refine RG.next rfl rfl rfl (fun h1 => ?_) (fun h1 => ?_)
 ·
  refine rn rfl ?_
  refine RN ?_
  refine Ap rfl ?_
  refine TK.norm ⟨[(0, vS s), (6, .bref 7 0), (7, .tup [vB true, vI ((p : Nat) : Int), .pv (.lit (.int .i32 (((Utf8.decode s p).1 : Nat) : Int)))]), (8, vB true)], [(7, .siter s (p + (Utf8.decode s p).2))]⟩ (sb rfl rfl rfl) ?_
  refine TK.condT rfl ?_
  refine At rfl ?_
  refine NR ⟨[(0, vS s), (6, .bref 7 0), (7, .tup [vB true, vI ((p : Nat) : Int), .pv (.lit (.int .i32 (((Utf8.decode s p).1 : Nat) : Int)))])], [(7, .siter s (p + (Utf8.decode s p).2))]⟩ (sb rfl rfl rfl) rfl ?_
  refine rn rfl ?_
  refine rn rfl ?_
  refine ag rfl ?_
  refine ag rfl ?_
  refine RN ?_
  refine Ap rfl ?_
  refine NR ⟨[(0, vS s), (3, vI ((p : Nat) : Int)), (4, .pv (.lit (.int .i32 (((Utf8.decode s p).1 : Nat) : Int)))), (6, .bref 7 0)], [(7, .siter s (p + (Utf8.decode s p).2))]⟩ (sb rfl rfl rfl) rfl ?_
  refine mv rfl ?_
  refine RO (Body.call (w241 (((Utf8.decode s p).1 : Nat) : Int)) rfl rfl rfl) ?_
  refine RO (Body.not rfl) ?_
  refine mv rfl ?_
  refine RG.cons (EfR.sym rfl (fun hc => Body.move rfl) rfl) ?_
  refine RG.cons (EfR.sym rfl (fun hc => Body.eql (ev1_gd rfl hc) rfl) rfl) ?_
  refine RG.cons (EfR.sym rfl (fun hc => Body.move (ev1_gd rfl hc)) rfl) ?_
  refine RG.cons (EfR.sym rfl (fun hc => Body.move rfl) rfl) ?_
  refine RG.cons (EfR.sym rfl (fun hc => Body.neq (ev1_gd rfl hc) rfl) rfl) ?_
  refine RG.cons (EfR.sym rfl (fun hc => Body.move (ev1_gd rfl hc)) rfl) ?_
  refine RG.cons (EfR.sym rfl (fun hc => Body.move rfl) rfl) ?_
  refine RG.cons (EfR.sym rfl (fun hc => Body.lss (ev1_gd rfl hc) rfl) rfl) ?_
  refine RG.cons (EfR.sym rfl (fun hc => Body.move (ev1_gd rfl hc)) rfl) ?_
  refine RG.cons (EfR.sym rfl (fun hc => Body.move rfl) rfl) ?_
  refine RG.cons (EfR.sym rfl (fun hc => Body.gtr (ev1_gd rfl hc) rfl) rfl) ?_
  refine RG.cons (EfR.sym rfl (fun hc => Body.pick (ev1_gd rfl hc) rfl rfl rfl (gdB rfl) (pick_or2 hc)) rfl) ?_
  refine RG.cons (EfR.sym rfl (fun hc => Body.pick (ev1_gd rfl hc) rfl rfl (gdB rfl) rfl (pick_and2 hc)) rfl) ?_
  refine RG.cons (EfR.sym rfl (fun hc => Body.pick (ev1_gd rfl hc) rfl rfl rfl (gdB rfl) (pick_or2 hc)) rfl) ?_
  refine RO (Body.pick rfl rfl rfl (gdB rfl) rfl (pick_and _)) ?_
  refine RN ?_
  refine Ap rfl ?_
  refine TK.norm ⟨[(0, vS s), (6, .bref 7 0), (29, vB (bif (!(letterF (((Utf8.decode s p).1 : Nat) : Int))) then (bif (decide (((p : Nat) : Int) = 0)) then true else (bif (decide ((((Utf8.decode s p).1 : Nat) : Int) ≠ 95)) then (bif (decide ((((Utf8.decode s p).1 : Nat) : Int) < 48)) then true else (decide (57 < (((Utf8.decode s p).1 : Nat) : Int)))) else false)) else false))], [(7, .siter s (p + (Utf8.decode s p).2))]⟩ (sb rfl rfl rfl) ?_
  refine TK.cond rfl (fun h2 => ?_) (fun h2 => ?_)
  ·
   refine At rfl ?_
   refine NR ⟨[], []⟩ (sb rfl rfl rfl) rfl ?_
   refine ag rfl ?_
   refine RN ?_
   refine Ap rfl ?_
   refine TK.ret ?_
   refine PK.ret ?_
   refine leaf (val0 := vB false) (by kernel_rfl) ?_
   exact lb (by first
          | exact (isName_no p h1 (rune_cond h1 rfl h2)).symm
          | (have he : p = ByteArray.size s := by omega
             rw [bif_and]
             by_cases h0 : ByteArray.size s = 0
             · rw [decide_eq_false (p := s ≠ ⟨#[]⟩) (fun h => h (empty_iff.2 h0)), isName_len (.inl (by omega))]; rfl
             · rw [decide_eq_true (p := s ≠ ⟨#[]⟩) (fun h => h0 (empty_iff.1 h))]
               by_cases h9 : ByteArray.size s ≤ 24
               · rw [decide_eq_true (by omega), isName_yes (by omega) h9 fun j hj => hI0.2 j (by omega)]; rfl
               · rw [decide_eq_false (by omega), isName_len (.inr (by omega))]; rfl))
  ·
   refine Au rfl ?_
   refine PK.lp ?_
   refine LP.mk (p + (Utf8.decode s p).2) ?_ ?_ (sb rfl rfl rfl)
   · show (p + (Utf8.decode s p).2) ≤ ByteArray.size s ∧ ∀ j, j < (p + (Utf8.decode s p).2) → nameAt j (byteAt s j) = true
     have hn := rune_cond h1 rfl h2; rw [(rune_name h1).2 hn]; refine ⟨by omega, fun j hj => ?_⟩; rcases Nat.lt_succ_iff_lt_or_eq.1 hj with h | h; exact hI0.2 j h; subst h; exact hn
   · show ByteArray.size s - (p + (Utf8.decode s p).2) < ByteArray.size s - p
     have hn := rune_cond h1 rfl h2; rw [(rune_name h1).2 hn]; omega
 ·
  refine rn rfl ?_
  refine RN ?_
  refine Ap rfl ?_
  refine TK.norm ⟨[(0, vS s), (6, .bref 7 0), (7, .tup [vB false]), (8, vB false)], [(7, .siter s p)]⟩ (sb rfl rfl rfl) ?_
  refine TK.condF rfl ?_
  refine At rfl ?_
  refine TK.exit ?_
  refine PK.exit rfl ?_
  refine Ap rfl ?_
  refine NR ⟨[(0, vS s)], []⟩ (sb rfl rfl rfl) rfl ?_
  refine mv rfl ?_
  refine RO (Body.sneq rfl rfl) ?_
  refine mv rfl ?_
  refine RG.cons (EfR.sym rfl (fun hc => Body.move rfl) rfl) ?_
  refine RG.cons (EfR.sym rfl (fun hc => Body.lenS (ev1_gd rfl hc) un9) rfl) ?_
  refine RG.cons (EfR.sym rfl (fun hc => Body.leq (ev1_gd rfl hc) rfl) rfl) ?_
  refine RO (Body.pick rfl rfl rfl (gdB rfl) rfl (pick_and _)) ?_
  refine ag rfl ?_
  refine RN ?_
  refine Ap rfl ?_
  refine TK.ret ?_
  refine PK.ret ?_
  refine leaf (val0 := vB (bif (decide (s ≠ ⟨#[]⟩)) then (decide (((ByteArray.size s : Nat) : Int) ≤ 24)) else false)) (by kernel_rfl) ?_
  exact lb (by first
          | exact (isName_no p h1 (rune_cond h1 rfl h2)).symm
          | (have he : p = ByteArray.size s := by omega
             rw [bif_and]
             by_cases h0 : ByteArray.size s = 0
             · rw [decide_eq_false (p := s ≠ ⟨#[]⟩) (fun h => h (empty_iff.2 h0)), isName_len (.inl (by omega))]; rfl
             · rw [decide_eq_true (p := s ≠ ⟨#[]⟩) (fun h => h0 (empty_iff.1 h))]
               by_cases h9 : ByteArray.size s ≤ 24
               · rw [decide_eq_true (by omega), isName_yes (by omega) h9 fun j hj => hI0.2 j (by omega)]; rfl
               · rw [decide_eq_false (by omega), isName_len (.inr (by omega))]; rfl))
theorem w104 (s : ByteArray) : CallOk Tryz.prog 104 [vS s] (lookM []) (vI (whenF (!(isNameF s)) 8)) [] := by
 haveI := tab_ok
 obtain ⟨fn, f1, f2, f3, f4, _, f6⟩ := qf104
 refine callOk_of (Y := tab) (F := fn104) f1 (f2.trans rfl) f3 f4 f6 (Nat.le_of_ble_eq_true rfl) rfl ?_
 clear f1 f2 f3 f4 f6
 show TK _ _ _ _ _ _ ⟨[(0, vS s)], []⟩
 refine At rfl ?_
 refine NR ⟨[(0, vS s)], []⟩ (sb rfl rfl rfl) rfl ?_
 refine ag rfl ?_
 refine RN ?_
 refine Ap rfl ?_
 refine NR ⟨[(0, vS s)], []⟩ (sb rfl rfl rfl) rfl ?_
 refine mv rfl ?_
 refine RO (Body.call (w164 s) rfl rfl rfl) ?_
 refine RO (Body.not rfl) ?_
 refine RO (Body.call (w101 (!(isNameF s)) 8) rfl rfl rfl) ?_
 refine ag rfl ?_
 refine RN ?_
 refine Ap rfl ?_
 refine TK.ret ?_
 refine PK.ret ?_
 refine leaf (val0 := vI (whenF (!(isNameF s)) 8)) (by kernel_rfl) ?_
 exact rfl
end Go.Lens.Tb
end
section
namespace Go.Lens.Tm
open Go.Lens.Tb Go.Proofs
set_option linter.unusedSectionVars false
def permI (c : Int) : Bool := (((((decide (97 ≤ c) && decide (c ≤ 122)) || (decide (65 ≤ c) && decide (c ≤ 90))) || (decide (48 ≤ c) && decide (c ≤ 57))) || decide (c = 46)) || decide (c = 45)) || decide (c = 47) || decide (c = 95)
def permS (s : List UInt8) : Bool := s.all fun b => permI (b.toNat : Int)
def chkF (f : Fld) : Int := bif !(isNameF (bsO f.1)) then 8 else bif decide (60 < f.2.length) then 26 else bif !(permS f.2) then 1 else 0
def ordB (l : List Fld) (i : Nat) : Bool := decide (0 < i) && leS (l.getD i ([], [])).1 (l.getD (i - 1) ([], [])).1
def fOne (l : List Fld) (i : Nat) : Int := if chkF (l.getD i ([], [])) = 0 then (bif ordB l i then 11 else 0) else chkF (l.getD i ([], []))
def fGo (l : List Fld) : Nat → Nat → Int
 | 0, _ => 0
 | n + 1, i => if fOne l i = 0 then fGo l n (i + 1) else fOne l i
def chkFl (l : List Fld) : Int := bif decide (24 < l.length) then 5 else fGo l l.length 0
def shortF (l : List Fld) (n : Int) : Bool := bif (decide (n < (l.length : Int)) && decide ((l.length : Int) ≤ 24)) || decide (26 < (l.length : Int)) then false else l.all fun f => decide (f.1.length ≤ 60) && decide (f.2.length ≤ 100)
theorem dlt (a b : Int) : decide (a < b) = !decide (b ≤ a) := by rw [Bool.eq_iff_iff]; simp
theorem dne {α : Type} [DecidableEq α] (a b : α) : decide (a ≠ b) = !decide (a = b) := by rw [Bool.eq_iff_iff]; simp
theorem perm_not (c : Int) : (!permI c) = ((((((decide (c < 97) || decide (122 < c)) && (decide (c < 65) || decide (90 < c))) && (decide (c < 48) || decide (57 < c))) && decide (c ≠ 46)) && decide (c ≠ 45)) && decide (c ≠ 47) && decide (c ≠ 95)) := by
 unfold permI
 simp only [dlt, dne, Bool.not_or, Bool.not_and]
theorem fGo_step {l : List Fld} {k : Nat} (hk : k < l.length) (h : fOne l k = 0) : fGo l (l.length - k) k = fGo l (l.length - (k + 1)) (k + 1) := by
 rw [show l.length - k = (l.length - (k + 1)) + 1 by omega, fGo, if_pos h]
theorem fGo_err {l : List Fld} {k : Nat} (hk : k < l.length) (h : fOne l k ≠ 0) : fGo l (l.length - k) k = fOne l k := by
 rw [show l.length - k = (l.length - (k + 1)) + 1 by omega, fGo, if_neg h]
theorem permS_no {s : List UInt8} {k : Nat} (hk : k < s.length) (h : permI (byteAt (bsO s) k) = false) : permS s = false := by
 unfold permS
 rw [List.all_eq_false]
 refine ⟨s.getD k 0, getD_mem hk, ?_⟩
 change permI ((s.getD k 0).toNat : Int) = false at h
 rw [h]; simp
theorem permS_yes {s : List UInt8} (h : ∀ j, j < s.length → permI (byteAt (bsO s) j) = true) : permS s = true := by
 unfold permS
 rw [List.all_eq_true]
 intro b hb
 obtain ⟨j, hj, rfl⟩ := List.getElem_of_mem hb
 have := h j hj
 change permI ((s.getD j 0).toNat : Int) = true at this
 rw [List.getD_eq_getElem?_getD, List.getElem?_eq_getElem hj] at this
 exact this
theorem first_fld (l : List Fld) (i : Nat) : firstF [whenF (!(isNameF (bsO (l.getD i ([], [])).1))) 8, whenF (decide (60 < (((l.getD i ([], [])).2.length : Nat) : Int))) 26, whenF (!(permS (l.getD i ([], [])).2)) 1, whenF (bif decide (0 < ((i : Nat) : Int)) then leS (l.getD i ([], [])).1 (l.getD (i - 1) ([], [])).1 else false) 11] = fOne l i := by
 unfold fOne chkF ordB whenF
 have h1 : decide (60 < (((l.getD i ([], [])).2.length : Nat) : Int)) = decide (60 < (l.getD i ([], [])).2.length) := by rw [Bool.eq_iff_iff]; simp; omega
 have h2 : decide (0 < ((i : Nat) : Int)) = decide (0 < i) := by rw [Bool.eq_iff_iff]; simp
 rw [h1, h2]
 cases isNameF (bsO (l.getD i ([], [])).1) <;> cases decide (60 < (l.getD i ([], [])).2.length) <;> cases permS (l.getD i ([], [])).2 <;> cases decide (0 < i) <;> cases leS (l.getD i ([], [])).1 (l.getD (i - 1) ([], [])).1 <;> rfl
end Go.Lens.Tm
end
section
namespace Go.Lens.Tm
open Go.Lens.Tb Go.Proofs
set_option linter.unusedSectionVars false
section
variable {l : List Fld} {k : Nat}
theorem f_bad (h : chkF (l.getD k ([], [])) ≠ 0) : fOne l k = chkF (l.getD k ([], [])) := by unfold fOne; rw [if_neg h]
theorem f_ordq {b : Bool} (h : (bif decide (0 < ((k : Nat) : Int)) then leS (l.getD k ([], [])).1 (l.getD (k - 1) ([], [])).1 else false) = b) : ordB l k = b := by
 rw [← h]
 unfold ordB
 have h2 : decide (0 < ((k : Nat) : Int)) = decide (0 < k) := by rw [Bool.eq_iff_iff]; simp
 rw [h2]
 cases decide (0 < k) <;> rfl
theorem f_ord (h : ¬ chkF (l.getD k ([], [])) ≠ 0) (h4 : (bif decide (0 < ((k : Nat) : Int)) then leS (l.getD k ([], [])).1 (l.getD (k - 1) ([], [])).1 else false) = true) : fOne l k = 11 := by
 unfold fOne; rw [if_pos (Decidable.not_not.1 h), f_ordq h4]; rfl
theorem f_ok (h : ¬ chkF (l.getD k ([], [])) ≠ 0) (h4 : (bif decide (0 < ((k : Nat) : Int)) then leS (l.getD k ([], [])).1 (l.getD (k - 1) ([], [])).1 else false) = false) : fOne l k = 0 := by
 unfold fOne; rw [if_pos (Decidable.not_not.1 h), f_ordq h4]; rfl
theorem sf_many {n : Int} (h : (bif (bif decide (n < ((List.length l : Nat) : Int)) then decide (((List.length l : Nat) : Int) ≤ 24) else false) then true else decide (26 < ((List.length l : Nat) : Int))) = true) : shortF l n = false := by
 unfold shortF; rw [bif_or, bif_and] at h; rw [h]; rfl
theorem sf_few {n : Int} (h : (bif (bif decide (n < ((List.length l : Nat) : Int)) then decide (((List.length l : Nat) : Int) ≤ 24) else false) then true else decide (26 < ((List.length l : Nat) : Int))) = false) : shortF l n = l.all fun f => decide (f.1.length ≤ 60) && decide (f.2.length ≤ 100) := by
 unfold shortF; rw [bif_or, bif_and] at h; rw [h]; rfl
theorem sf_q {b : Bool} {f : Fld} (h : (bif decide (60 < ((List.length (Prod.fst f) : Nat) : Int)) then true else decide (100 < ((List.length (Prod.snd f) : Nat) : Int))) = b) : (decide (List.length f.1 ≤ 60) && decide (List.length f.2 ≤ 100)) = !b := by
 rw [← h, bif_or, Bool.not_or]
 congr 1
 ·rw [Bool.eq_iff_iff]; simp; omega
 ·rw [Bool.eq_iff_iff]; simp; omega
theorem sf_ok {f : Fld} (h : (bif decide (60 < ((List.length (Prod.fst f) : Nat) : Int)) then true else decide (100 < ((List.length (Prod.snd f) : Nat) : Int))) = false) : (decide (List.length f.1 ≤ 60) && decide (List.length f.2 ≤ 100)) = true := sf_q h
theorem sf_no {n : Int} (h1 : (bif (bif decide (n < ((List.length l : Nat) : Int)) then decide (((List.length l : Nat) : Int) ≤ 24) else false) then true else decide (26 < ((List.length l : Nat) : Int))) = false) (hk : k < l.length)
  (h : (bif decide (60 < ((List.length (Prod.fst (l.getD k ([], []))) : Nat) : Int)) then true else decide (100 < ((List.length (Prod.snd (l.getD k ([], []))) : Nat) : Int))) = true) : shortF l n = false := by
 rw [sf_few h1, List.all_eq_false]
 exact ⟨l.getD k ([], []), getD_mem hk, by rw [sf_q h]; simp⟩
theorem sf_yes {n : Int} (h1 : (bif (bif decide (n < ((List.length l : Nat) : Int)) then decide (((List.length l : Nat) : Int) ≤ 24) else false) then true else decide (26 < ((List.length l : Nat) : Int))) = false)
  (h : ∀ j, j < l.length → (decide (List.length (List.getD l j ([], [])).1 ≤ 60) && decide (List.length (List.getD l j ([], [])).2 ≤ 100)) = true) : shortF l n = true := by
 rw [sf_few h1, List.all_eq_true]
 intro f hf
 obtain ⟨j, hj, rfl⟩ := List.getElem_of_mem hf
 have := h j hj
 rwa [List.getD_eq_getElem?_getD, List.getElem?_eq_getElem hj] at this
theorem take_fld (l : List Fld) (k : Nat) (h : k < l.length) : l.take (k + 1) = l.take k ++ [l.getD k ([], [])] := by
 rw [List.take_add_one, List.getElem?_eq_getElem h, List.getD_eq_getElem?_getD, List.getElem?_eq_getElem h]; rfl
theorem getF_skip {n : List UInt8} (hk : k < l.length) (h : ¬ (l.getD k ([], [])).1 = n) : getF n (l.drop k) = getF n (l.drop (k + 1)) := by
 rw [drop_at l k ([], []) hk]
 generalize l.getD k ([], []) = f at h
 obtain ⟨a, x⟩ := f
 simp only [getF]
 rw [if_neg (fun e => h e.symm)]
theorem getF_hit {n : List UInt8} (hk : k < l.length) (h : (l.getD k ([], [])).1 = n) : getF n (l.drop k) = some (l.getD k ([], [])).2 := by
 rw [drop_at l k ([], []) hk]
 generalize l.getD k ([], []) = f at h
 obtain ⟨a, x⟩ := f
 simp only [getF]
 rw [if_pos h.symm]
end
theorem st_eq {a b : Fld} (h : (!(decide (Prod.fst a = Prod.fst b) && decide (Prod.snd a = Prod.snd b))) = false) : a = b := by
 simp only [Bool.not_eq_false', Bool.and_eq_true, decide_eq_true_eq] at h
 exact Prod.ext h.1 h.2
theorem st_ne {a b : Fld} (h : (!(decide (Prod.fst a = Prod.fst b) && decide (Prod.snd a = Prod.snd b))) = true) (e : a = b) : False := by
 subst e; simp at h
theorem eq_getD {α : Type} (z : α) {a b : List α} (h : a.length = b.length) (k : ∀ j, j < a.length → a.getD j z = b.getD j z) : a = b := by
 apply List.ext_getElem h
 intro i h1 h2
 have := k i h1
 rwa [List.getD_eq_getElem?_getD, List.getD_eq_getElem?_getD, List.getElem?_eq_getElem h1, List.getElem?_eq_getElem h2] at this
end Go.Lens.Tm
end
section
namespace Go.Lens.Tm
open Go.Lens.Tb Go.Proofs
variable [Lz]
set_option linter.unusedSectionVars false
set_option maxRecDepth 100000
attribute [local irreducible] TK PK T RG EfR Body
theorem ag175 : aggT tab 175 = some true := by kernel_rfl
theorem by175 : ty175.info.bytes = 32 := by kernel_rfl
theorem fa175_0 : fadQ tab 175 0 = some 0 := by kernel_rfl
theorem fa175_1 : fadQ tab 175 1 = some 1 := by kernel_rfl
theorem in175 : tab.info? 175 = some ty175.info := by kernel_rfl
theorem sz175 : szT tab 175 = some 2 := by kernel_rfl
theorem un60 : tab.underlying 60 = some (.slice 175) := by kernel_rfl
theorem ff175 : flatEq tab 175 = some [.string, .string] := by kernel_rfl
set_option maxHeartbeats 2000000 in
theorem w172 (c : Int) : CallOk Tryz.prog 172 [.pv (.lit (.int .u8 c))] (lookM []) (vB (permI c)) [] := by
 haveI := tab_ok
 obtain ⟨fn, f1, f2, f3, f4, _, f6⟩ := qf172
 refine callOk_of (Y := tab) (F := fn172) f1 (f2.trans rfl) f3 f4 f6 (Nat.le_of_ble_eq_true rfl) rfl ?_
 clear f1 f2 f3 f4 f6
 show TK _ _ _ _ _ _ ⟨[(0, .pv (.lit (.int .u8 c)))], []⟩
 refine At rfl ?_
 refine NR ⟨[(0, .pv (.lit (.int .u8 c)))], []⟩ (sb rfl rfl rfl) rfl ?_
 refine ag rfl ?_
 refine RN ?_
 refine Ap rfl ?_
 refine NR ⟨[(0, .pv (.lit (.int .u8 c)))], []⟩ (sb rfl rfl rfl) rfl ?_
 refine mv rfl ?_
 refine RO (Body.geq rfl rfl) ?_
 refine mv rfl ?_
 refine RG.cons (EfR.sym rfl (fun hc => Body.move rfl) rfl) ?_
 refine RG.cons (EfR.sym rfl (fun hc => Body.leq (ev1_gd rfl hc) rfl) rfl) ?_
 refine RO (Body.pick rfl rfl rfl (gdB rfl) rfl (pick_and _)) ?_
 refine mv rfl ?_
 refine RG.cons (EfR.sym rfl (fun hc => Body.move rfl) rfl) ?_
 refine RG.cons (EfR.sym rfl (fun hc => Body.geq (ev1_gd rfl hc) rfl) rfl) ?_
 refine RG.cons (EfR.sym rfl (fun hc => Body.move (ev1_gd rfl hc)) rfl) ?_
 refine RG.cons (EfR.sym rfl (fun hc => Body.move rfl) rfl) ?_
 refine RG.cons (EfR.sym rfl (fun hc => Body.leq (ev1_gd rfl hc) rfl) rfl) ?_
 refine RG.cons (EfR.sym rfl (fun hc => Body.pick (ev1_gd rfl hc) rfl rfl (gdB rfl) rfl (pick_and2 hc)) rfl) ?_
 refine RO (Body.pick rfl rfl rfl rfl (gdB rfl) (pick_or _)) ?_
 refine mv rfl ?_
 refine RG.cons (EfR.sym rfl (fun hc => Body.move rfl) rfl) ?_
 refine RG.cons (EfR.sym rfl (fun hc => Body.geq (ev1_gd rfl hc) rfl) rfl) ?_
 refine RG.cons (EfR.sym rfl (fun hc => Body.move (ev1_gd rfl hc)) rfl) ?_
 refine RG.cons (EfR.sym rfl (fun hc => Body.move rfl) rfl) ?_
 refine RG.cons (EfR.sym rfl (fun hc => Body.leq (ev1_gd rfl hc) rfl) rfl) ?_
 refine RG.cons (EfR.sym rfl (fun hc => Body.pick (ev1_gd rfl hc) rfl rfl (gdB rfl) rfl (pick_and2 hc)) rfl) ?_
 refine RO (Body.pick rfl rfl rfl rfl (gdB rfl) (pick_or _)) ?_
 refine mv rfl ?_
 refine RG.cons (EfR.sym rfl (fun hc => Body.move rfl) rfl) ?_
 refine RG.cons (EfR.sym rfl (fun hc => Body.eql (ev1_gd rfl hc) rfl) rfl) ?_
 refine RO (Body.pick rfl rfl rfl rfl (gdB rfl) (pick_or _)) ?_
 refine mv rfl ?_
 refine RG.cons (EfR.sym rfl (fun hc => Body.move rfl) rfl) ?_
 refine RG.cons (EfR.sym rfl (fun hc => Body.eql (ev1_gd rfl hc) rfl) rfl) ?_
 refine RO (Body.pick rfl rfl rfl rfl (gdB rfl) (pick_or _)) ?_
 refine mv rfl ?_
 refine RG.cons (EfR.sym rfl (fun hc => Body.move rfl) rfl) ?_
 refine RG.cons (EfR.sym rfl (fun hc => Body.eql (ev1_gd rfl hc) rfl) rfl) ?_
 refine RO (Body.pick rfl rfl rfl rfl (gdB rfl) (pick_or _)) ?_
 refine mv rfl ?_
 refine RG.cons (EfR.sym rfl (fun hc => Body.move rfl) rfl) ?_
 refine RG.cons (EfR.sym rfl (fun hc => Body.eql (ev1_gd rfl hc) rfl) rfl) ?_
 refine RO (Body.pick rfl rfl rfl rfl (gdB rfl) (pick_or _)) ?_
 refine ag rfl ?_
 refine RN ?_
 refine Ap rfl ?_
 refine TK.ret ?_
 refine PK.ret ?_
 refine leaf (val0 := vB (bif (bif (bif (bif (bif (bif (bif (decide (97 ≤ c)) then (decide (c ≤ 122)) else false) then true else (bif (decide (65 ≤ c)) then (decide (c ≤ 90)) else false)) then true else (bif (decide (48 ≤ c)) then (decide (c ≤ 57)) else false)) then true else (decide (c = 46))) then true else (decide (c = 45))) then true else (decide (c = 47))) then true else (decide (c = 95)))) (by kernel_rfl) ?_
 exact lb (by simp only [permI, bif_or, bif_and])
set_option maxHeartbeats 2000000 in
theorem w118 (f : Fld) : CallOk Tryz.prog 118 [.pv (.agg [pS (bsO (Prod.fst f)), pS (bsO (Prod.snd f))])] (lookM []) (vI (chkF f)) [] := by
 haveI := tab_ok
 obtain ⟨fn, f1, f2, f3, f4, _, f6⟩ := qf118
 refine callOk_of (Y := tab) (F := fn118) f1 (f2.trans rfl) f3 f4 f6 (Nat.le_of_ble_eq_true rfl) rfl ?_
 clear f1 f2 f3 f4 f6
 show TK _ _ _ _ _ _ ⟨[(0, .pv (.agg [pS (bsO (Prod.fst f)), pS (bsO (Prod.snd f))]))], []⟩
 refine At rfl ?_
 refine NR ⟨[(0, .pv (.agg [pS (bsO (Prod.fst f)), pS (bsO (Prod.snd f))]))], []⟩ (sb rfl rfl rfl) rfl ?_
 refine rn rfl ?_
 refine ag rfl ?_
 refine RN ?_
 refine Ap rfl ?_
 refine NR ⟨[(1, .bref 2 0)], [(2, .box 175 [vS (bsO (Prod.fst f)), vS (bsO (Prod.snd f))])]⟩ (sb rfl rfl rfl) rfl ?_
 refine RO (Body.fadB rfl fa175_0 rfl) ?_
 refine RO (Body.loadB rfl rfl rfl ag9 sz9 rfl) ?_
 refine RO (Body.call (w94 (bsO (Prod.fst f))) rfl rfl rfl) ?_
 refine RO (Body.not rfl) ?_
 refine RN ?_
 refine Ap rfl ?_
 refine TK.norm ⟨[(1, .bref 2 0), (7, vB (!(isNameF (bsO (Prod.fst f)))))], [(2, .box 175 [vS (bsO (Prod.fst f)), vS (bsO (Prod.snd f))])]⟩ (sb rfl rfl rfl) ?_
 refine TK.cond rfl (fun h1 => ?_) (fun h1 => ?_)
 ·
  refine At rfl ?_
  refine NR ⟨[], []⟩ (sb rfl rfl rfl) rfl ?_
  refine ag rfl ?_
  refine RN ?_
  refine Ap rfl ?_
  refine TK.ret ?_
  refine PK.ret ?_
  refine leaf (val0 := vI 8) (by kernel_rfl) ?_
  exact li (by unfold chkF; first
          | (rw [h1]; rfl)
          | (rw [h1, decide_eq_true (by omega)]; rfl)
          | (rw [h1, decide_eq_false (by omega), permS_no (by omega) (bnot_t h4)]; rfl)
          | (rw [h1, decide_eq_false (by omega), permS_yes fun j hj => hI0.2.2 j (by omega)]; rfl))
 ·
  refine At rfl ?_
  refine NR ⟨[(1, .bref 2 0)], [(2, .box 175 [vS (bsO (Prod.fst f)), vS (bsO (Prod.snd f))])]⟩ (sb rfl rfl rfl) rfl ?_
  refine RO (Body.fadB rfl fa175_1 rfl) ?_
  refine RO (Body.loadB rfl rfl rfl ag9 sz9 rfl) ?_
  refine RO (Body.lenB (a := (Prod.snd f)) rfl un9) ?_
  refine RO (Body.gtr rfl rfl) ?_
  refine RN ?_
  refine Ap rfl ?_
  refine TK.norm ⟨[(1, .bref 2 0), (11, vB (decide (60 < ((List.length (Prod.snd f) : Nat) : Int))))], [(2, .box 175 [vS (bsO (Prod.fst f)), vS (bsO (Prod.snd f))])]⟩ (sb rfl rfl rfl) ?_
  refine TK.condP rfl (fun h2 => ?_) (fun h2 => ?_)
  ·
   refine At rfl ?_
   refine NR ⟨[], []⟩ (sb rfl rfl rfl) rfl ?_
   refine ag rfl ?_
   refine RN ?_
   refine Ap rfl ?_
   refine TK.ret ?_
   refine PK.ret ?_
   refine leaf (val0 := vI 26) (by kernel_rfl) ?_
   exact li (by unfold chkF; first
          | (rw [h1]; rfl)
          | (rw [h1, decide_eq_true (by omega)]; rfl)
          | (rw [h1, decide_eq_false (by omega), permS_no (by omega) (bnot_t h4)]; rfl)
          | (rw [h1, decide_eq_false (by omega), permS_yes fun j hj => hI0.2.2 j (by omega)]; rfl))
  ·
   refine At rfl ?_
   refine NR ⟨[(1, .bref 2 0)], [(2, .box 175 [vS (bsO (Prod.fst f)), vS (bsO (Prod.snd f))])]⟩ (sb rfl rfl rfl) rfl ?_
   refine ag rfl ?_
   refine RN ?_
   refine Ap rfl ?_
   refine TK.loop (α := Nat) (fun x => ⟨[(1, .bref 2 0), (3, vI ((x : Nat) : Int))], [(2, .box 175 [vS (bsO (Prod.fst f)), vS (bsO (Prod.snd f))])]⟩) (fun x => x ≤ List.length (Prod.snd f) ∧ List.length (Prod.snd f) ≤ 60 ∧ ∀ j, j < x → permI (byteAt (bsO (Prod.snd f)) j) = true) (fun x => List.length (Prod.snd f) - x) 0 ?_ (sb rfl rfl rfl) ?_
   · show 0 ≤ List.length (Prod.snd f) ∧ List.length (Prod.snd f) ≤ 60 ∧ ∀ j, j < 0 → permI (byteAt (bsO (Prod.snd f)) j) = true
     exact ⟨Nat.zero_le _, by omega, fun j hj => by omega⟩
   rintro k hI0
   replace hI0 : k ≤ List.length (Prod.snd f) ∧ List.length (Prod.snd f) ≤ 60 ∧ ∀ j, j < k → permI (byteAt (bsO (Prod.snd f)) j) = true := hI0
   show TK _ _ _ _ _ _ ⟨[(1, .bref 2 0), (3, vI ((k : Nat) : Int))], [(2, .box 175 [vS (bsO (Prod.fst f)), vS (bsO (Prod.snd f))])]⟩
   refine At rfl ?_
   refine NR ⟨[(1, .bref 2 0), (3, vI ((k : Nat) : Int))], [(2, .box 175 [vS (bsO (Prod.fst f)), vS (bsO (Prod.snd f))])]⟩ (sb rfl rfl rfl) rfl ?_
   refine mv rfl ?_
   refine RO (Body.fadB rfl fa175_1 rfl) ?_
   refine RO (Body.loadB rfl rfl rfl ag9 sz9 rfl) ?_
   refine RO (Body.lenB (a := (Prod.snd f)) rfl un9) ?_
   refine RO (Body.lss rfl rfl) ?_
   refine RN ?_
   refine Ap rfl ?_
   refine TK.norm ⟨[(1, .bref 2 0), (3, vI ((k : Nat) : Int)), (16, vB (decide (((k : Nat) : Int) < ((List.length (Prod.snd f) : Nat) : Int))))], [(2, .box 175 [vS (bsO (Prod.fst f)), vS (bsO (Prod.snd f))])]⟩ (sb rfl rfl rfl) ?_
   refine TK.condP rfl (fun h3 => ?_) (fun h3 => ?_)
   ·
    refine At rfl ?_
    refine NR ⟨[(1, .bref 2 0), (3, vI ((k : Nat) : Int))], [(2, .box 175 [vS (bsO (Prod.fst f)), vS (bsO (Prod.snd f))])]⟩ (sb rfl rfl rfl) rfl ?_
    refine RO (Body.fadB rfl fa175_1 rfl) ?_
    refine RO (Body.loadB rfl rfl rfl ag9 sz9 rfl) ?_
    refine mv rfl ?_
    refine RO (Body.sidx (i := k) rfl rfl un9 rfl (show k < List.length (Prod.snd f) from (by omega))) ?_
    refine RO (Body.call (w172 (byteAt (bsO (Prod.snd f)) k)) rfl rfl rfl) ?_
    refine RO (Body.not rfl) ?_
    refine RN ?_
    refine Ap rfl ?_
    refine TK.norm ⟨[(1, .bref 2 0), (3, vI ((k : Nat) : Int)), (24, vB (!(permI (byteAt (bsO (Prod.snd f)) k))))], [(2, .box 175 [vS (bsO (Prod.fst f)), vS (bsO (Prod.snd f))])]⟩ (sb rfl rfl rfl) ?_
    refine TK.cond rfl (fun h4 => ?_) (fun h4 => ?_)
    ·
     refine At rfl ?_
     refine NR ⟨[], []⟩ (sb rfl rfl rfl) rfl ?_
     refine ag rfl ?_
     refine RN ?_
     refine Ap rfl ?_
     refine TK.ret ?_
     refine PK.ret ?_
     refine leaf (val0 := vI 1) (by kernel_rfl) ?_
     exact li (by unfold chkF; first
          | (rw [h1]; rfl)
          | (rw [h1, decide_eq_true (by omega)]; rfl)
          | (rw [h1, decide_eq_false (by omega), permS_no (by omega) (bnot_t h4)]; rfl)
          | (rw [h1, decide_eq_false (by omega), permS_yes fun j hj => hI0.2.2 j (by omega)]; rfl))
    ·
     refine At rfl ?_
     refine NR ⟨[(1, .bref 2 0), (3, vI ((k : Nat) : Int))], [(2, .box 175 [vS (bsO (Prod.fst f)), vS (bsO (Prod.snd f))])]⟩ (sb rfl rfl rfl) rfl ?_
     refine mv rfl ?_
     refine RO (Body.add rfl rfl (by unfold R64; omega)) ?_
     refine ag rfl ?_
     refine RN ?_
     refine Aq rfl ?_
     refine PK.lp ?_
     refine LP.mk (k + 1) ?_ ?_ (sb rfl rfl rfl)
     · show (k + 1) ≤ List.length (Prod.snd f) ∧ List.length (Prod.snd f) ≤ 60 ∧ ∀ j, j < (k + 1) → permI (byteAt (bsO (Prod.snd f)) j) = true
       refine ⟨by omega, hI0.2.1, fun j hj => ?_⟩; rcases Nat.lt_succ_iff_lt_or_eq.1 hj with h | h; exact hI0.2.2 j h; subst h; exact bnot_f h4
     · show List.length (Prod.snd f) - (k + 1) < List.length (Prod.snd f) - k
       omega
   ·
    refine At rfl ?_
    refine TK.exit ?_
    refine PK.exit rfl ?_
    refine Ap rfl ?_
    refine NR ⟨[], []⟩ (sb rfl rfl rfl) rfl ?_
    refine ag rfl ?_
    refine RN ?_
    refine Ap rfl ?_
    refine TK.ret ?_
    refine PK.ret ?_
    refine leaf (val0 := vI 0) (by kernel_rfl) ?_
    exact li (by unfold chkF; first
          | (rw [h1]; rfl)
          | (rw [h1, decide_eq_true (by omega)]; rfl)
          | (rw [h1, decide_eq_false (by omega), permS_no (by omega) (bnot_t h4)]; rfl)
          | (rw [h1, decide_eq_false (by omega), permS_yes fun j hj => hI0.2.2 j (by omega)]; rfl))
set_option maxHeartbeats 2000000 in
theorem w38 (l : List Fld) (hl : l.length ≤ 1000000000000000) : CallOk Tryz.prog 38 [vL eF l] (lookM []) (vI (chkFl l)) [] := by
 haveI := tab_ok
 obtain ⟨fn, f1, f2, f3, f4, _, f6⟩ := qf38
 refine callOk_of (Y := tab) (F := fn38) f1 (f2.trans rfl) f3 f4 f6 (Nat.le_of_ble_eq_true rfl) rfl ?_
 clear f1 f2 f3 f4 f6
 show TK _ _ _ _ _ _ ⟨[(0, vL eF l)], []⟩
 refine At rfl ?_
 refine NR ⟨[(0, vL eF l)], []⟩ (sb rfl rfl rfl) rfl ?_
 refine ag rfl ?_
 refine RN ?_
 refine Ap rfl ?_
 refine NR ⟨[(0, vL eF l)], []⟩ (sb rfl rfl rfl) rfl ?_
 refine mv rfl ?_
 refine RO (Body.lenL rfl un60) ?_
 refine RO (Body.gtr rfl rfl) ?_
 refine RN ?_
 refine Ap rfl ?_
 refine TK.norm ⟨[(0, vL eF l), (7, vB (decide (24 < ((List.length l : Nat) : Int))))], []⟩ (sb rfl rfl rfl) ?_
 refine TK.condP rfl (fun h1 => ?_) (fun h1 => ?_)
 ·
  refine At rfl ?_
  refine NR ⟨[], []⟩ (sb rfl rfl rfl) rfl ?_
  refine ag rfl ?_
  refine RN ?_
  refine Ap rfl ?_
  refine TK.ret ?_
  refine PK.ret ?_
  refine leaf (val0 := vI 5) (by kernel_rfl) ?_
  exact li (by first
          | (unfold chkFl; rw [decide_eq_true (by omega)]; rfl)
          | (rw [hI0.2.2, fGo_err (by omega) (by rw [f_bad h3]; exact h3), f_bad h3])
          | (rw [hI0.2.2, fGo_err (by omega) (by rw [f_ord h3 h4]; decide), f_ord h3 h4])
          | (rw [hI0.2.2, show List.length l - k = 0 by omega]; rfl))
 ·
  refine At rfl ?_
  refine NR ⟨[(0, vL eF l)], []⟩ (sb rfl rfl rfl) rfl ?_
  refine ag rfl ?_
  refine RN ?_
  refine Ap rfl ?_
  refine TK.loop (α := Nat) (fun x => ⟨[(0, vL eF l), (3, vI ((x : Nat) : Int))], []⟩) (fun x => x ≤ List.length l ∧ List.length l ≤ 24 ∧ chkFl l = fGo l (List.length l - x) x) (fun x => List.length l - x) 0 ?_ (sb rfl rfl rfl) ?_
  · show 0 ≤ List.length l ∧ List.length l ≤ 24 ∧ chkFl l = fGo l (List.length l - 0) 0
    exact ⟨Nat.zero_le _, by omega, by unfold chkFl; rw [decide_eq_false (by omega)]; rfl⟩
  rintro k hI0
  replace hI0 : k ≤ List.length l ∧ List.length l ≤ 24 ∧ chkFl l = fGo l (List.length l - k) k := hI0
  show TK _ _ _ _ _ _ ⟨[(0, vL eF l), (3, vI ((k : Nat) : Int))], []⟩
  refine At rfl ?_
  refine NR ⟨[(0, vL eF l), (3, vI ((k : Nat) : Int))], []⟩ (sb rfl rfl rfl) rfl ?_
  refine mv rfl ?_
  refine mv rfl ?_
  refine RO (Body.lenL rfl un60) ?_
  refine RO (Body.lss rfl rfl) ?_
  refine RN ?_
  refine Ap rfl ?_
  refine TK.norm ⟨[(0, vL eF l), (3, vI ((k : Nat) : Int)), (11, vB (decide (((k : Nat) : Int) < ((List.length l : Nat) : Int))))], []⟩ (sb rfl rfl rfl) ?_
  refine TK.condP rfl (fun h2 => ?_) (fun h2 => ?_)
  ·
   refine At rfl ?_
   refine NR ⟨[(0, vL eF l), (3, vI ((k : Nat) : Int))], []⟩ (sb rfl rfl rfl) rfl ?_
   refine mv rfl ?_
   refine mv rfl ?_
   refine RO (Body.idx (z := ([], [])) (i := k) rfl rfl un60 sz175 (fun _ => rfl) rfl (by first | omega | (have hc2 := hc; simp at hc2; omega))) ?_
   refine RO (Body.loadA (ds := [pS (bsO (Prod.fst (List.getD l k ([], [])))), pS (bsO (Prod.snd (List.getD l k ([], []))))]) rfl ag175 sz175 (Nat.le_of_ble_eq_true rfl) rfl) ?_
   refine RO (Body.call (w118 (List.getD l k ([], []))) rfl rfl rfl) ?_
   refine ag rfl ?_
   refine RN ?_
   refine Ap rfl ?_
   refine NR ⟨[(0, vL eF l), (3, vI ((k : Nat) : Int)), (4, vI (chkF (List.getD l k ([], []))))], []⟩ (sb rfl rfl rfl) rfl ?_
   refine mv rfl ?_
   refine RO (Body.neq rfl rfl) ?_
   refine RN ?_
   refine Ap rfl ?_
   refine TK.norm ⟨[(0, vL eF l), (3, vI ((k : Nat) : Int)), (4, vI (chkF (List.getD l k ([], [])))), (20, vB (decide ((chkF (List.getD l k ([], []))) ≠ 0)))], []⟩ (sb rfl rfl rfl) ?_
   refine TK.condP rfl (fun h3 => ?_) (fun h3 => ?_)
   ·
    refine At rfl ?_
    refine NR ⟨[(4, vI (chkF (List.getD l k ([], []))))], []⟩ (sb rfl rfl rfl) rfl ?_
    refine mv rfl ?_
    refine ag rfl ?_
    refine RN ?_
    refine Ap rfl ?_
    refine TK.ret ?_
    refine PK.ret ?_
    refine leaf (val0 := vI (chkF (List.getD l k ([], [])))) (by kernel_rfl) ?_
    exact li (by first
          | (unfold chkFl; rw [decide_eq_true (by omega)]; rfl)
          | (rw [hI0.2.2, fGo_err (by omega) (by rw [f_bad h3]; exact h3), f_bad h3])
          | (rw [hI0.2.2, fGo_err (by omega) (by rw [f_ord h3 h4]; decide), f_ord h3 h4])
          | (rw [hI0.2.2, show List.length l - k = 0 by omega]; rfl))
   ·
    refine At rfl ?_
    refine NR ⟨[(0, vL eF l), (3, vI ((k : Nat) : Int))], []⟩ (sb rfl rfl rfl) rfl ?_
    refine mv rfl ?_
    refine RO (Body.gtr rfl rfl) ?_
    refine mv rfl ?_
    refine RG.cons (EfR.sym rfl (fun hc => Body.move rfl) rfl) ?_
    refine RG.cons (EfR.sym rfl (fun hc => Body.move rfl) rfl) ?_
    refine RG.cons (EfR.sym rfl (fun hc => Body.idx (z := ([], [])) (i := k) (ev1_gd rfl hc) (ev1_gd rfl hc) un60 sz175 (fun _ => rfl) rfl (by first | omega | (have hc2 := hc; simp at hc2; omega))) rfl) ?_
    refine RG.cons (EfR.sym rfl (fun hc => Body.fadP (ev1_gd rfl hc) fa175_0 rfl) rfl) ?_
    refine RG.cons (EfR.sym rfl (fun hc => Body.loadP (ev1_gd rfl hc) ag9 sz9) rfl) ?_
    refine RG.cons (EfR.sym rfl (fun hc => Body.move rfl) rfl) ?_
    refine RG.cons (EfR.sym rfl (fun hc => Body.move rfl) rfl) ?_
    refine RG.cons (EfR.sym rfl (fun hc => Body.sub (ev1_gd rfl hc) rfl (by unfold R64; omega)) rfl) ?_
    refine RG.cons (EfR.sym rfl (fun hc => Body.idx (z := ([], [])) (i := (k - 1)) (ev1_gd rfl hc) (ev1_gd rfl hc) un60 sz175 (fun _ => rfl) (by first | omega | (have hc2 := hc; simp at hc2; omega)) (by first | omega | (have hc2 := hc; simp at hc2; omega))) rfl) ?_
    refine RG.cons (EfR.sym rfl (fun hc => Body.fadP (ev1_gd rfl hc) fa175_0 rfl) rfl) ?_
    refine RG.cons (EfR.sym rfl (fun hc => Body.loadP (ev1_gd rfl hc) ag9 sz9) rfl) ?_
    refine RG.cons (EfR.sym rfl (fun hc => Body.sleB (a := (Prod.fst (List.getD l k ([], [])))) (b := (Prod.fst (List.getD l (k - 1) ([], [])))) (ev1_gd rfl hc) (ev1_gd rfl hc)) rfl) ?_
    refine RO (Body.pick rfl rfl rfl (gdB rfl) rfl (pick_and _)) ?_
    refine RG.nil (fun _ => by kernel_rfl) ?_
    refine Ap rfl ?_
    refine TK.norm ⟨[(0, vL eF l), (3, vI ((k : Nat) : Int)), (37, vB (bif (decide (0 < ((k : Nat) : Int))) then (leS (Prod.fst (List.getD l k ([], []))) (Prod.fst (List.getD l (k - 1) ([], [])))) else false))], []⟩ (sb rfl rfl rfl) ?_
    refine TK.cond rfl (fun h4 => ?_) (fun h4 => ?_)
    ·
     refine At rfl ?_
     refine NR ⟨[], []⟩ (sb rfl rfl rfl) rfl ?_
     refine ag rfl ?_
     refine RN ?_
     refine Ap rfl ?_
     refine TK.ret ?_
     refine PK.ret ?_
     refine leaf (val0 := vI 11) (by kernel_rfl) ?_
     exact li (by first
          | (unfold chkFl; rw [decide_eq_true (by omega)]; rfl)
          | (rw [hI0.2.2, fGo_err (by omega) (by rw [f_bad h3]; exact h3), f_bad h3])
          | (rw [hI0.2.2, fGo_err (by omega) (by rw [f_ord h3 h4]; decide), f_ord h3 h4])
          | (rw [hI0.2.2, show List.length l - k = 0 by omega]; rfl))
    ·
     refine At rfl ?_
     refine NR ⟨[(0, vL eF l), (3, vI ((k : Nat) : Int))], []⟩ (sb rfl rfl rfl) rfl ?_
     refine mv rfl ?_
     refine RO (Body.add rfl rfl (by unfold R64; omega)) ?_
     refine ag rfl ?_
     refine RN ?_
     refine Aq rfl ?_
     refine PK.lp ?_
     refine LP.mk (k + 1) ?_ ?_ (sb rfl rfl rfl)
     · show (k + 1) ≤ List.length l ∧ List.length l ≤ 24 ∧ chkFl l = fGo l (List.length l - (k + 1)) (k + 1)
       refine ⟨by omega, hI0.2.1, ?_⟩; rw [hI0.2.2]; exact fGo_step (by omega) (f_ok h3 h4)
     · show List.length l - (k + 1) < List.length l - k
       omega
  ·
   refine At rfl ?_
   refine TK.exit ?_
   refine PK.exit rfl ?_
   refine Ap rfl ?_
   refine NR ⟨[], []⟩ (sb rfl rfl rfl) rfl ?_
   refine ag rfl ?_
   refine RN ?_
   refine Ap rfl ?_
   refine TK.ret ?_
   refine PK.ret ?_
   refine leaf (val0 := vI 0) (by kernel_rfl) ?_
   exact li (by first
          | (unfold chkFl; rw [decide_eq_true (by omega)]; rfl)
          | (rw [hI0.2.2, fGo_err (by omega) (by rw [f_bad h3]; exact h3), f_bad h3])
          | (rw [hI0.2.2, fGo_err (by omega) (by rw [f_ord h3 h4]; decide), f_ord h3 h4])
          | (rw [hI0.2.2, show List.length l - k = 0 by omega]; rfl))
set_option maxHeartbeats 2000000 in
theorem w35 (l : List Fld) (n : Int) (hl : l.length ≤ 1000000000000000) : CallOk Tryz.prog 35 [vL eF l, vI n] (lookM []) (vB (shortF l n)) [] := by
 haveI := tab_ok
 obtain ⟨fn, f1, f2, f3, f4, _, f6⟩ := qf35
 refine callOk_of (Y := tab) (F := fn35) f1 (f2.trans rfl) f3 f4 f6 (Nat.le_of_ble_eq_true rfl) rfl ?_
 clear f1 f2 f3 f4 f6
 show TK _ _ _ _ _ _ ⟨[(0, vL eF l), (1, vI n)], []⟩
 refine At rfl ?_
 refine NR ⟨[(0, vL eF l), (1, vI n)], []⟩ (sb rfl rfl rfl) rfl ?_
 refine ag rfl ?_
 refine RN ?_
 refine Ap rfl ?_
 refine NR ⟨[(0, vL eF l), (1, vI n)], []⟩ (sb rfl rfl rfl) rfl ?_
 refine mv rfl ?_
 refine RO (Body.lenL rfl un60) ?_
 refine mv rfl ?_
 refine RO (Body.gtr rfl rfl) ?_
 refine mv rfl ?_
 refine RG.cons (EfR.sym rfl (fun hc => Body.move rfl) rfl) ?_
 refine RG.cons (EfR.sym rfl (fun hc => Body.lenL (ev1_gd rfl hc) un60) rfl) ?_
 refine RG.cons (EfR.sym rfl (fun hc => Body.leq (ev1_gd rfl hc) rfl) rfl) ?_
 refine RO (Body.pick rfl rfl rfl (gdB rfl) rfl (pick_and _)) ?_
 refine mv rfl ?_
 refine RG.cons (EfR.sym rfl (fun hc => Body.move rfl) rfl) ?_
 refine RG.cons (EfR.sym rfl (fun hc => Body.lenL (ev1_gd rfl hc) un60) rfl) ?_
 refine RG.cons (EfR.sym rfl (fun hc => Body.gtr (ev1_gd rfl hc) rfl) rfl) ?_
 refine RO (Body.pick rfl rfl rfl rfl (gdB rfl) (pick_or _)) ?_
 refine RN ?_
 refine Ap rfl ?_
 refine TK.norm ⟨[(0, vL eF l), (19, vB (bif (bif (decide (n < ((List.length l : Nat) : Int))) then (decide (((List.length l : Nat) : Int) ≤ 24)) else false) then true else (decide (26 < ((List.length l : Nat) : Int)))))], []⟩ (sb rfl rfl rfl) ?_
 refine TK.cond rfl (fun h1 => ?_) (fun h1 => ?_)
 ·
  refine At rfl ?_
  refine NR ⟨[], []⟩ (sb rfl rfl rfl) rfl ?_
  refine ag rfl ?_
  refine RN ?_
  refine Ap rfl ?_
  refine TK.ret ?_
  refine PK.ret ?_
  refine leaf (val0 := vB false) (by kernel_rfl) ?_
  exact lb (by first
          | exact (sf_many h1).symm
          | exact (sf_no h1 (by omega) h3).symm
          | exact (sf_yes h1 fun j hj => hI0.2 j (by omega)).symm)
 ·
  refine At rfl ?_
  refine NR ⟨[(0, vL eF l)], []⟩ (sb rfl rfl rfl) rfl ?_
  refine ag rfl ?_
  refine RN ?_
  refine Ap rfl ?_
  refine TK.loop (α := Nat) (fun x => ⟨[(0, vL eF l), (5, vI ((x : Nat) : Int))], []⟩) (fun x => x ≤ List.length l ∧ ∀ j, j < x → (decide (List.length (List.getD l j ([], [])).1 ≤ 60) && decide (List.length (List.getD l j ([], [])).2 ≤ 100)) = true) (fun x => List.length l - x) 0 ?_ (sb rfl rfl rfl) ?_
  · show 0 ≤ List.length l ∧ ∀ j, j < 0 → (decide (List.length (List.getD l j ([], [])).1 ≤ 60) && decide (List.length (List.getD l j ([], [])).2 ≤ 100)) = true
    exact ⟨Nat.zero_le _, fun j hj => by omega⟩
  rintro k hI0
  replace hI0 : k ≤ List.length l ∧ ∀ j, j < k → (decide (List.length (List.getD l j ([], [])).1 ≤ 60) && decide (List.length (List.getD l j ([], [])).2 ≤ 100)) = true := hI0
  show TK _ _ _ _ _ _ ⟨[(0, vL eF l), (5, vI ((k : Nat) : Int))], []⟩
  refine At rfl ?_
  refine NR ⟨[(0, vL eF l), (5, vI ((k : Nat) : Int))], []⟩ (sb rfl rfl rfl) rfl ?_
  refine mv rfl ?_
  refine mv rfl ?_
  refine RO (Body.lenL rfl un60) ?_
  refine RO (Body.lss rfl rfl) ?_
  refine RN ?_
  refine Ap rfl ?_
  refine TK.norm ⟨[(0, vL eF l), (5, vI ((k : Nat) : Int)), (23, vB (decide (((k : Nat) : Int) < ((List.length l : Nat) : Int))))], []⟩ (sb rfl rfl rfl) ?_
  refine TK.condP rfl (fun h2 => ?_) (fun h2 => ?_)
  ·
   refine At rfl ?_
   refine NR ⟨[(0, vL eF l), (5, vI ((k : Nat) : Int))], []⟩ (sb rfl rfl rfl) rfl ?_
   refine mv rfl ?_
   refine mv rfl ?_
   refine RO (Body.idx (z := ([], [])) (i := k) rfl rfl un60 sz175 (fun _ => rfl) rfl (by omega)) ?_
   refine RO (Body.fadP rfl fa175_0 rfl) ?_
   refine RO (Body.loadP rfl ag9 sz9) ?_
   refine RO (Body.lenB (a := (Prod.fst (List.getD l k ([], [])))) rfl un9) ?_
   refine RO (Body.gtr rfl rfl) ?_
   refine mv rfl ?_
   refine RG.cons (EfR.sym rfl (fun hc => Body.move rfl) rfl) ?_
   refine RG.cons (EfR.sym rfl (fun hc => Body.move rfl) rfl) ?_
   refine RG.cons (EfR.sym rfl (fun hc => Body.idx (z := ([], [])) (i := k) (ev1_gd rfl hc) (ev1_gd rfl hc) un60 sz175 (fun _ => rfl) rfl (by omega)) rfl) ?_
   refine RG.cons (EfR.sym rfl (fun hc => Body.fadP (ev1_gd rfl hc) fa175_1 rfl) rfl) ?_
   refine RG.cons (EfR.sym rfl (fun hc => Body.loadP (ev1_gd rfl hc) ag9 sz9) rfl) ?_
   refine RG.cons (EfR.sym rfl (fun hc => Body.lenB (a := (Prod.snd (List.getD l k ([], [])))) (ev1_gd rfl hc) un9) rfl) ?_
   refine RG.cons (EfR.sym rfl (fun hc => Body.gtr (ev1_gd rfl hc) rfl) rfl) ?_
   refine RO (Body.pick rfl rfl rfl rfl (gdB rfl) (pick_or _)) ?_
   refine RN ?_
   refine Ap rfl ?_
   refine TK.norm ⟨[(0, vL eF l), (5, vI ((k : Nat) : Int)), (41, vB (bif (decide (60 < ((List.length (Prod.fst (List.getD l k ([], []))) : Nat) : Int))) then true else (decide (100 < ((List.length (Prod.snd (List.getD l k ([], []))) : Nat) : Int)))))], []⟩ (sb rfl rfl rfl) ?_
   refine TK.cond rfl (fun h3 => ?_) (fun h3 => ?_)
   ·
    refine At rfl ?_
    refine NR ⟨[], []⟩ (sb rfl rfl rfl) rfl ?_
    refine ag rfl ?_
    refine RN ?_
    refine Ap rfl ?_
    refine TK.ret ?_
    refine PK.ret ?_
    refine leaf (val0 := vB false) (by kernel_rfl) ?_
    exact lb (by first
          | exact (sf_many h1).symm
          | exact (sf_no h1 (by omega) h3).symm
          | exact (sf_yes h1 fun j hj => hI0.2 j (by omega)).symm)
   ·
    refine At rfl ?_
    refine NR ⟨[(0, vL eF l), (5, vI ((k : Nat) : Int))], []⟩ (sb rfl rfl rfl) rfl ?_
    refine mv rfl ?_
    refine RO (Body.add rfl rfl (by unfold R64; omega)) ?_
    refine ag rfl ?_
    refine RN ?_
    refine Aq rfl ?_
    refine PK.lp ?_
    refine LP.mk (k + 1) ?_ ?_ (sb rfl rfl rfl)
    · show (k + 1) ≤ List.length l ∧ ∀ j, j < (k + 1) → (decide (List.length (List.getD l j ([], [])).1 ≤ 60) && decide (List.length (List.getD l j ([], [])).2 ≤ 100)) = true
      refine ⟨by omega, fun j hj => ?_⟩; rcases Nat.lt_succ_iff_lt_or_eq.1 hj with h | h; exact hI0.2 j h; subst h; exact sf_ok h3
    · show List.length l - (k + 1) < List.length l - k
      omega
  ·
   refine At rfl ?_
   refine TK.exit ?_
   refine PK.exit rfl ?_
   refine Ap rfl ?_
   refine NR ⟨[], []⟩ (sb rfl rfl rfl) rfl ?_
   refine ag rfl ?_
   refine RN ?_
   refine Ap rfl ?_
   refine TK.ret ?_
   refine PK.ret ?_
   refine leaf (val0 := vB true) (by kernel_rfl) ?_
   exact lb (by first
          | exact (sf_many h1).symm
          | exact (sf_no h1 (by omega) h3).symm
          | exact (sf_yes h1 fun j hj => hI0.2 j (by omega)).symm)
set_option maxHeartbeats 2000000 in
theorem w34 (l : List Fld) (hl : l.length * 32 ≤ 140737488355328) : CallOk Tryz.prog 34 [vL eF l] (lookM []) (vL eF l) [] := by
 haveI := tab_ok
 obtain ⟨fn, f1, f2, f3, f4, _, f6⟩ := qf34
 refine callOk_of (Y := tab) (F := fn34) f1 (f2.trans rfl) f3 f4 f6 (Nat.le_of_ble_eq_true rfl) rfl ?_
 clear f1 f2 f3 f4 f6
 show TK _ _ _ _ _ _ ⟨[(0, vL eF l)], []⟩
 refine At rfl ?_
 refine NR ⟨[(0, vL eF l)], []⟩ (sb rfl rfl rfl) rfl ?_
 refine RO (Body.nilS (enc := eF) rfl) ?_
 refine RN ?_
 refine Ap rfl ?_
 refine NR ⟨[(0, vL eF l)], []⟩ (sb rfl rfl rfl) rfl ?_
 refine RO (Body.adopt 4 2 175 rfl rfl) ?_
 refine RN ?_
 refine Ap rfl ?_
 refine NR ⟨[(0, vL eF l), (3, .aref 4 0)], [(4, .arr 0 2 175 (List.map eF []))]⟩ (sb rfl rfl rfl) rfl ?_
 refine mv rfl ?_
 refine RO (Body.lenL rfl un59) ?_
 refine mv rfl ?_
 refine RN ?_
 refine Ap rfl ?_
 refine TK.loop (α := Nat × Nat × List Fld) (fun x => ⟨[(3, .aref 4 x.2.1), (6, vL eF l), (7, vI ((List.length l : Nat) : Int)), (8, vI ((x.1 : Nat) : Int))], [(4, .arr x.2.1 2 175 (List.map eF x.2.2))]⟩) (fun x => x.1 ≤ List.length l ∧ x.2.2 = List.take x.1 l) (fun x => List.length l - x.1) (0, 0, []) ?_ (sb rfl rfl rfl) ?_
 · show 0 ≤ List.length l ∧ [] = List.take 0 l
   exact ⟨Nat.zero_le _, rfl⟩
 rintro ⟨k, v, out⟩ hI0
 replace hI0 : k ≤ List.length l ∧ out = List.take k l := hI0
 have hol : List.length out ≤ k := by rw [hI0.2, List.length_take]; omega
 show TK _ _ _ _ _ _ ⟨[(3, .aref 4 v), (6, vL eF l), (7, vI ((List.length l : Nat) : Int)), (8, vI ((k : Nat) : Int))], [(4, .arr v 2 175 (List.map eF out))]⟩
 refine At rfl ?_
 refine NR ⟨[(3, .aref 4 v), (6, vL eF l), (7, vI ((List.length l : Nat) : Int)), (8, vI ((k : Nat) : Int))], [(4, .arr v 2 175 (List.map eF out))]⟩ (sb rfl rfl rfl) rfl ?_
 refine RO (Body.lss rfl rfl) ?_
 refine RN ?_
 refine Ap rfl ?_
 refine TK.norm ⟨[(3, .aref 4 v), (6, vL eF l), (7, vI ((List.length l : Nat) : Int)), (8, vI ((k : Nat) : Int)), (9, vB (decide (((k : Nat) : Int) < ((List.length l : Nat) : Int))))], [(4, .arr v 2 175 (List.map eF out))]⟩ (sb rfl rfl rfl) ?_
 refine TK.condP rfl (fun h1 => ?_) (fun h1 => ?_)
 ·
  refine At rfl ?_
  refine NR ⟨[(3, .aref 4 v), (6, vL eF l), (7, vI ((List.length l : Nat) : Int)), (8, vI ((k : Nat) : Int))], [(4, .arr v 2 175 (List.map eF out))]⟩ (sb rfl rfl rfl) rfl ?_
  refine RO (Body.idx (z := ([], [])) (i := k) rfl rfl un59 sz174 (fun _ => rfl) rfl (by first | omega | (simp only [List.length_append, List.length_cons, List.length_nil, List.length_take]; omega))) ?_
  refine RO (Body.loadA (ds := [pS (bsO (Prod.fst (List.getD l k ([], [])))), pS (bsO (Prod.snd (List.getD l k ([], []))))]) rfl ag174 sz174 (Nat.le_of_ble_eq_true rfl) rfl) ?_
  refine rn rfl ?_
  refine rn rfl ?_
  refine RN ?_
  refine Ap rfl ?_
  refine NR ⟨[(3, .aref 4 v), (5, .bref 6 0), (6, vL eF l), (7, vI ((List.length l : Nat) : Int)), (8, vI ((k : Nat) : Int))], [(4, .arr v 2 175 (List.map eF out)), (6, .box 174 [vS (bsO (Prod.fst (List.getD l k ([], [])))), vS (bsO (Prod.snd (List.getD l k ([], []))))])]⟩ (sb rfl rfl rfl) rfl ?_
  refine rn rfl ?_
  refine RO (Body.loadBA rfl rfl rfl ag174 sz174 rfl rfl) ?_
  refine RO (Body.runZ (val := .pv (.slice (List.map eF [(List.getD l k ([], []))]))) rfl (fun l => Frz.arr l _ _ _ _ _) rfl) ?_
  refine RO (Body.append rfl rfl rfl un60 in175 rfl (fun _ => rfl) by175 (by first | omega | (simp only [List.length_append, List.length_cons, List.length_nil, List.length_take]; omega))) ?_
  refine rn rfl ?_
  refine RN ?_
  refine Ap rfl ?_
  refine NR ⟨[(3, .aref 4 (v + 1)), (6, vL eF l), (7, vI ((List.length l : Nat) : Int)), (8, vI ((k : Nat) : Int))], [(4, .arr (v + 1) 2 175 (List.map eF (out ++ [(List.getD l k ([], []))])))]⟩ (sb rfl rfl rfl) rfl ?_
  refine RO (Body.add rfl rfl (by unfold R64; omega)) ?_
  refine mv rfl ?_
  refine RN ?_
  refine Aq rfl ?_
  refine PK.lp ?_
  refine LP.mk ((k + 1), (v + 1), (out ++ [(List.getD l k ([], []))])) ?_ ?_ (sb rfl rfl rfl)
  · show (k + 1) ≤ List.length l ∧ (out ++ [(List.getD l k ([], []))]) = List.take (k + 1) l
    refine ⟨by omega, ?_⟩; rw [hI0.2]; exact (take_fld l k (by omega)).symm
  · show List.length l - (k + 1) < List.length l - k
    omega
 ·
  refine At rfl ?_
  refine TK.exit ?_
  refine PK.exit rfl ?_
  refine Ap rfl ?_
  refine TK.norm ⟨[(3, .aref 4 v)], [(4, .arr v 2 175 (List.map eF out))]⟩ (sb rfl rfl rfl) ?_
  refine TK.frz (t := 3) rfl rfl ?_
  refine NR ⟨[(3, vL eF out)], []⟩ (sb rfl rfl rfl) rfl ?_
  refine mv rfl ?_
  refine ag rfl ?_
  refine RN ?_
  refine Ap rfl ?_
  refine TK.ret ?_
  refine PK.ret ?_
  refine leaf (val0 := vL eF out) (by kernel_rfl) ?_
  exact lsl (by rw [hI0.2, List.take_of_length_le (by omega)])
set_option maxHeartbeats 2000000 in
theorem w42 (a b : List Fld) (hl : a.length ≤ 1000000000000000) : CallOk Tryz.prog 42 [vL eF a, vL eF b] (lookM []) (vB (decide (a = b))) [] := by
 haveI := tab_ok
 obtain ⟨fn, f1, f2, f3, f4, _, f6⟩ := qf42
 refine callOk_of (Y := tab) (F := fn42) f1 (f2.trans rfl) f3 f4 f6 (Nat.le_of_ble_eq_true rfl) rfl ?_
 clear f1 f2 f3 f4 f6
 show TK _ _ _ _ _ _ ⟨[(0, vL eF a), (1, vL eF b)], []⟩
 refine At rfl ?_
 refine NR ⟨[(0, vL eF a), (1, vL eF b)], []⟩ (sb rfl rfl rfl) rfl ?_
 refine ag rfl ?_
 refine RN ?_
 refine Ap rfl ?_
 refine NR ⟨[(0, vL eF a), (1, vL eF b)], []⟩ (sb rfl rfl rfl) rfl ?_
 refine mv rfl ?_
 refine RO (Body.lenL rfl un60) ?_
 refine mv rfl ?_
 refine RO (Body.lenL rfl un60) ?_
 refine RO (Body.neq rfl rfl) ?_
 refine RN ?_
 refine Ap rfl ?_
 refine TK.norm ⟨[(0, vL eF a), (1, vL eF b), (10, vB (decide (((List.length a : Nat) : Int) ≠ ((List.length b : Nat) : Int))))], []⟩ (sb rfl rfl rfl) ?_
 refine TK.condP rfl (fun h1 => ?_) (fun h1 => ?_)
 ·
  refine At rfl ?_
  refine NR ⟨[], []⟩ (sb rfl rfl rfl) rfl ?_
  refine ag rfl ?_
  refine RN ?_
  refine Ap rfl ?_
  refine TK.ret ?_
  refine PK.ret ?_
  refine leaf (val0 := vB false) (by kernel_rfl) ?_
  exact lb (by first
          | exact (decide_eq_false fun e => by subst e; omega).symm
          | exact (decide_eq_false fun e => by subst e; first | exact st_ne h3 rfl | exact h3 rfl).symm
          | exact (decide_eq_true (eq_getD ([], []) hI0.2.1 fun j hj => hI0.2.2 j (by omega))).symm)
 ·
  refine At rfl ?_
  refine NR ⟨[(0, vL eF a), (1, vL eF b)], []⟩ (sb rfl rfl rfl) rfl ?_
  refine ag rfl ?_
  refine RN ?_
  refine Ap rfl ?_
  refine TK.loop (α := Nat) (fun x => ⟨[(0, vL eF a), (1, vL eF b), (5, vI ((x : Nat) : Int))], []⟩) (fun x => x ≤ List.length a ∧ List.length a = List.length b ∧ ∀ j, j < x → List.getD a j ([], []) = List.getD b j ([], [])) (fun x => List.length a - x) 0 ?_ (sb rfl rfl rfl) ?_
  · show 0 ≤ List.length a ∧ List.length a = List.length b ∧ ∀ j, j < 0 → List.getD a j ([], []) = List.getD b j ([], [])
    exact ⟨Nat.zero_le _, by omega, fun j hj => by omega⟩
  rintro k hI0
  replace hI0 : k ≤ List.length a ∧ List.length a = List.length b ∧ ∀ j, j < k → List.getD a j ([], []) = List.getD b j ([], []) := hI0
  show TK _ _ _ _ _ _ ⟨[(0, vL eF a), (1, vL eF b), (5, vI ((k : Nat) : Int))], []⟩
  refine At rfl ?_
  refine NR ⟨[(0, vL eF a), (1, vL eF b), (5, vI ((k : Nat) : Int))], []⟩ (sb rfl rfl rfl) rfl ?_
  refine mv rfl ?_
  refine mv rfl ?_
  refine RO (Body.lenL rfl un60) ?_
  refine RO (Body.lss rfl rfl) ?_
  refine RN ?_
  refine Ap rfl ?_
  refine TK.norm ⟨[(0, vL eF a), (1, vL eF b), (5, vI ((k : Nat) : Int)), (14, vB (decide (((k : Nat) : Int) < ((List.length a : Nat) : Int))))], []⟩ (sb rfl rfl rfl) ?_
  refine TK.condP rfl (fun h2 => ?_) (fun h2 => ?_)
  ·
   refine At rfl ?_
   refine NR ⟨[(0, vL eF a), (1, vL eF b), (5, vI ((k : Nat) : Int))], []⟩ (sb rfl rfl rfl) rfl ?_
   refine mv rfl ?_
   refine mv rfl ?_
   refine RO (Body.idx (z := ([], [])) (i := k) rfl rfl un60 sz175 (fun _ => rfl) rfl (by omega)) ?_
   refine RO (Body.loadA (ds := [pS (bsO (Prod.fst (List.getD a k ([], [])))), pS (bsO (Prod.snd (List.getD a k ([], []))))]) rfl ag175 sz175 (Nat.le_of_ble_eq_true rfl) rfl) ?_
   refine mv rfl ?_
   refine mv rfl ?_
   refine RO (Body.idx (z := ([], [])) (i := k) rfl rfl un60 sz175 (fun _ => rfl) rfl (by omega)) ?_
   refine RO (Body.loadA (ds := [pS (bsO (Prod.fst (List.getD b k ([], [])))), pS (bsO (Prod.snd (List.getD b k ([], []))))]) rfl ag175 sz175 (Nat.le_of_ble_eq_true rfl) rfl) ?_
   refine RO (Body.st2neq rfl rfl ff175) ?_
   refine RG.nil (fun _ => by kernel_rfl) ?_
   refine Ap rfl ?_
   refine TK.norm ⟨[(0, vL eF a), (1, vL eF b), (5, vI ((k : Nat) : Int)), (25, vB (!(decide ((Prod.fst (List.getD a k ([], []))) = (Prod.fst (List.getD b k ([], [])))) && decide ((Prod.snd (List.getD a k ([], []))) = (Prod.snd (List.getD b k ([], [])))))))], []⟩ (sb rfl rfl rfl) ?_
   refine TK.cond rfl (fun h3 => ?_) (fun h3 => ?_)
   ·
    refine At rfl ?_
    refine NR ⟨[], []⟩ (sb rfl rfl rfl) rfl ?_
    refine ag rfl ?_
    refine RN ?_
    refine Ap rfl ?_
    refine TK.ret ?_
    refine PK.ret ?_
    refine leaf (val0 := vB false) (by kernel_rfl) ?_
    exact lb (by first
          | exact (decide_eq_false fun e => by subst e; omega).symm
          | exact (decide_eq_false fun e => by subst e; first | exact st_ne h3 rfl | exact h3 rfl).symm
          | exact (decide_eq_true (eq_getD ([], []) hI0.2.1 fun j hj => hI0.2.2 j (by omega))).symm)
   ·
    refine At rfl ?_
    refine NR ⟨[(0, vL eF a), (1, vL eF b), (5, vI ((k : Nat) : Int))], []⟩ (sb rfl rfl rfl) rfl ?_
    refine mv rfl ?_
    refine RO (Body.add rfl rfl (by unfold R64; omega)) ?_
    refine ag rfl ?_
    refine RN ?_
    refine Aq rfl ?_
    refine PK.lp ?_
    refine LP.mk (k + 1) ?_ ?_ (sb rfl rfl rfl)
    · show (k + 1) ≤ List.length a ∧ List.length a = List.length b ∧ ∀ j, j < (k + 1) → List.getD a j ([], []) = List.getD b j ([], [])
      refine ⟨by omega, hI0.2.1, fun j hj => ?_⟩; rcases Nat.lt_succ_iff_lt_or_eq.1 hj with h | h; exact hI0.2.2 j h; subst h; first | exact st_eq h3 | exact Decidable.not_not.1 h3
    · show List.length a - (k + 1) < List.length a - k
      omega
  ·
   refine At rfl ?_
   refine TK.exit ?_
   refine PK.exit rfl ?_
   refine Ap rfl ?_
   refine NR ⟨[], []⟩ (sb rfl rfl rfl) rfl ?_
   refine ag rfl ?_
   refine RN ?_
   refine Ap rfl ?_
   refine TK.ret ?_
   refine PK.ret ?_
   refine leaf (val0 := vB true) (by kernel_rfl) ?_
   exact lb (by first
          | exact (decide_eq_false fun e => by subst e; omega).symm
          | exact (decide_eq_false fun e => by subst e; first | exact st_ne h3 rfl | exact h3 rfl).symm
          | exact (decide_eq_true (eq_getD ([], []) hI0.2.1 fun j hj => hI0.2.2 j (by omega))).symm)
set_option maxHeartbeats 2000000 in
theorem w45 (a b : List (List UInt8)) (hl : a.length ≤ 1000000000000000) : CallOk Tryz.prog 45 [vL eN a, vL eN b] (lookM []) (vB (decide (a = b))) [] := by
 haveI := tab_ok
 obtain ⟨fn, f1, f2, f3, f4, _, f6⟩ := qf45
 refine callOk_of (Y := tab) (F := fn45) f1 (f2.trans rfl) f3 f4 f6 (Nat.le_of_ble_eq_true rfl) rfl ?_
 clear f1 f2 f3 f4 f6
 show TK _ _ _ _ _ _ ⟨[(0, vL eN a), (1, vL eN b)], []⟩
 refine At rfl ?_
 refine NR ⟨[(0, vL eN a), (1, vL eN b)], []⟩ (sb rfl rfl rfl) rfl ?_
 refine ag rfl ?_
 refine RN ?_
 refine Ap rfl ?_
 refine NR ⟨[(0, vL eN a), (1, vL eN b)], []⟩ (sb rfl rfl rfl) rfl ?_
 refine mv rfl ?_
 refine RO (Body.lenL rfl un73) ?_
 refine mv rfl ?_
 refine RO (Body.lenL rfl un73) ?_
 refine RO (Body.neq rfl rfl) ?_
 refine RN ?_
 refine Ap rfl ?_
 refine TK.norm ⟨[(0, vL eN a), (1, vL eN b), (10, vB (decide (((List.length a : Nat) : Int) ≠ ((List.length b : Nat) : Int))))], []⟩ (sb rfl rfl rfl) ?_
 refine TK.condP rfl (fun h1 => ?_) (fun h1 => ?_)
 ·
  refine At rfl ?_
  refine NR ⟨[], []⟩ (sb rfl rfl rfl) rfl ?_
  refine ag rfl ?_
  refine RN ?_
  refine Ap rfl ?_
  refine TK.ret ?_
  refine PK.ret ?_
  refine leaf (val0 := vB false) (by kernel_rfl) ?_
  exact lb (by first
          | exact (decide_eq_false fun e => by subst e; omega).symm
          | exact (decide_eq_false fun e => by subst e; first | exact st_ne h3 rfl | exact h3 rfl).symm
          | exact (decide_eq_true (eq_getD [] hI0.2.1 fun j hj => hI0.2.2 j (by omega))).symm)
 ·
  refine At rfl ?_
  refine NR ⟨[(0, vL eN a), (1, vL eN b)], []⟩ (sb rfl rfl rfl) rfl ?_
  refine ag rfl ?_
  refine RN ?_
  refine Ap rfl ?_
  refine TK.loop (α := Nat) (fun x => ⟨[(0, vL eN a), (1, vL eN b), (5, vI ((x : Nat) : Int))], []⟩) (fun x => x ≤ List.length a ∧ List.length a = List.length b ∧ ∀ j, j < x → List.getD a j [] = List.getD b j []) (fun x => List.length a - x) 0 ?_ (sb rfl rfl rfl) ?_
  · show 0 ≤ List.length a ∧ List.length a = List.length b ∧ ∀ j, j < 0 → List.getD a j [] = List.getD b j []
    exact ⟨Nat.zero_le _, by omega, fun j hj => by omega⟩
  rintro k hI0
  replace hI0 : k ≤ List.length a ∧ List.length a = List.length b ∧ ∀ j, j < k → List.getD a j [] = List.getD b j [] := hI0
  show TK _ _ _ _ _ _ ⟨[(0, vL eN a), (1, vL eN b), (5, vI ((k : Nat) : Int))], []⟩
  refine At rfl ?_
  refine NR ⟨[(0, vL eN a), (1, vL eN b), (5, vI ((k : Nat) : Int))], []⟩ (sb rfl rfl rfl) rfl ?_
  refine mv rfl ?_
  refine mv rfl ?_
  refine RO (Body.lenL rfl un73) ?_
  refine RO (Body.lss rfl rfl) ?_
  refine RN ?_
  refine Ap rfl ?_
  refine TK.norm ⟨[(0, vL eN a), (1, vL eN b), (5, vI ((k : Nat) : Int)), (14, vB (decide (((k : Nat) : Int) < ((List.length a : Nat) : Int))))], []⟩ (sb rfl rfl rfl) ?_
  refine TK.condP rfl (fun h2 => ?_) (fun h2 => ?_)
  ·
   refine At rfl ?_
   refine NR ⟨[(0, vL eN a), (1, vL eN b), (5, vI ((k : Nat) : Int))], []⟩ (sb rfl rfl rfl) rfl ?_
   refine mv rfl ?_
   refine mv rfl ?_
   refine RO (Body.idx (z := []) (i := k) rfl rfl un73 sz9 (fun _ => rfl) rfl (by omega)) ?_
   refine RO (Body.loadP rfl ag9 sz9) ?_
   refine mv rfl ?_
   refine mv rfl ?_
   refine RO (Body.idx (z := []) (i := k) rfl rfl un73 sz9 (fun _ => rfl) rfl (by omega)) ?_
   refine RO (Body.loadP rfl ag9 sz9) ?_
   refine RO (Body.sneB (a := (List.getD a k [])) (b := (List.getD b k [])) rfl rfl) ?_
   refine RG.nil (fun _ => by kernel_rfl) ?_
   refine Ap rfl ?_
   refine TK.norm ⟨[(0, vL eN a), (1, vL eN b), (5, vI ((k : Nat) : Int)), (25, vB (decide ((List.getD a k []) ≠ (List.getD b k []))))], []⟩ (sb rfl rfl rfl) ?_
   refine TK.condP rfl (fun h3 => ?_) (fun h3 => ?_)
   ·
    refine At rfl ?_
    refine NR ⟨[], []⟩ (sb rfl rfl rfl) rfl ?_
    refine ag rfl ?_
    refine RN ?_
    refine Ap rfl ?_
    refine TK.ret ?_
    refine PK.ret ?_
    refine leaf (val0 := vB false) (by kernel_rfl) ?_
    exact lb (by first
          | exact (decide_eq_false fun e => by subst e; omega).symm
          | exact (decide_eq_false fun e => by subst e; first | exact st_ne h3 rfl | exact h3 rfl).symm
          | exact (decide_eq_true (eq_getD [] hI0.2.1 fun j hj => hI0.2.2 j (by omega))).symm)
   ·
    refine At rfl ?_
    refine NR ⟨[(0, vL eN a), (1, vL eN b), (5, vI ((k : Nat) : Int))], []⟩ (sb rfl rfl rfl) rfl ?_
    refine mv rfl ?_
    refine RO (Body.add rfl rfl (by unfold R64; omega)) ?_
    refine ag rfl ?_
    refine RN ?_
    refine Aq rfl ?_
    refine PK.lp ?_
    refine LP.mk (k + 1) ?_ ?_ (sb rfl rfl rfl)
    · show (k + 1) ≤ List.length a ∧ List.length a = List.length b ∧ ∀ j, j < (k + 1) → List.getD a j [] = List.getD b j []
      refine ⟨by omega, hI0.2.1, fun j hj => ?_⟩; rcases Nat.lt_succ_iff_lt_or_eq.1 hj with h | h; exact hI0.2.2 j h; subst h; first | exact st_eq h3 | exact Decidable.not_not.1 h3
    · show List.length a - (k + 1) < List.length a - k
      omega
  ·
   refine At rfl ?_
   refine TK.exit ?_
   refine PK.exit rfl ?_
   refine Ap rfl ?_
   refine NR ⟨[], []⟩ (sb rfl rfl rfl) rfl ?_
   refine ag rfl ?_
   refine RN ?_
   refine Ap rfl ?_
   refine TK.ret ?_
   refine PK.ret ?_
   refine leaf (val0 := vB true) (by kernel_rfl) ?_
   exact lb (by first
          | exact (decide_eq_false fun e => by subst e; omega).symm
          | exact (decide_eq_false fun e => by subst e; first | exact st_ne h3 rfl | exact h3 rfl).symm
          | exact (decide_eq_true (eq_getD [] hI0.2.1 fun j hj => hI0.2.2 j (by omega))).symm)
set_option maxHeartbeats 2000000 in
theorem w53 (l : List Fld) (n : List UInt8) (hl : l.length ≤ 1000000000000000) : CallOk Tryz.prog 53 [vL eF l, vS (bsO n)] (lookM []) (.tup [vS (bsO (Option.getD (getF n l) [])), vB (Option.isSome (getF n l))]) [] := by
 haveI := tab_ok
 obtain ⟨fn, f1, f2, f3, f4, _, f6⟩ := qf53
 refine callOk_of (Y := tab) (F := fn53) f1 (f2.trans rfl) f3 f4 f6 (Nat.le_of_ble_eq_true rfl) rfl ?_
 clear f1 f2 f3 f4 f6
 show TK _ _ _ _ _ _ ⟨[(0, vL eF l), (1, vS (bsO n))], []⟩
 refine At rfl ?_
 refine NR ⟨[(0, vL eF l), (1, vS (bsO n))], []⟩ (sb rfl rfl rfl) rfl ?_
 refine ag rfl ?_
 refine ag rfl ?_
 refine RN ?_
 refine Ap rfl ?_
 refine NR ⟨[(0, vL eF l), (1, vS (bsO n))], []⟩ (sb rfl rfl rfl) rfl ?_
 refine ag rfl ?_
 refine RN ?_
 refine Ap rfl ?_
 refine TK.loop (α := Nat) (fun x => ⟨[(0, vL eF l), (1, vS (bsO n)), (6, vI ((x : Nat) : Int))], []⟩) (fun x => x ≤ List.length l ∧ getF n l = getF n (List.drop x l)) (fun x => List.length l - x) 0 ?_ (sb rfl rfl rfl) ?_
 · show 0 ≤ List.length l ∧ getF n l = getF n (List.drop 0 l)
   exact ⟨Nat.zero_le _, rfl⟩
 rintro k hI0
 replace hI0 : k ≤ List.length l ∧ getF n l = getF n (List.drop k l) := hI0
 show TK _ _ _ _ _ _ ⟨[(0, vL eF l), (1, vS (bsO n)), (6, vI ((k : Nat) : Int))], []⟩
 refine At rfl ?_
 refine NR ⟨[(0, vL eF l), (1, vS (bsO n)), (6, vI ((k : Nat) : Int))], []⟩ (sb rfl rfl rfl) rfl ?_
 refine mv rfl ?_
 refine mv rfl ?_
 refine RO (Body.lenL rfl un60) ?_
 refine RO (Body.lss rfl rfl) ?_
 refine RN ?_
 refine Ap rfl ?_
 refine TK.norm ⟨[(0, vL eF l), (1, vS (bsO n)), (6, vI ((k : Nat) : Int)), (10, vB (decide (((k : Nat) : Int) < ((List.length l : Nat) : Int))))], []⟩ (sb rfl rfl rfl) ?_
 refine TK.condP rfl (fun h1 => ?_) (fun h1 => ?_)
 ·
  refine At rfl ?_
  refine NR ⟨[(0, vL eF l), (1, vS (bsO n)), (6, vI ((k : Nat) : Int))], []⟩ (sb rfl rfl rfl) rfl ?_
  refine mv rfl ?_
  refine mv rfl ?_
  refine RO (Body.idx (z := ([], [])) (i := k) rfl rfl un60 sz175 (fun _ => rfl) rfl (by omega)) ?_
  refine RO (Body.fadP rfl fa175_0 rfl) ?_
  refine RO (Body.loadP rfl ag9 sz9) ?_
  refine mv rfl ?_
  refine RO (Body.seqB (a := (Prod.fst (List.getD l k ([], [])))) (b := n) rfl rfl) ?_
  refine RN ?_
  refine Ap rfl ?_
  refine TK.norm ⟨[(0, vL eF l), (1, vS (bsO n)), (6, vI ((k : Nat) : Int)), (19, vB (decide ((Prod.fst (List.getD l k ([], []))) = n)))], []⟩ (sb rfl rfl rfl) ?_
  refine TK.condP rfl (fun h2 => ?_) (fun h2 => ?_)
  ·
   refine At rfl ?_
   refine NR ⟨[(0, vL eF l), (6, vI ((k : Nat) : Int))], []⟩ (sb rfl rfl rfl) rfl ?_
   refine mv rfl ?_
   refine mv rfl ?_
   refine RO (Body.idx (z := ([], [])) (i := k) rfl rfl un60 sz175 (fun _ => rfl) rfl (by omega)) ?_
   refine RO (Body.fadP rfl fa175_1 rfl) ?_
   refine RO (Body.loadP rfl ag9 sz9) ?_
   refine ag rfl ?_
   refine ag rfl ?_
   refine RN ?_
   refine Ap rfl ?_
   refine TK.ret ?_
   refine PK.ret ?_
   refine leaf (val0 := .tup [vS (bsO (Prod.snd (List.getD l k ([], [])))), vB true]) (by kernel_rfl) ?_
   exact tup2 (ls (by first
          | (rw [hI0.2, getF_hit (by omega) h2]; rfl)
          | (rw [hI0.2, List.drop_eq_nil_of_le (by omega)]; rfl))) (lb (by first
          | (rw [hI0.2, getF_hit (by omega) h2]; rfl)
          | (rw [hI0.2, List.drop_eq_nil_of_le (by omega)]; rfl)))
  ·
   refine At rfl ?_
   refine NR ⟨[(0, vL eF l), (1, vS (bsO n)), (6, vI ((k : Nat) : Int))], []⟩ (sb rfl rfl rfl) rfl ?_
   refine mv rfl ?_
   refine RO (Body.add rfl rfl (by unfold R64; omega)) ?_
   refine ag rfl ?_
   refine RN ?_
   refine Aq rfl ?_
   refine PK.lp ?_
   refine LP.mk (k + 1) ?_ ?_ (sb rfl rfl rfl)
   · show (k + 1) ≤ List.length l ∧ getF n l = getF n (List.drop (k + 1) l)
     refine ⟨by omega, ?_⟩; rw [hI0.2]; exact getF_skip (by omega) h2
   · show List.length l - (k + 1) < List.length l - k
     omega
 ·
  refine At rfl ?_
  refine TK.exit ?_
  refine PK.exit rfl ?_
  refine Ap rfl ?_
  refine NR ⟨[], []⟩ (sb rfl rfl rfl) rfl ?_
  refine ag rfl ?_
  refine ag rfl ?_
  refine RN ?_
  refine Ap rfl ?_
  refine TK.ret ?_
  refine PK.ret ?_
  refine leaf (val0 := .tup [vS (bsO []), vB false]) (by kernel_rfl) ?_
  exact tup2 (ls (by first
          | (rw [hI0.2, getF_hit (by omega) h2]; rfl)
          | (rw [hI0.2, List.drop_eq_nil_of_le (by omega)]; rfl))) (lb (by first
          | (rw [hI0.2, getF_hit (by omega) h2]; rfl)
          | (rw [hI0.2, List.drop_eq_nil_of_le (by omega)]; rfl)))
end Go.Lens.Tm
end
section
namespace Go.Lens.Tm
open Go.Lens.Tb Go.Proofs
set_option linter.unusedSectionVars false
theorem permI_high {c : Int} (h : 128 ≤ c) : permI c = false := by
 unfold permI
 rw [decide_eq_false (p := c ≤ 122) (by omega), decide_eq_false (p := c ≤ 90) (by omega), decide_eq_false (p := c ≤ 57) (by omega), decide_eq_false (p := c = 46) (by omega), decide_eq_false (p := c = 45) (by omega), decide_eq_false (p := c = 47) (by omega), decide_eq_false (p := c = 95) (by omega)]
 simp
theorem rune_perm {s : ByteArray} {p : Nat} (h : p < s.size) : permI (((Utf8.decode s p).1 : Nat) : Int) = permI (byteAt s p) ∧ (permI (byteAt s p) = true → (Utf8.decode s p).2 = 1) := by
 rw [byteAt_get h]
 rcases Nat.lt_or_ge (s[p]'h).toNat 128 with ha | ha
 ·rw [decode_ascii s p h ha]
  exact ⟨rfl, fun _ => rfl⟩
 ·have := decode_high s p h ha
  rw [permI_high (by omega), permI_high (by omega)]
  exact ⟨rfl, fun h => by cases h⟩
theorem rune_pq {s : List UInt8} {p : Nat} (h : p < (bsO s).size) {b : Bool} (hb : ((!(permI (((Utf8.decode (bsO s) p).1 : Nat) : Int))) == true) = b) : permI (((s.getD p 0).toNat : Nat) : Int) = !b := by
 rw [(rune_perm h).1] at hb
 have hb : ((!(permI (((s.getD p 0).toNat : Nat) : Int))) == true) = b := hb
 rw [← hb]
 cases permI (((s.getD p 0).toNat : Nat) : Int) <;> rfl
theorem rune_w {s : List UInt8} {p : Nat} (h : p < (bsO s).size) (hb : permI (((s.getD p 0).toNat : Nat) : Int) = true) : (Utf8.decode (bsO s) p).2 = 1 := (rune_perm h).2 hb
theorem perm_any (s : List UInt8) : (!(List.any s (fun b => !(permI ((b.toNat : Nat) : Int))))) = permS s := by
 unfold permS
 rw [List.not_any_eq_all_not]
 simp
end Go.Lens.Tm
end
section
namespace Go.Lens.Tm
open Go.Lens.Tb Go.Proofs
variable [Lz]
set_option linter.unusedSectionVars false
set_option maxRecDepth 100000
attribute [local irreducible] TK PK T RG EfR Body
set_option maxHeartbeats 2000000 in
theorem w174 (c : Int) : CallOk Tryz.prog 174 [.pv (.lit (.int .i32 c))] (lookM []) (vB (!(permI c))) [] := by
 haveI := tab_ok
 obtain ⟨fn, f1, f2, f3, f4, _, f6⟩ := qf174
 refine callOk_of (Y := tab) (F := fn174) f1 (f2.trans rfl) f3 f4 f6 (Nat.le_of_ble_eq_true rfl) rfl ?_
 clear f1 f2 f3 f4 f6
 show TK _ _ _ _ _ _ ⟨[(0, .pv (.lit (.int .i32 c)))], []⟩
 refine At rfl ?_
 refine NR ⟨[(0, .pv (.lit (.int .i32 c)))], []⟩ (sb rfl rfl rfl) rfl ?_
 refine ag rfl ?_
 refine RN ?_
 refine Ap rfl ?_
 refine NR ⟨[(0, .pv (.lit (.int .i32 c)))], []⟩ (sb rfl rfl rfl) rfl ?_
 refine mv rfl ?_
 refine RO (Body.lss rfl rfl) ?_
 refine mv rfl ?_
 refine RG.cons (EfR.sym rfl (fun hc => Body.move rfl) rfl) ?_
 refine RG.cons (EfR.sym rfl (fun hc => Body.gtr (ev1_gd rfl hc) rfl) rfl) ?_
 refine RO (Body.pick rfl rfl rfl rfl (gdB rfl) (pick_or _)) ?_
 refine mv rfl ?_
 refine RG.cons (EfR.sym rfl (fun hc => Body.move rfl) rfl) ?_
 refine RG.cons (EfR.sym rfl (fun hc => Body.lss (ev1_gd rfl hc) rfl) rfl) ?_
 refine RG.cons (EfR.sym rfl (fun hc => Body.move (ev1_gd rfl hc)) rfl) ?_
 refine RG.cons (EfR.sym rfl (fun hc => Body.move rfl) rfl) ?_
 refine RG.cons (EfR.sym rfl (fun hc => Body.gtr (ev1_gd rfl hc) rfl) rfl) ?_
 refine RG.cons (EfR.sym rfl (fun hc => Body.pick (ev1_gd rfl hc) rfl rfl rfl (gdB rfl) (pick_or2 hc)) rfl) ?_
 refine RO (Body.pick rfl rfl rfl (gdB rfl) rfl (pick_and _)) ?_
 refine mv rfl ?_
 refine RG.cons (EfR.sym rfl (fun hc => Body.move rfl) rfl) ?_
 refine RG.cons (EfR.sym rfl (fun hc => Body.lss (ev1_gd rfl hc) rfl) rfl) ?_
 refine RG.cons (EfR.sym rfl (fun hc => Body.move (ev1_gd rfl hc)) rfl) ?_
 refine RG.cons (EfR.sym rfl (fun hc => Body.move rfl) rfl) ?_
 refine RG.cons (EfR.sym rfl (fun hc => Body.gtr (ev1_gd rfl hc) rfl) rfl) ?_
 refine RG.cons (EfR.sym rfl (fun hc => Body.pick (ev1_gd rfl hc) rfl rfl rfl (gdB rfl) (pick_or2 hc)) rfl) ?_
 refine RO (Body.pick rfl rfl rfl (gdB rfl) rfl (pick_and _)) ?_
 refine mv rfl ?_
 refine RG.cons (EfR.sym rfl (fun hc => Body.move rfl) rfl) ?_
 refine RG.cons (EfR.sym rfl (fun hc => Body.neq (ev1_gd rfl hc) rfl) rfl) ?_
 refine RO (Body.pick rfl rfl rfl (gdB rfl) rfl (pick_and _)) ?_
 refine mv rfl ?_
 refine RG.cons (EfR.sym rfl (fun hc => Body.move rfl) rfl) ?_
 refine RG.cons (EfR.sym rfl (fun hc => Body.neq (ev1_gd rfl hc) rfl) rfl) ?_
 refine RO (Body.pick rfl rfl rfl (gdB rfl) rfl (pick_and _)) ?_
 refine mv rfl ?_
 refine RG.cons (EfR.sym rfl (fun hc => Body.move rfl) rfl) ?_
 refine RG.cons (EfR.sym rfl (fun hc => Body.neq (ev1_gd rfl hc) rfl) rfl) ?_
 refine RO (Body.pick rfl rfl rfl (gdB rfl) rfl (pick_and _)) ?_
 refine mv rfl ?_
 refine RG.cons (EfR.sym rfl (fun hc => Body.move rfl) rfl) ?_
 refine RG.cons (EfR.sym rfl (fun hc => Body.neq (ev1_gd rfl hc) rfl) rfl) ?_
 refine RO (Body.pick rfl rfl rfl (gdB rfl) rfl (pick_and _)) ?_
 refine ag rfl ?_
 refine RN ?_
 refine Ap rfl ?_
 refine TK.ret ?_
 refine PK.ret ?_
 refine leaf (val0 := vB (bif (bif (bif (bif (bif (bif (bif (decide (c < 97)) then true else (decide (122 < c))) then (bif (decide (c < 65)) then true else (decide (90 < c))) else false) then (bif (decide (c < 48)) then true else (decide (57 < c))) else false) then (decide (c ≠ 46)) else false) then (decide (c ≠ 45)) else false) then (decide (c ≠ 47)) else false) then (decide (c ≠ 95)) else false)) (by kernel_rfl) ?_
 exact lb (by rw [perm_not]; simp only [bif_or, bif_and])
set_option maxHeartbeats 2000000 in
theorem w292 (s : List UInt8) (hl : s.length ≤ 1000000000000000) : CallOk Tryz.prog 292 [vS (bsO s), .pv (.fn (.func 174) [] []), vB true] (lookM []) (vI (findI (fun b => !(permI ((b.toNat : Nat) : Int))) s)) [] := by
 haveI := tab_ok
 obtain ⟨fn, f1, f2, f3, f4, _, f6⟩ := qf292
 refine callOk_of (Y := tab) (F := fn292) f1 (f2.trans rfl) f3 f4 f6 (Nat.le_of_ble_eq_true rfl) rfl ?_
 clear f1 f2 f3 f4 f6
 show TK _ _ _ _ _ _ ⟨[(0, vS (bsO s)), (1, .pv (.fn (.func 174) [] [])), (2, vB true)], []⟩
 refine At rfl ?_
 refine NR ⟨[(0, vS (bsO s)), (1, .pv (.fn (.func 174) [] [])), (2, vB true)], []⟩ (sb rfl rfl rfl) rfl ?_
 refine ag rfl ?_
 refine RN ?_
 refine Ap rfl ?_
 refine NR ⟨[(0, vS (bsO s)), (1, .pv (.fn (.func 174) [] [])), (2, vB true)], []⟩ (sb rfl rfl rfl) rfl ?_
 refine mv rfl ?_
 refine RO (Body.rangeS rfl un9 rfl rfl) ?_
 refine RN ?_
 refine Ap rfl ?_
 refine TK.loop (α := Nat) (fun x => ⟨[(1, .pv (.fn (.func 174) [] [])), (2, vB true), (10, .bref 11 0)], [(11, .siter (bsO s) x)]⟩) (fun x => x ≤ List.length s ∧ ∀ j, j < x → permI (((List.getD s j 0).toNat : Nat) : Int) = true) (fun x => List.length s - x) 0 ?_ (sb rfl rfl rfl) ?_
 · show 0 ≤ List.length s ∧ ∀ j, j < 0 → permI (((List.getD s j 0).toNat : Nat) : Int) = true
   exact ⟨Nat.zero_le _, fun j hj => by omega⟩
 rintro p hI0
 replace hI0 : p ≤ List.length s ∧ ∀ j, j < p → permI (((List.getD s j 0).toNat : Nat) : Int) = true := hI0
 show TK _ _ _ _ _ _ ⟨[(1, .pv (.fn (.func 174) [] [])), (2, vB true), (10, .bref 11 0)], [(11, .siter (bsO s) p)]⟩
 refine At rfl ?_
 refine NR ⟨[(1, .pv (.fn (.func 174) [] [])), (2, vB true), (10, .bref 11 0)], [(11, .siter (bsO s) p)]⟩ (sb rfl rfl rfl) rfl ?_
 refine RG.next rfl rfl rfl (fun h1 => ?_) (fun h1 => ?_)
 ·
  refine rn rfl ?_
  refine RN ?_
  refine Ap rfl ?_
  refine TK.norm ⟨[(1, .pv (.fn (.func 174) [] [])), (2, vB true), (10, .bref 11 0), (11, .tup [vB true, vI ((p : Nat) : Int), .pv (.lit (.int .i32 (((Utf8.decode (bsO s) p).1 : Nat) : Int)))]), (12, vB true)], [(11, .siter (bsO s) (p + (Utf8.decode (bsO s) p).2))]⟩ (sb rfl rfl rfl) ?_
  refine TK.condT rfl ?_
  refine At rfl ?_
  refine NR ⟨[(1, .pv (.fn (.func 174) [] [])), (2, vB true), (10, .bref 11 0), (11, .tup [vB true, vI ((p : Nat) : Int), .pv (.lit (.int .i32 (((Utf8.decode (bsO s) p).1 : Nat) : Int)))])], [(11, .siter (bsO s) (p + (Utf8.decode (bsO s) p).2))]⟩ (sb rfl rfl rfl) rfl ?_
  refine rn rfl ?_
  refine rn rfl ?_
  refine ag rfl ?_
  refine ag rfl ?_
  refine RN ?_
  refine Ap rfl ?_
  refine NR ⟨[(1, .pv (.fn (.func 174) [] [])), (2, vB true), (7, vI ((p : Nat) : Int)), (8, .pv (.lit (.int .i32 (((Utf8.decode (bsO s) p).1 : Nat) : Int)))), (10, .bref 11 0)], [(11, .siter (bsO s) (p + (Utf8.decode (bsO s) p).2))]⟩ (sb rfl rfl rfl) rfl ?_
  refine mv rfl ?_
  refine mv rfl ?_
  refine RO (Body.call (w174 (((Utf8.decode (bsO s) p).1 : Nat) : Int)) rfl rfl rfl) ?_
  refine mv rfl ?_
  refine rn rfl ?_
  refine RN ?_
  refine Ap rfl ?_
  refine TK.norm ⟨[(1, .pv (.fn (.func 174) [] [])), (2, vB true), (7, vI ((p : Nat) : Int)), (10, .bref 11 0), (19, vB ((!(permI (((Utf8.decode (bsO s) p).1 : Nat) : Int))) == true))], [(11, .siter (bsO s) (p + (Utf8.decode (bsO s) p).2))]⟩ (sb rfl rfl rfl) ?_
  refine TK.cond rfl (fun h2 => ?_) (fun h2 => ?_)
  ·
   refine At rfl ?_
   refine NR ⟨[(7, vI ((p : Nat) : Int))], []⟩ (sb rfl rfl rfl) rfl ?_
   refine mv rfl ?_
   refine ag rfl ?_
   refine RN ?_
   refine Ap rfl ?_
   refine TK.ret ?_
   refine PK.ret ?_
   refine leaf (val0 := vI ((p : Nat) : Int)) (by kernel_rfl) ?_
   exact li (by first
          | (have hn := rune_pq h1 h2; have hz : p < List.length s := h1; exact (findI_some (p := (fun b => !(permI ((b.toNat : Nat) : Int)))) (l := s) (z := 0) p hz (fun j hj => by rw [hI0.2 j hj]; rfl) (by rw [hn]; rfl)).symm)
          | (have hz : ¬ p < List.length s := h1; exact (findI_none (p := (fun b => !(permI ((b.toNat : Nat) : Int)))) (l := s) (z := 0) fun j hj => by rw [hI0.2 j (by omega)]; rfl).symm))
  ·
   refine Au rfl ?_
   refine PK.lp ?_
   refine LP.mk (p + (Utf8.decode (bsO s) p).2) ?_ ?_ (sb rfl rfl rfl)
   · show (p + (Utf8.decode (bsO s) p).2) ≤ List.length s ∧ ∀ j, j < (p + (Utf8.decode (bsO s) p).2) → permI (((List.getD s j 0).toNat : Nat) : Int) = true
     have hn := rune_pq h1 h2; have hz : p < List.length s := h1; rw [rune_w h1 hn]; refine ⟨by omega, fun j hj => ?_⟩; rcases Nat.lt_succ_iff_lt_or_eq.1 hj with h | h; exact hI0.2 j h; subst h; exact hn
   · show List.length s - (p + (Utf8.decode (bsO s) p).2) < List.length s - p
     have hn := rune_pq h1 h2; have hz : p < List.length s := h1; rw [rune_w h1 hn]; omega
 ·
  refine rn rfl ?_
  refine RN ?_
  refine Ap rfl ?_
  refine TK.norm ⟨[(1, .pv (.fn (.func 174) [] [])), (2, vB true), (10, .bref 11 0), (11, .tup [vB false]), (12, vB false)], [(11, .siter (bsO s) p)]⟩ (sb rfl rfl rfl) ?_
  refine TK.condF rfl ?_
  refine At rfl ?_
  refine TK.exit ?_
  refine PK.exit rfl ?_
  refine Ap rfl ?_
  refine NR ⟨[], []⟩ (sb rfl rfl rfl) rfl ?_
  refine ag rfl ?_
  refine RN ?_
  refine Ap rfl ?_
  refine TK.ret ?_
  refine PK.ret ?_
  refine leaf (val0 := vI (-1)) (by kernel_rfl) ?_
  exact li (by first
          | (have hn := rune_pq h1 h2; have hz : p < List.length s := h1; exact (findI_some (p := (fun b => !(permI ((b.toNat : Nat) : Int)))) (l := s) (z := 0) p hz (fun j hj => by rw [hI0.2 j hj]; rfl) (by rw [hn]; rfl)).symm)
          | (have hz : ¬ p < List.length s := h1; exact (findI_none (p := (fun b => !(permI ((b.toNat : Nat) : Int)))) (l := s) (z := 0) fun j hj => by rw [hI0.2 j (by omega)]; rfl).symm))
set_option maxHeartbeats 2000000 in
theorem w247 (s : List UInt8) (hl : s.length ≤ 1000000000000000) : CallOk Tryz.prog 247 [vS (bsO s), .pv (.fn (.func 174) [] [])] (lookM []) (vI (findI (fun b => !(permI ((b.toNat : Nat) : Int))) s)) [] := by
 haveI := tab_ok
 obtain ⟨fn, f1, f2, f3, f4, _, f6⟩ := qf247
 refine callOk_of (Y := tab) (F := fn247) f1 (f2.trans rfl) f3 f4 f6 (Nat.le_of_ble_eq_true rfl) rfl ?_
 clear f1 f2 f3 f4 f6
 show TK _ _ _ _ _ _ ⟨[(0, vS (bsO s)), (1, .pv (.fn (.func 174) [] []))], []⟩
 refine At rfl ?_
 refine NR ⟨[(0, vS (bsO s)), (1, .pv (.fn (.func 174) [] []))], []⟩ (sb rfl rfl rfl) rfl ?_
 refine ag rfl ?_
 refine RN ?_
 refine Ap rfl ?_
 refine NR ⟨[(0, vS (bsO s)), (1, .pv (.fn (.func 174) [] []))], []⟩ (sb rfl rfl rfl) rfl ?_
 refine mv rfl ?_
 refine mv rfl ?_
 refine RO (Body.call (w292 s (by first | omega | exact Nat.le_of_ble_eq_true rfl | (simp only [List.length_append, List.length_cons, List.length_nil, List.length_take, List.length_drop]; omega))) rfl rfl rfl) ?_
 refine ag rfl ?_
 refine RN ?_
 refine Ap rfl ?_
 refine TK.ret ?_
 refine PK.ret ?_
 refine leaf (val0 := vI (findI (fun b => !(permI ((b.toNat : Nat) : Int))) s)) (by kernel_rfl) ?_
 exact rfl
set_option maxHeartbeats 2000000 in
theorem w173 (s : List UInt8) (hl : s.length ≤ 1000000000000000) : CallOk Tryz.prog 173 [vS (bsO s), .pv (.fn (.func 174) [] [])] (lookM []) (vB (List.any s (fun b => !(permI ((b.toNat : Nat) : Int))))) [] := by
 haveI := tab_ok
 obtain ⟨fn, f1, f2, f3, f4, _, f6⟩ := qf173
 refine callOk_of (Y := tab) (F := fn173) f1 (f2.trans rfl) f3 f4 f6 (Nat.le_of_ble_eq_true rfl) rfl ?_
 clear f1 f2 f3 f4 f6
 show TK _ _ _ _ _ _ ⟨[(0, vS (bsO s)), (1, .pv (.fn (.func 174) [] []))], []⟩
 refine At rfl ?_
 refine NR ⟨[(0, vS (bsO s)), (1, .pv (.fn (.func 174) [] []))], []⟩ (sb rfl rfl rfl) rfl ?_
 refine ag rfl ?_
 refine RN ?_
 refine Ap rfl ?_
 refine NR ⟨[(0, vS (bsO s)), (1, .pv (.fn (.func 174) [] []))], []⟩ (sb rfl rfl rfl) rfl ?_
 refine mv rfl ?_
 refine mv rfl ?_
 refine RO (Body.call (w247 s (by first | omega | exact Nat.le_of_ble_eq_true rfl | (simp only [List.length_append, List.length_cons, List.length_nil, List.length_take, List.length_drop]; omega))) rfl rfl rfl) ?_
 refine RO (Body.geq rfl rfl) ?_
 refine ag rfl ?_
 refine RN ?_
 refine Ap rfl ?_
 refine TK.ret ?_
 refine PK.ret ?_
 refine leaf (val0 := vB (decide (0 ≤ (findI (fun b => !(permI ((b.toNat : Nat) : Int))) s)))) (by kernel_rfl) ?_
 exact lb (by exact findI_nonneg s)
set_option maxHeartbeats 2000000 in
theorem w120 (s : List UInt8) (hl : s.length ≤ 1000000000000000) : CallOk Tryz.prog 120 [vS (bsO s)] (lookM []) (vB (permS s)) [] := by
 haveI := tab_ok
 obtain ⟨fn, f1, f2, f3, f4, _, f6⟩ := qf120
 refine callOk_of (Y := tab) (F := fn120) f1 (f2.trans rfl) f3 f4 f6 (Nat.le_of_ble_eq_true rfl) rfl ?_
 clear f1 f2 f3 f4 f6
 show TK _ _ _ _ _ _ ⟨[(0, vS (bsO s))], []⟩
 refine At rfl ?_
 refine NR ⟨[(0, vS (bsO s))], []⟩ (sb rfl rfl rfl) rfl ?_
 refine ag rfl ?_
 refine RN ?_
 refine Ap rfl ?_
 refine NR ⟨[(0, vS (bsO s))], []⟩ (sb rfl rfl rfl) rfl ?_
 refine mv rfl ?_
 refine RO (Body.call (w173 s (by first | omega | exact Nat.le_of_ble_eq_true rfl | (simp only [List.length_append, List.length_cons, List.length_nil, List.length_take, List.length_drop]; omega))) rfl rfl rfl) ?_
 refine RO (Body.not rfl) ?_
 refine ag rfl ?_
 refine RN ?_
 refine Ap rfl ?_
 refine TK.ret ?_
 refine PK.ret ?_
 refine leaf (val0 := vB (!(List.any s (fun b => !(permI ((b.toNat : Nat) : Int)))))) (by kernel_rfl) ?_
 exact lb (by exact perm_any s)
set_option maxHeartbeats 2000000 in
theorem w41 (l : List Fld) (hl : l.length ≤ 1000000000000000) (hc : ∀ f ∈ l, f.2.length ≤ 1000000000000000) : CallOk Tryz.prog 41 [vL eF l] (lookM []) (vI (chkFl l)) [] := by
 haveI := tab_ok
 obtain ⟨fn, f1, f2, f3, f4, _, f6⟩ := qf41
 refine callOk_of (Y := tab) (F := fn41) f1 (f2.trans rfl) f3 f4 f6 (Nat.le_of_ble_eq_true rfl) rfl ?_
 clear f1 f2 f3 f4 f6
 show TK _ _ _ _ _ _ ⟨[(0, vL eF l)], []⟩
 refine At rfl ?_
 refine NR ⟨[(0, vL eF l)], []⟩ (sb rfl rfl rfl) rfl ?_
 refine ag rfl ?_
 refine RN ?_
 refine Ap rfl ?_
 refine NR ⟨[(0, vL eF l)], []⟩ (sb rfl rfl rfl) rfl ?_
 refine mv rfl ?_
 refine RO (Body.lenL rfl un59) ?_
 refine RO (Body.gtr rfl rfl) ?_
 refine RN ?_
 refine Ap rfl ?_
 refine TK.norm ⟨[(0, vL eF l), (9, vB (decide (24 < ((List.length l : Nat) : Int))))], []⟩ (sb rfl rfl rfl) ?_
 refine TK.condP rfl (fun h1 => ?_) (fun h1 => ?_)
 ·
  refine At rfl ?_
  refine NR ⟨[], []⟩ (sb rfl rfl rfl) rfl ?_
  refine ag rfl ?_
  refine RN ?_
  refine Ap rfl ?_
  refine TK.ret ?_
  refine PK.ret ?_
  refine leaf (val0 := vI 5) (by kernel_rfl) ?_
  exact li (by first
          | (unfold chkFl; rw [decide_eq_true (by omega)]; rfl)
          | (rw [first_fld] at h3 ⊢; rw [hI0.2.2, fGo_err (by omega) h3])
          | (rw [hI0.2.2, show List.length l - k = 0 by omega]; rfl))
 ·
  refine At rfl ?_
  refine NR ⟨[(0, vL eF l)], []⟩ (sb rfl rfl rfl) rfl ?_
  refine mv rfl ?_
  refine RO (Body.lenL rfl un59) ?_
  refine mv rfl ?_
  refine RN ?_
  refine Ap rfl ?_
  refine TK.loop (α := Nat) (fun x => ⟨[(0, vL eF l), (10, vL eF l), (11, vI ((List.length l : Nat) : Int)), (12, vI ((x : Nat) : Int))], []⟩) (fun x => x ≤ List.length l ∧ List.length l ≤ 24 ∧ chkFl l = fGo l (List.length l - x) x) (fun x => List.length l - x) 0 ?_ (sb rfl rfl rfl) ?_
  · show 0 ≤ List.length l ∧ List.length l ≤ 24 ∧ chkFl l = fGo l (List.length l - 0) 0
    exact ⟨Nat.zero_le _, by omega, by unfold chkFl; rw [decide_eq_false (by omega)]; rfl⟩
  rintro k hI0
  replace hI0 : k ≤ List.length l ∧ List.length l ≤ 24 ∧ chkFl l = fGo l (List.length l - k) k := hI0
  show TK _ _ _ _ _ _ ⟨[(0, vL eF l), (10, vL eF l), (11, vI ((List.length l : Nat) : Int)), (12, vI ((k : Nat) : Int))], []⟩
  refine At rfl ?_
  refine NR ⟨[(0, vL eF l), (10, vL eF l), (11, vI ((List.length l : Nat) : Int)), (12, vI ((k : Nat) : Int))], []⟩ (sb rfl rfl rfl) rfl ?_
  refine RO (Body.lss rfl rfl) ?_
  refine RN ?_
  refine Ap rfl ?_
  refine TK.norm ⟨[(0, vL eF l), (10, vL eF l), (11, vI ((List.length l : Nat) : Int)), (12, vI ((k : Nat) : Int)), (13, vB (decide (((k : Nat) : Int) < ((List.length l : Nat) : Int))))], []⟩ (sb rfl rfl rfl) ?_
  refine TK.condP rfl (fun h2 => ?_) (fun h2 => ?_)
  ·
   refine At rfl ?_
   refine NR ⟨[(0, vL eF l), (10, vL eF l), (11, vI ((List.length l : Nat) : Int)), (12, vI ((k : Nat) : Int))], []⟩ (sb rfl rfl rfl) rfl ?_
   refine mv rfl ?_
   refine RO (Body.idx (z := ([], [])) (i := k) rfl rfl un59 sz174 (fun _ => rfl) rfl (by omega)) ?_
   refine RO (Body.loadA (ds := [pS (bsO (Prod.fst (List.getD l k ([], [])))), pS (bsO (Prod.snd (List.getD l k ([], []))))]) rfl ag174 sz174 (Nat.le_of_ble_eq_true rfl) rfl) ?_
   refine rn rfl ?_
   refine ag rfl ?_
   refine rn rfl ?_
   refine RN ?_
   refine Ap rfl ?_
   refine NR ⟨[(0, vL eF l), (3, vI ((k : Nat) : Int)), (4, .bref 5 0), (10, vL eF l), (11, vI ((List.length l : Nat) : Int)), (12, vI ((k : Nat) : Int))], [(5, .box 174 [vS (bsO (Prod.fst (List.getD l k ([], [])))), vS (bsO (Prod.snd (List.getD l k ([], []))))])]⟩ (sb rfl rfl rfl) rfl ?_
   refine mv rfl ?_
   refine mv rfl ?_
   refine RO (Body.sub rfl rfl (by unfold R64; omega)) ?_
   refine RO (Body.max rfl rfl) ?_
   refine RO (Body.idx (z := ([], [])) (i := (k - 1)) rfl rfl un59 sz174 (fun _ => rfl) (by omega) (by omega)) ?_
   refine RO (Body.loadA (ds := [pS (bsO (Prod.fst (List.getD l (k - 1) ([], [])))), pS (bsO (Prod.snd (List.getD l (k - 1) ([], []))))]) rfl ag174 sz174 (Nat.le_of_ble_eq_true rfl) rfl) ?_
   refine rn rfl ?_
   refine rn rfl ?_
   refine RN ?_
   refine Ap rfl ?_
   refine TK.norm ⟨[(0, vL eF l), (3, vI ((k : Nat) : Int)), (4, .bref 5 0), (5, .bref 6 0), (10, vL eF l), (11, vI ((List.length l : Nat) : Int)), (12, vI ((k : Nat) : Int))], [(5, .box 174 [vS (bsO (Prod.fst (List.getD l k ([], [])))), vS (bsO (Prod.snd (List.getD l k ([], []))))]), (6, .box 174 [vS (bsO (Prod.fst (List.getD l (k - 1) ([], [])))), vS (bsO (Prod.snd (List.getD l (k - 1) ([], []))))])]⟩ (sb rfl rfl rfl) ?_
   have hck := hc _ (getD_mem (l := l) (k := k) (z := ([], [])) (by omega))
   refine TK.rg (Y := tab) mixed rfl ?_
   refine RO (Body.fadB rfl fa174_0 rfl) ?_
   refine RO (Body.loadB rfl rfl rfl ag9 sz9 rfl) ?_
   refine RO (Body.call (w104 (bsO (Prod.fst (List.getD l k ([], []))))) rfl rfl rfl) ?_
   refine RO (Body.fadB rfl fa174_1 rfl) ?_
   refine RO (Body.loadB rfl rfl rfl ag9 sz9 rfl) ?_
   refine RO (Body.lenB (a := (Prod.snd (List.getD l k ([], [])))) rfl un9) ?_
   refine RO (Body.gtr rfl rfl) ?_
   refine RO (Body.call (w101 (decide (60 < ((List.length (Prod.snd (List.getD l k ([], []))) : Nat) : Int))) 26) rfl rfl rfl) ?_
   refine RO (Body.fadB rfl fa174_1 rfl) ?_
   refine RO (Body.loadB rfl rfl rfl ag9 sz9 rfl) ?_
   refine RO (Body.call (w120 (Prod.snd (List.getD l k ([], []))) (by first | omega | exact Nat.le_of_ble_eq_true rfl | (simp only [List.length_append, List.length_cons, List.length_nil, List.length_take, List.length_drop]; omega))) rfl rfl rfl) ?_
   refine RO (Body.not rfl) ?_
   refine RO (Body.call (w101 (!(permS (Prod.snd (List.getD l k ([], []))))) 1) rfl rfl rfl) ?_
   refine mv rfl ?_
   refine RO (Body.gtr rfl rfl) ?_
   refine mv rfl ?_
   refine RG.cons (EfR.sym rfl (fun hc => Body.fadB rfl fa174_0 rfl) rfl) ?_
   refine RG.cons (EfR.sym rfl (fun hc => Body.loadB (ev1_gd rfl hc) rfl rfl ag9 sz9 rfl) rfl) ?_
   refine RG.cons (EfR.sym rfl (fun hc => Body.fadB rfl fa174_0 rfl) rfl) ?_
   refine RG.cons (EfR.sym rfl (fun hc => Body.loadB (ev1_gd rfl hc) rfl rfl ag9 sz9 rfl) rfl) ?_
   refine RG.cons (EfR.sym rfl (fun hc => Body.sleB (a := (Prod.fst (List.getD l k ([], [])))) (b := (Prod.fst (List.getD l (k - 1) ([], [])))) (ev1_gd rfl hc) (ev1_gd rfl hc)) rfl) ?_
   refine RO (Body.pick rfl rfl rfl (gdB rfl) rfl (pick_and _)) ?_
   refine RO (Body.call (w101 (bif (decide (0 < ((k : Nat) : Int))) then (leS (Prod.fst (List.getD l k ([], []))) (Prod.fst (List.getD l (k - 1) ([], [])))) else false) 11) rfl rfl rfl) ?_
   refine RO (Body.runZ (val := .pv (.slice (List.map eI [(whenF (!(isNameF (bsO (Prod.fst (List.getD l k ([], [])))))) 8), (whenF (decide (60 < ((List.length (Prod.snd (List.getD l k ([], []))) : Nat) : Int))) 26), (whenF (!(permS (Prod.snd (List.getD l k ([], []))))) 1), (whenF (bif (decide (0 < ((k : Nat) : Int))) then (leS (Prod.fst (List.getD l k ([], []))) (Prod.fst (List.getD l (k - 1) ([], [])))) else false) 11)]))) rfl (fun l => Frz.arr l _ _ _ _ _) rfl) ?_
   refine RO (Body.call (w100 [(whenF (!(isNameF (bsO (Prod.fst (List.getD l k ([], [])))))) 8), (whenF (decide (60 < ((List.length (Prod.snd (List.getD l k ([], []))) : Nat) : Int))) 26), (whenF (!(permS (Prod.snd (List.getD l k ([], []))))) 1), (whenF (bif (decide (0 < ((k : Nat) : Int))) then (leS (Prod.fst (List.getD l k ([], []))) (Prod.fst (List.getD l (k - 1) ([], [])))) else false) 11)] (Nat.le_of_ble_eq_true rfl)) rfl rfl rfl) ?_
   refine ag rfl ?_
   refine RG.nil (fun _ => by kernel_rfl) ?_
   refine Ap rfl ?_
   refine NR ⟨[(0, vL eF l), (6, vI (firstF [(whenF (!(isNameF (bsO (Prod.fst (List.getD l k ([], [])))))) 8), (whenF (decide (60 < ((List.length (Prod.snd (List.getD l k ([], []))) : Nat) : Int))) 26), (whenF (!(permS (Prod.snd (List.getD l k ([], []))))) 1), (whenF (bif (decide (0 < ((k : Nat) : Int))) then (leS (Prod.fst (List.getD l k ([], []))) (Prod.fst (List.getD l (k - 1) ([], [])))) else false) 11)])), (10, vL eF l), (11, vI ((List.length l : Nat) : Int)), (12, vI ((k : Nat) : Int))], []⟩ (sb rfl rfl rfl) rfl ?_
   refine mv rfl ?_
   refine RO (Body.neq rfl rfl) ?_
   refine RN ?_
   refine Ap rfl ?_
   refine TK.norm ⟨[(0, vL eF l), (6, vI (firstF [(whenF (!(isNameF (bsO (Prod.fst (List.getD l k ([], [])))))) 8), (whenF (decide (60 < ((List.length (Prod.snd (List.getD l k ([], []))) : Nat) : Int))) 26), (whenF (!(permS (Prod.snd (List.getD l k ([], []))))) 1), (whenF (bif (decide (0 < ((k : Nat) : Int))) then (leS (Prod.fst (List.getD l k ([], []))) (Prod.fst (List.getD l (k - 1) ([], [])))) else false) 11)])), (10, vL eF l), (11, vI ((List.length l : Nat) : Int)), (12, vI ((k : Nat) : Int)), (49, vB (decide ((firstF [(whenF (!(isNameF (bsO (Prod.fst (List.getD l k ([], [])))))) 8), (whenF (decide (60 < ((List.length (Prod.snd (List.getD l k ([], []))) : Nat) : Int))) 26), (whenF (!(permS (Prod.snd (List.getD l k ([], []))))) 1), (whenF (bif (decide (0 < ((k : Nat) : Int))) then (leS (Prod.fst (List.getD l k ([], []))) (Prod.fst (List.getD l (k - 1) ([], [])))) else false) 11)]) ≠ 0)))], []⟩ (sb rfl rfl rfl) ?_
   refine TK.condP rfl (fun h3 => ?_) (fun h3 => ?_)
   ·
    refine At rfl ?_
    refine NR ⟨[(6, vI (firstF [(whenF (!(isNameF (bsO (Prod.fst (List.getD l k ([], [])))))) 8), (whenF (decide (60 < ((List.length (Prod.snd (List.getD l k ([], []))) : Nat) : Int))) 26), (whenF (!(permS (Prod.snd (List.getD l k ([], []))))) 1), (whenF (bif (decide (0 < ((k : Nat) : Int))) then (leS (Prod.fst (List.getD l k ([], []))) (Prod.fst (List.getD l (k - 1) ([], [])))) else false) 11)]))], []⟩ (sb rfl rfl rfl) rfl ?_
    refine mv rfl ?_
    refine ag rfl ?_
    refine RN ?_
    refine Ap rfl ?_
    refine TK.ret ?_
    refine PK.ret ?_
    refine leaf (val0 := vI (firstF [(whenF (!(isNameF (bsO (Prod.fst (List.getD l k ([], [])))))) 8), (whenF (decide (60 < ((List.length (Prod.snd (List.getD l k ([], []))) : Nat) : Int))) 26), (whenF (!(permS (Prod.snd (List.getD l k ([], []))))) 1), (whenF (bif (decide (0 < ((k : Nat) : Int))) then (leS (Prod.fst (List.getD l k ([], []))) (Prod.fst (List.getD l (k - 1) ([], [])))) else false) 11)])) (by kernel_rfl) ?_
    exact li (by first
          | (unfold chkFl; rw [decide_eq_true (by omega)]; rfl)
          | (rw [first_fld] at h3 ⊢; rw [hI0.2.2, fGo_err (by omega) h3])
          | (rw [hI0.2.2, show List.length l - k = 0 by omega]; rfl))
   ·
    refine At rfl ?_
    refine NR ⟨[(0, vL eF l), (10, vL eF l), (11, vI ((List.length l : Nat) : Int)), (12, vI ((k : Nat) : Int))], []⟩ (sb rfl rfl rfl) rfl ?_
    refine RO (Body.add rfl rfl (by unfold R64; omega)) ?_
    refine mv rfl ?_
    refine RN ?_
    refine Aq rfl ?_
    refine PK.lp ?_
    refine LP.mk (k + 1) ?_ ?_ (sb rfl rfl rfl)
    · show (k + 1) ≤ List.length l ∧ List.length l ≤ 24 ∧ chkFl l = fGo l (List.length l - (k + 1)) (k + 1)
      refine ⟨by omega, hI0.2.1, ?_⟩; rw [hI0.2.2]; rw [first_fld] at h3; exact fGo_step (by omega) (Decidable.not_not.1 h3)
    · show List.length l - (k + 1) < List.length l - k
      omega
  ·
   refine At rfl ?_
   refine TK.exit ?_
   refine PK.exit rfl ?_
   refine Ap rfl ?_
   refine NR ⟨[], []⟩ (sb rfl rfl rfl) rfl ?_
   refine ag rfl ?_
   refine RN ?_
   refine Ap rfl ?_
   refine TK.ret ?_
   refine PK.ret ?_
   refine leaf (val0 := vI 0) (by kernel_rfl) ?_
   exact li (by first
          | (unfold chkFl; rw [decide_eq_true (by omega)]; rfl)
          | (rw [first_fld] at h3 ⊢; rw [hI0.2.2, fGo_err (by omega) h3])
          | (rw [hI0.2.2, show List.length l - k = 0 by omega]; rfl))
end Go.Lens.Tm
end
section
namespace Go.Lens.Tm
open Go.Lens.Tb Go.Proofs
set_option linter.unusedSectionVars false
def insGo (x : List UInt8) : List (List UInt8) → List (List UInt8)
 | [] => [x]
 | y :: l => bif ltS y x then y :: insGo x l else x :: y :: l
def insS (x : List UInt8) (l : List (List UInt8)) : List (List UInt8) := bif List.any l (fun y => decide (y = x)) then l else insGo x l
theorem insS_len (x : List UInt8) (l : List (List UInt8)) : (insS x l).length ≤ l.length + 1 := by
 unfold insS
 cases List.any l (fun y => decide (y = x)) with
 | true => simp
 | false =>
  have : ∀ l : List (List UInt8), (insGo x l).length = l.length + 1 := by
   intro l
   induction l with
   | nil => rfl
   | cons y l ih =>
    simp only [insGo]
    cases ltS y x <;> simp [ih]
  simp [this]
def splGo : List UInt8 → List UInt8 → List (List UInt8)
 | acc, [] => [acc]
 | acc, c :: r => bif decide (((c.toNat : Nat) : Int) = 32) then acc :: splGo [] r else splGo (acc ++ [c]) r
def splS (s : List UInt8) : List (List UInt8) := splGo [] s
def SplI (s : List UInt8) (i f : Nat) (out : List (List UInt8)) : Prop := f ≤ i ∧ out.length ≤ i ∧ ((i ≤ s.length ∧ splS s = out ++ splGo ((s.take i).drop f) (s.drop i)) ∨ (i = s.length + 1 ∧ splS s = out))
def fldP (f : Fld) : List UInt8 := (f.1 ++ [61]) ++ f.2
def prtK (l : List Fld) : Nat → List UInt8
 | 0 => []
 | k + 1 => ((bif decide (0 < k) then prtK l k ++ [32] else prtK l k) ++ (l.getD k ([], [])).1 ++ [61]) ++ (l.getD k ([], [])).2
def prtF (l : List Fld) : List UInt8 := prtK l l.length
theorem prtK_len (l : List Fld) (N : Nat) (h : ∀ f ∈ l, f.1.length ≤ N ∧ f.2.length ≤ N) : ∀ k, k ≤ l.length → (prtK l k).length ≤ k * (2 * N + 2)
 | 0, _ => by simp [prtK]
 | k + 1, hk => by
  have h1 := prtK_len l N h k (by omega)
  have h2 := h _ (getD_mem (l := l) (k := k) (z := ([], [])) (by omega))
  simp only [prtK]
  rw [Nat.add_mul]
  cases decide (0 < k) <;> simp only [cond_true, cond_false, List.length_append, List.length_cons, List.length_nil] <;> omega
end Go.Lens.Tm
end
section
namespace Go.Lens.Tm
open Go.Lens.Tb Go.Proofs
variable [Lz]
set_option linter.unusedSectionVars false
set_option maxRecDepth 100000
attribute [local irreducible] TK PK T RG EfR Body
end Go.Lens.Tm
end
section
namespace Go.Lens.Tm
open Go.Lens.Tb Go.Proofs
set_option linter.unusedSectionVars false
theorem un4 [Lz] : tab.underlying 4 = some (.bool) := by kernel_rfl
def eL (l : List Fld) : List PV := [.slice (List.map eF l)]
def cutP : List UInt8 → Option Fld
 | [] => none
 | c :: r => bif decide (((c.toNat : Nat) : Int) = 61) then some ([], r) else (cutP r).map fun f => (c :: f.1, f.2)
theorem cutP_at : ∀ (p : List UInt8) (a : Nat), a ≤ p.length → (∀ j, j < a → ¬ ((p.getD j 0).toNat : Int) = 61) →
  (a = p.length → cutP p = none) ∧ (a < p.length → ((p.getD a 0).toNat : Int) = 61 → cutP p = some (p.take a, p.drop (a + 1)))
 | [], a, ha, _ => ⟨fun _ => rfl, fun h => by simp at h⟩
 | c :: r, 0, _, _ => by
  refine ⟨fun h => by simp at h, fun _ h => ?_⟩
  have h : ((c.toNat : Nat) : Int) = 61 := h
  simp [cutP, h]
 | c :: r, a + 1, ha, hn => by
  have h0 : ¬ ((c.toNat : Nat) : Int) = 61 := hn 0 (by omega)
  have ih := cutP_at r a (by simpa using ha) fun j hj => by simpa using hn (j + 1) (by omega)
  simp only [cutP, decide_eq_false h0, cond_false]
  refine ⟨fun h => ?_, fun h1 h2 => ?_⟩
  ·rw [ih.1 (by simpa using h)]; rfl
  ·rw [ih.2 (by simpa using h1) (by simpa using h2)]; rfl
def parGo : List (List UInt8) → Option (List Fld)
 | [] => some []
 | p :: r => match cutP p with
  | none => none
  | some f => (parGo r).map (f :: ·)
def parF (s : List UInt8) : List Fld × Int := if s = [] then ([], 0) else match parGo (splS s) with
 | none => ([], 25)
 | some l => if chkFl l = 0 then (l, 0) else ([], chkFl l)
theorem par_none {P : List (List UInt8)} {k : Nat} {out : List Fld} (hI : parGo P = (parGo (P.drop k)).map (out ++ ·)) (hk : k < P.length) (h : cutP (P.getD k []) = none) : parGo P = none := by
 rw [hI, drop_at P k [] hk, parGo, h]; rfl
theorem par_some {P : List (List UInt8)} {k : Nat} {out : List Fld} {f : Fld} (hI : parGo P = (parGo (P.drop k)).map (out ++ ·)) (hk : k < P.length) (h : cutP (P.getD k []) = some f) : parGo P = (parGo (P.drop (k + 1))).map ((out ++ [f]) ++ ·) := by
 rw [hI, drop_at P k [] hk, parGo, h]
 simp only [Option.map_map]
 congr 1
 funext r; simp
theorem par_end {P : List (List UInt8)} {k : Nat} {out : List Fld} (hI : parGo P = (parGo (P.drop k)).map (out ++ ·)) (hk : P.length ≤ k) : parGo P = some out := by
 rw [hI, List.drop_eq_nil_of_le hk]; simp [parGo]
theorem spl_len (s : List UInt8) : ∀ acc : List UInt8, (splGo acc s).length ≤ s.length + 1 := by
 induction s with
 | nil => intro acc; simp [splGo]
 | cons c r ih =>
  intro acc
  simp only [splGo]
  cases decide (((c.toNat : Nat) : Int) = 32) with
  | true => have := ih []; simp only [cond_true, List.length_cons]; omega
  | false => have := ih (acc ++ [c]); simp only [cond_false, List.length_cons]; omega
theorem spl_part : ∀ (s acc : List UInt8) (p : List UInt8), p ∈ splGo acc s → p.length ≤ acc.length + s.length
 | [], acc, p, h => by
  simp only [splGo, List.mem_singleton] at h
  subst h; simp
 | c :: r, acc, p, h => by
  simp only [splGo] at h
  cases hq : decide (((c.toNat : Nat) : Int) = 32) with
  | true =>
   rw [hq, cond_true] at h
   rcases List.mem_cons.1 h with rfl | h
   ·omega
   ·have := spl_part r [] p h; simp only [List.length_cons, List.length_nil] at this ⊢; omega
  | false =>
   rw [hq, cond_false] at h
   have := spl_part r (acc ++ [c]) p h
   simp only [List.length_append, List.length_cons, List.length_nil] at this ⊢; omega
theorem parF_nil {s : List UInt8} (h : s = []) : parF s = ([], 0) := by unfold parF; rw [if_pos h]
theorem parF_none {s : List UInt8} (h : ¬ s = []) (h2 : parGo (splS s) = none) : parF s = ([], 25) := by unfold parF; rw [if_neg h, h2]
theorem parF_bad {s : List UInt8} {l : List Fld} (h : ¬ s = []) (h2 : parGo (splS s) = some l) (h3 : chkFl l ≠ 0) : parF s = ([], chkFl l) := by
 unfold parF; rw [if_neg h, h2]
 show (if chkFl l = 0 then _ else _) = _
 rw [if_neg h3]
theorem parF_ok {s : List UInt8} {l : List Fld} (h : ¬ s = []) (h2 : parGo (splS s) = some l) (h3 : ¬ chkFl l ≠ 0) : parF s = (l, 0) := by
 unfold parF; rw [if_neg h, h2]
 show (if chkFl l = 0 then _ else _) = _
 rw [if_pos (Decidable.not_not.1 h3)]
def rmGo (B M T : List Fld) : List (List UInt8) → List Fld × List (List UInt8)
 | [] => ([], [])
 | x :: l =>
  let r := rmGo B M T l
  let g := if getF x M = getF x T then getF x M else if getF x M = getF x B then getF x T else getF x M
  (if g.isSome then (x, g.getD []) :: r.1 else r.1, if getF x M = getF x T ∨ getF x M = getF x B ∨ getF x T = getF x B then r.2 else x :: r.2)
def refNm (A : List Fld) : List (List UInt8) := A.foldl (fun n f => insS f.1 n) []
def refM (B M T : List Fld) : List Fld × List (List UInt8) :=
 if 0 < (rmGo B M T (refNm (B ++ M ++ T))).2.length then ([], (rmGo B M T (refNm (B ++ M ++ T))).2) else ((rmGo B M T (refNm (B ++ M ++ T))).1, [])
def mfG (e : Int) (r : List Fld × List (List UInt8)) : List Fld × List (List UInt8) × Int :=
 if e ≠ 0 then ([], [], e) else if 0 < r.2.length then ([], r.2, 29) else if 24 < r.1.length then ([], [], 5) else (r.1, [], 0)
theorem nmK_len (A : List Fld) : ∀ k, k ≤ A.length → (refNm (A.take k)).length ≤ k
 | 0, _ => by simp [refNm]
 | k + 1, hk => by
  have h1 := nmK_len A k (by omega)
  have e : refNm (A.take (k + 1)) = insS (A.getD k ([], [])).1 (refNm (A.take k)) := by
   rw [take_fld A k (by omega)]; simp [refNm]
  rw [e]
  have := insS_len (A.getD k ([], [])).1 (refNm (A.take k))
  omega
theorem first3 {b m t : List Fld} {k : Nat} (hk : k < 3) (h : ∀ j, j < k → chkFl (List.getD [b, m, t] j []) = 0) (h2 : chkFl (List.getD [b, m, t] k []) ≠ 0) : firstF [chkFl b, chkFl m, chkFl t] = chkFl (List.getD [b, m, t] k []) := by
 have : k = 0 ∨ k = 1 ∨ k = 2 := by omega
 rcases this with rfl | rfl | rfl
 ·have h2 : chkFl b ≠ 0 := h2
  show (if chkFl b = 0 then _ else chkFl b) = chkFl b
  rw [if_neg h2]
 ·have h0 : chkFl b = 0 := h 0 (by omega)
  have h2 : chkFl m ≠ 0 := h2
  show (if chkFl b = 0 then (if chkFl m = 0 then _ else chkFl m) else _) = chkFl m
  rw [if_pos h0, if_neg h2]
 ·have h0 : chkFl b = 0 := h 0 (by omega)
  have h1 : chkFl m = 0 := h 1 (by omega)
  have h2 : chkFl t ≠ 0 := h2
  show (if chkFl b = 0 then (if chkFl m = 0 then (if chkFl t = 0 then _ else chkFl t) else _) else _) = chkFl t
  rw [if_pos h0, if_pos h1, if_neg h2]
theorem mfG_bad {e : Int} {r : List Fld × List (List UInt8)} (h : e ≠ 0) : mfG e r = ([], [], e) := by unfold mfG; rw [if_pos h]
theorem mfG_con {e : Int} {r : List Fld × List (List UInt8)} (h : e = 0) (h2 : 0 < ((List.length r.2 : Nat) : Int)) : mfG e r = ([], r.2, 29) := by unfold mfG; rw [if_neg (fun q => q h), if_pos (by omega)]
theorem mfG_many {e : Int} {r : List Fld × List (List UInt8)} (h : e = 0) (h2 : ¬ 0 < ((List.length r.2 : Nat) : Int)) (h3 : 24 < ((List.length r.1 : Nat) : Int)) : mfG e r = ([], [], 5) := by unfold mfG; rw [if_neg (fun q => q h), if_neg (by omega), if_pos (by omega)]
theorem mfG_ok {e : Int} {r : List Fld × List (List UInt8)} (h : e = 0) (h2 : ¬ 0 < ((List.length r.2 : Nat) : Int)) (h3 : ¬ 24 < ((List.length r.1 : Nat) : Int)) : mfG e r = (r.1, [], 0) := by unfold mfG; rw [if_neg (fun q => q h), if_neg (by omega), if_neg (by omega)]
end Go.Lens.Tm
end
section
namespace Go.Lens.Tm
open Go.Lens.Tb Go.Proofs
variable [Lz]
set_option linter.unusedSectionVars false
set_option maxRecDepth 100000
attribute [local irreducible] TK PK T RG EfR Body
set_option maxHeartbeats 4000000 in
theorem w43 (b m t : List Fld) (hb : b.length ≤ 1000) (hm : m.length ≤ 1000) (ht : t.length ≤ 1000) (hsb : Small b) (hcb : ∀ f ∈ b, f.2.length ≤ 1000000000000000) (hsm : Small m) (hcm : ∀ f ∈ m, f.2.length ≤ 1000000000000000) (hst : Small t) (hct : ∀ f ∈ t, f.2.length ≤ 1000000000000000) : CallOk Tryz.prog 43 [vL eF b, vL eF m, vL eF t] (lookM []) (.tup [vL eF (mfG (firstF [chkFl b, chkFl m, chkFl t]) (mgR b m t)).1, vL eN (mfG (firstF [chkFl b, chkFl m, chkFl t]) (mgR b m t)).2.1, vI (mfG (firstF [chkFl b, chkFl m, chkFl t]) (mgR b m t)).2.2]) [] := by
 haveI := tab_ok
 obtain ⟨fn, f1, f2, f3, f4, _, f6⟩ := qf43
 refine callOk_of (Y := tab) (F := fn43) f1 (f2.trans rfl) f3 f4 f6 (Nat.le_of_ble_eq_true rfl) rfl ?_
 clear f1 f2 f3 f4 f6
 show TK _ _ _ _ _ _ ⟨[(0, vL eF b), (1, vL eF m), (2, vL eF t)], []⟩
 refine At rfl ?_
 refine NR ⟨[(0, vL eF b), (1, vL eF m), (2, vL eF t)], []⟩ (sb rfl rfl rfl) rfl ?_
 refine RO (Body.nilS (enc := eF) rfl) ?_
 refine RO (Body.nilS (enc := eN) rfl) ?_
 refine ag rfl ?_
 refine RN ?_
 refine Ap rfl ?_
 refine NR ⟨[(0, vL eF b), (1, vL eF m), (2, vL eF t)], []⟩ (sb rfl rfl rfl) rfl ?_
 refine mv rfl ?_
 refine RO (Body.call (w41 b (by omega) hcb) rfl rfl rfl) ?_
 refine mv rfl ?_
 refine RO (Body.call (w41 m (by omega) hcm) rfl rfl rfl) ?_
 refine mv rfl ?_
 refine RO (Body.call (w41 t (by omega) hct) rfl rfl rfl) ?_
 refine RO (Body.runZ (val := .pv (.slice (List.map eI [(chkFl b), (chkFl m), (chkFl t)]))) rfl (fun l => Frz.arr l _ _ _ _ _) rfl) ?_
 refine RO (Body.call (w100 [(chkFl b), (chkFl m), (chkFl t)] (Nat.le_of_ble_eq_true rfl)) rfl rfl rfl) ?_
 refine ag rfl ?_
 refine RN ?_
 refine Ap rfl ?_
 refine NR ⟨[(0, vL eF b), (1, vL eF m), (2, vL eF t), (9, vI (firstF [(chkFl b), (chkFl m), (chkFl t)]))], []⟩ (sb rfl rfl rfl) rfl ?_
 refine mv rfl ?_
 refine RO (Body.neq rfl rfl) ?_
 refine RN ?_
 refine Ap rfl ?_
 refine TK.norm ⟨[(0, vL eF b), (1, vL eF m), (2, vL eF t), (9, vI (firstF [(chkFl b), (chkFl m), (chkFl t)])), (21, vB (decide ((firstF [(chkFl b), (chkFl m), (chkFl t)]) ≠ 0)))], []⟩ (sb rfl rfl rfl) ?_
 refine TK.condP rfl (fun h1 => ?_) (fun h1 => ?_)
 ·
  refine At rfl ?_
  refine NR ⟨[(9, vI (firstF [(chkFl b), (chkFl m), (chkFl t)]))], []⟩ (sb rfl rfl rfl) rfl ?_
  refine mv rfl ?_
  refine RO (Body.nilS (enc := eF) rfl) ?_
  refine RO (Body.nilS (enc := eN) rfl) ?_
  refine ag rfl ?_
  refine RN ?_
  refine Ap rfl ?_
  refine TK.ret ?_
  refine PK.ret ?_
  refine leaf (val0 := .tup [vL eF [], vL eN [], vI (firstF [(chkFl b), (chkFl m), (chkFl t)])]) (by kernel_rfl) ?_
  exact tup3 (lsl (by first
          | rw [mfG_bad (by assumption)]
          | rw [mfG_bad (by rw [first3 (by omega) hI0.2 h2]; exact h2), first3 (by omega) hI0.2 h2]
          | rw [mfG_bad (by rw [first3 (by omega) hI0.2 h2]; exact h2)]
          | rw [mfG_con he (by assumption)]
          | rw [mfG_many he (by assumption) (by assumption)]
          | rw [mfG_ok he (by assumption) (by assumption)])) (lsl (by first
          | rw [mfG_bad (by assumption)]
          | rw [mfG_bad (by rw [first3 (by omega) hI0.2 h2]; exact h2), first3 (by omega) hI0.2 h2]
          | rw [mfG_bad (by rw [first3 (by omega) hI0.2 h2]; exact h2)]
          | rw [mfG_con he (by assumption)]
          | rw [mfG_many he (by assumption) (by assumption)]
          | rw [mfG_ok he (by assumption) (by assumption)])) (li (by first
          | rw [mfG_bad (by assumption)]
          | rw [mfG_bad (by rw [first3 (by omega) hI0.2 h2]; exact h2), first3 (by omega) hI0.2 h2]
          | rw [mfG_bad (by rw [first3 (by omega) hI0.2 h2]; exact h2)]
          | rw [mfG_con he (by assumption)]
          | rw [mfG_many he (by assumption) (by assumption)]
          | rw [mfG_ok he (by assumption) (by assumption)]))
 ·
  refine At rfl ?_
  refine TK.norm ⟨[(0, vL eF b), (1, vL eF m), (2, vL eF t)], []⟩ (sb rfl rfl rfl) ?_
  have he := Decidable.not_not.1 h1
  refine TK.rg (Y := tab) mixed rfl ?_
  refine mv rfl ?_
  refine mv rfl ?_
  refine mv rfl ?_
  refine RO (Body.callS (l := []) (w121 b m t hsb hsm hst) rfl rfl trivial rfl rfl) ?_
  refine rn rfl ?_
  refine rn rfl ?_
  refine rn rfl ?_
  refine rn rfl ?_
  refine rn rfl ?_
  refine RN ?_
  refine Ap rfl ?_
  refine TK.norm ⟨[(10, .aref 14 (List.length (mgR b m t).1)), (11, .aref 15 (List.length (mgR b m t).2))], [(14, .arr (List.length (mgR b m t).1) 2 174 (List.map eF (mgR b m t).1)), (15, .arr (List.length (mgR b m t).2) 1 9 (List.map eN (mgR b m t).2))]⟩ (sb rfl rfl rfl) ?_
  refine TK.frz (t := 10) rfl rfl ?_
  refine TK.norm ⟨[(10, vL eF (mgR b m t).1), (11, .aref 15 (List.length (mgR b m t).2))], [(15, .arr (List.length (mgR b m t).2) 1 9 (List.map eN (mgR b m t).2))]⟩ (sb rfl rfl rfl) ?_
  refine TK.frz (t := 11) rfl rfl ?_
  refine NR ⟨[(10, vL eF (mgR b m t).1), (11, vL eN (mgR b m t).2)], []⟩ (sb rfl rfl rfl) rfl ?_
  refine mv rfl ?_
  refine RO (Body.lenL rfl un73) ?_
  refine RO (Body.gtr rfl rfl) ?_
  refine RN ?_
  refine Ap rfl ?_
  refine TK.norm ⟨[(10, vL eF (mgR b m t).1), (11, vL eN (mgR b m t).2), (32, vB (decide (0 < ((List.length (mgR b m t).2 : Nat) : Int))))], []⟩ (sb rfl rfl rfl) ?_
  refine TK.condP rfl (fun h2 => ?_) (fun h2 => ?_)
  ·
   refine At rfl ?_
   refine NR ⟨[(11, vL eN (mgR b m t).2)], []⟩ (sb rfl rfl rfl) rfl ?_
   refine mv rfl ?_
   refine RO (Body.nilS (enc := eF) rfl) ?_
   refine ag rfl ?_
   refine ag rfl ?_
   refine RN ?_
   refine Ap rfl ?_
   refine TK.ret ?_
   refine PK.ret ?_
   refine leaf (val0 := .tup [vL eF [], vL eN (mgR b m t).2, vI 29]) (by kernel_rfl) ?_
   exact tup3 (lsl (by first
          | rw [mfG_bad (by assumption)]
          | rw [mfG_bad (by rw [first3 (by omega) hI0.2 h2]; exact h2), first3 (by omega) hI0.2 h2]
          | rw [mfG_bad (by rw [first3 (by omega) hI0.2 h2]; exact h2)]
          | rw [mfG_con he (by assumption)]
          | rw [mfG_many he (by assumption) (by assumption)]
          | rw [mfG_ok he (by assumption) (by assumption)])) (lsl (by first
          | rw [mfG_bad (by assumption)]
          | rw [mfG_bad (by rw [first3 (by omega) hI0.2 h2]; exact h2), first3 (by omega) hI0.2 h2]
          | rw [mfG_bad (by rw [first3 (by omega) hI0.2 h2]; exact h2)]
          | rw [mfG_con he (by assumption)]
          | rw [mfG_many he (by assumption) (by assumption)]
          | rw [mfG_ok he (by assumption) (by assumption)])) (li (by first
          | rw [mfG_bad (by assumption)]
          | rw [mfG_bad (by rw [first3 (by omega) hI0.2 h2]; exact h2), first3 (by omega) hI0.2 h2]
          | rw [mfG_bad (by rw [first3 (by omega) hI0.2 h2]; exact h2)]
          | rw [mfG_con he (by assumption)]
          | rw [mfG_many he (by assumption) (by assumption)]
          | rw [mfG_ok he (by assumption) (by assumption)]))
  ·
   refine At rfl ?_
   refine NR ⟨[(10, vL eF (mgR b m t).1)], []⟩ (sb rfl rfl rfl) rfl ?_
   refine mv rfl ?_
   refine RO (Body.lenL rfl un59) ?_
   refine RO (Body.gtr rfl rfl) ?_
   refine RN ?_
   refine Ap rfl ?_
   refine TK.norm ⟨[(10, vL eF (mgR b m t).1), (36, vB (decide (24 < ((List.length (mgR b m t).1 : Nat) : Int))))], []⟩ (sb rfl rfl rfl) ?_
   refine TK.condP rfl (fun h3 => ?_) (fun h3 => ?_)
   ·
    refine At rfl ?_
    refine NR ⟨[], []⟩ (sb rfl rfl rfl) rfl ?_
    refine RO (Body.nilS (enc := eF) rfl) ?_
    refine RO (Body.nilS (enc := eN) rfl) ?_
    refine ag rfl ?_
    refine RN ?_
    refine Ap rfl ?_
    refine TK.ret ?_
    refine PK.ret ?_
    refine leaf (val0 := .tup [vL eF [], vL eN [], vI 5]) (by kernel_rfl) ?_
    exact tup3 (lsl (by first
          | rw [mfG_bad (by assumption)]
          | rw [mfG_bad (by rw [first3 (by omega) hI0.2 h2]; exact h2), first3 (by omega) hI0.2 h2]
          | rw [mfG_bad (by rw [first3 (by omega) hI0.2 h2]; exact h2)]
          | rw [mfG_con he (by assumption)]
          | rw [mfG_many he (by assumption) (by assumption)]
          | rw [mfG_ok he (by assumption) (by assumption)])) (lsl (by first
          | rw [mfG_bad (by assumption)]
          | rw [mfG_bad (by rw [first3 (by omega) hI0.2 h2]; exact h2), first3 (by omega) hI0.2 h2]
          | rw [mfG_bad (by rw [first3 (by omega) hI0.2 h2]; exact h2)]
          | rw [mfG_con he (by assumption)]
          | rw [mfG_many he (by assumption) (by assumption)]
          | rw [mfG_ok he (by assumption) (by assumption)])) (li (by first
          | rw [mfG_bad (by assumption)]
          | rw [mfG_bad (by rw [first3 (by omega) hI0.2 h2]; exact h2), first3 (by omega) hI0.2 h2]
          | rw [mfG_bad (by rw [first3 (by omega) hI0.2 h2]; exact h2)]
          | rw [mfG_con he (by assumption)]
          | rw [mfG_many he (by assumption) (by assumption)]
          | rw [mfG_ok he (by assumption) (by assumption)]))
   ·
    refine At rfl ?_
    refine NR ⟨[(10, vL eF (mgR b m t).1)], []⟩ (sb rfl rfl rfl) rfl ?_
    refine mv rfl ?_
    refine ag rfl ?_
    refine RO (Body.nilS (enc := eN) rfl) ?_
    refine ag rfl ?_
    refine RN ?_
    refine Ap rfl ?_
    refine TK.ret ?_
    refine PK.ret ?_
    refine leaf (val0 := .tup [vL eF (mgR b m t).1, vL eN [], vI 0]) (by kernel_rfl) ?_
    exact tup3 (lsl (by first
          | rw [mfG_bad (by assumption)]
          | rw [mfG_bad (by rw [first3 (by omega) hI0.2 h2]; exact h2), first3 (by omega) hI0.2 h2]
          | rw [mfG_bad (by rw [first3 (by omega) hI0.2 h2]; exact h2)]
          | rw [mfG_con he (by assumption)]
          | rw [mfG_many he (by assumption) (by assumption)]
          | rw [mfG_ok he (by assumption) (by assumption)])) (lsl (by first
          | rw [mfG_bad (by assumption)]
          | rw [mfG_bad (by rw [first3 (by omega) hI0.2 h2]; exact h2), first3 (by omega) hI0.2 h2]
          | rw [mfG_bad (by rw [first3 (by omega) hI0.2 h2]; exact h2)]
          | rw [mfG_con he (by assumption)]
          | rw [mfG_many he (by assumption) (by assumption)]
          | rw [mfG_ok he (by assumption) (by assumption)])) (li (by first
          | rw [mfG_bad (by assumption)]
          | rw [mfG_bad (by rw [first3 (by omega) hI0.2 h2]; exact h2), first3 (by omega) hI0.2 h2]
          | rw [mfG_bad (by rw [first3 (by omega) hI0.2 h2]; exact h2)]
          | rw [mfG_con he (by assumption)]
          | rw [mfG_many he (by assumption) (by assumption)]
          | rw [mfG_ok he (by assumption) (by assumption)]))
end Go.Lens.Tm
end
section
namespace Go.Lens.Tm
open Go.Lens.Tb Go.Proofs
set_option linter.unusedSectionVars false
variable [Lz]
theorem ltS_iff : ∀ {x y : List UInt8}, ltS x y = true ↔ x < y
 | x, [] => by cases x <;> simp [ltS, Op.bytesLess]
 | [], b :: m => by simp [ltS, Op.bytesLess]
 | a :: l, b :: m => by
  have ih := ltS_iff (x := l) (y := m)
  unfold ltS at ih ⊢
  rw [List.cons_lt_cons_iff]
  simp [Op.bytesLess, ih]
theorem leS_iff {x y : List UInt8} : leS x y = true ↔ x ≤ y := by
 have h := ltS_iff (x := x) (y := y)
 unfold ltS at h
 unfold leS
 rw [Bool.or_eq_true, h, beq_iff_eq]
 constructor
 ·rintro (h | rfl)
  ·exact List.le_of_lt h
  ·exact List.le_refl _
 ·intro h
  by_cases e : x = y
  ·exact .inr e
  ·left
   by_cases hl : x < y
   ·exact hl
   ·exact absurd (List.le_antisymm h (List.not_lt.1 hl)) e
theorem insS_insB {x : List UInt8} : ∀ {l : List (List UInt8)}, l.Pairwise (· < ·) → insS x l = insB x l
 | [], _ => rfl
 | y :: l, h => by
  have ih := insS_insB (x := x) (List.pairwise_cons.1 h).2
  have hy := (List.pairwise_cons.1 h).1
  unfold insS at ih ⊢
  simp only [insB, List.any_cons]
  cases h1 : beqB x y with
  | true =>
   rw [beqB_iff] at h1
   subst h1
   simp
  | false =>
   have n1 : ¬ x = y := fun e => by rw [beqB_iff.2 e] at h1; cases h1
   rw [decide_eq_false (p := y = x) (fun e => n1 e.symm), Bool.false_or]
   cases h2 : blt x y with
   | true =>
    rw [blt_iff] at h2
    have hno : List.any l (fun z => decide (z = x)) = false := by
     rw [List.any_eq_false]
     intro z hz e
     have e := of_decide_eq_true e
     subst e
     exact List.lt_irrefl _ (List.lt_trans h2 (hy z hz))
    have hlt : ltS y x = false := by
     rw [Bool.eq_false_iff]
     intro e
     exact List.lt_irrefl _ (List.lt_trans h2 (ltS_iff.1 e))
    rw [hno]
    simp only [cond_false, cond_true, insGo, hlt]
   | false =>
    have n2 : ¬ x < y := fun e => by rw [blt_iff.2 e] at h2; cases h2
    have hlt : ltS y x = true := ltS_iff.2 (lt_of_not n1 n2)
    simp only [cond_false, insGo, hlt, cond_true]
    cases hany : List.any l (fun z => decide (z = x)) with
    | true => rw [hany] at ih; simp only [cond_true] at ih ⊢; rw [← ih]
    | false => rw [hany] at ih; simp only [cond_false] at ih ⊢; rw [← ih]
theorem sorted_one {L M : List (List UInt8)} (hL : L.Pairwise (· < ·)) (hM : M.Pairwise (· < ·)) (h : ∀ x, x ∈ L ↔ x ∈ M) : L = M := by
 have nd : ∀ {L : List (List UInt8)}, L.Pairwise (· < ·) → L.Nodup := fun hs => hs.imp fun h e => by subst e; exact List.lt_irrefl _ h
 refine List.Perm.eq_of_pairwise (le := fun a b => decide (a ≤ b) = true) (fun a b _ _ h1 h2 => ?_) ?_ ?_ ?_
 ·simp only [decide_eq_true_eq] at h1 h2
  exact List.le_antisymm h1 h2
 ·exact hL.imp fun h => by simp only [decide_eq_true_eq]; exact List.le_of_lt h
 ·exact hM.imp fun h => by simp only [decide_eq_true_eq]; exact List.le_of_lt h
 ·exact (List.perm_ext_iff_of_nodup (nd hL) (nd hM)).2 h
theorem foldS : ∀ (A : List Fld) (acc : List (List UInt8)), acc.Pairwise (· < ·) → (A.foldl (fun n f => insS f.1 n) acc).Pairwise (· < ·) ∧ ∀ x, x ∈ A.foldl (fun n f => insS f.1 n) acc ↔ x ∈ acc ∨ x ∈ A.map (·.1)
 | [], acc, h => ⟨h, fun x => by simp⟩
 | f :: A, acc, h => by
  have h1 : (insS f.1 acc).Pairwise (· < ·) := by rw [insS_insB h]; exact ins_sorted h
  obtain ⟨k1, k2⟩ := foldS A (insS f.1 acc) h1
  refine ⟨k1, fun x => ?_⟩
  show x ∈ A.foldl _ (insS f.1 acc) ↔ _
  rw [k2 x, insS_insB h, mem_ins, List.map_cons, List.mem_cons]
  constructor
  ·rintro ((h | h) | h) <;> simp [h]
  ·rintro (h | h | h) <;> simp [h]
theorem refNm_srt (A : List Fld) : refNm A = srt (A.map (·.1)) := by
 obtain ⟨k1, k2⟩ := foldS A [] List.Pairwise.nil
 refine sorted_one k1 (srt_sorted _) fun x => ?_
 rw [mem_srt]
 exact (k2 x).trans (by simp)
theorem rm_con (B M T : List Fld) : ∀ L, (rmGo B M T L).2 = (mgo B M T L).2
 | [] => rfl
 | x :: L => by
  have ih := rm_con B M T L
  simp only [rmGo, mgo]
  by_cases h1 : getF x M = getF x T
  ·rw [if_pos (.inl h1), if_pos (.inl h1)]; split <;> exact ih
  ·by_cases h2 : getF x T = getF x B
   ·rw [if_pos (.inr (.inr h2)), if_pos (.inr h2)]; split <;> exact ih
   ·by_cases h3 : getF x M = getF x B
    ·rw [if_pos (.inr (.inl h3)), if_neg (by rintro (h | h); exact h1 h; exact h2 h), if_pos h3]; split <;> exact ih
    ·rw [if_neg (by rintro (h | h | h); exact h1 h; exact h3 h; exact h2 h), if_neg (by rintro (h | h); exact h1 h; exact h2 h), if_neg h3, ih]
theorem rm_out (B M T : List Fld) : ∀ L, (mgo B M T L).2 = [] → (rmGo B M T L).1 = (mgo B M T L).1
 | [], _ => rfl
 | x :: L, h => by
  simp only [mgo] at h
  simp only [rmGo, mgo]
  by_cases h1 : getF x M = getF x T
  ·rw [if_pos (Or.inl h1)] at h ⊢
   rw [if_pos h1]
   have hq : (mgo B M T L).2 = [] := by split at h <;> exact h
   rw [rm_out B M T L hq]
   split <;> rfl
  ·by_cases h2 : getF x T = getF x B
   ·rw [if_pos (Or.inr h2)] at h ⊢
    have hq : (mgo B M T L).2 = [] := by split at h <;> exact h
    rw [if_neg h1, rm_out B M T L hq]
    by_cases h3 : getF x M = getF x B
    ·exact absurd (h3.trans h2.symm) h1
    ·rw [if_neg h3]; split <;> rfl
   ·have hn : ¬ (getF x M = getF x T ∨ getF x T = getF x B) := by rintro (h | h); exact h1 h; exact h2 h
    rw [if_neg hn] at h ⊢
    by_cases h3 : getF x M = getF x B
    ·rw [if_pos h3] at h ⊢
     have hq : (mgo B M T L).2 = [] := by split at h <;> exact h
     rw [if_neg h1, if_pos h3, rm_out B M T L hq]; split <;> rfl
    ·rw [if_neg h3] at h; cases h
theorem fGo_all {l : List Fld} : ∀ (n i : Nat), i + n = l.length → fGo l n i = 0 → ∀ j, i ≤ j → j < l.length → fOne l j = 0
 | 0, i, hn, _, j, h1, h2 => by omega
 | n + 1, i, hn, h, j, h1, h2 => by
  simp only [fGo] at h
  split at h
  ·rename_i h0
   by_cases hij : j = i
   ·subst hij; exact h0
   ·exact fGo_all n (i + 1) (by omega) h j (by omega) h2
  ·rename_i h0; exact absurd h h0
theorem chk_parts {l : List Fld} (h : chkFl l = 0) : l.length ≤ 24 ∧ ∀ j, j < l.length → chkF (l.getD j ([], [])) = 0 ∧ ordB l j = false := by
 unfold chkFl at h
 by_cases hl : 24 < l.length
 ·rw [decide_eq_true hl] at h; cases h
 ·rw [decide_eq_false hl] at h
  refine ⟨by omega, fun j hj => ?_⟩
  have := fGo_all l.length 0 (by omega) h j (by omega) hj
  unfold fOne at this
  split at this
  ·rename_i h0
   refine ⟨h0, ?_⟩
   cases ho : ordB l j with
   | false => rfl
   | true => rw [ho] at this; cases this
  ·rename_i h0; exact absurd this h0
theorem mem_getD {α : Type} {l : List α} {a : α} (z : α) (h : a ∈ l) : ∃ j, j < l.length ∧ l.getD j z = a := by
 obtain ⟨j, hj, rfl⟩ := List.getElem_of_mem h
 exact ⟨j, hj, by rw [List.getD_eq_getElem?_getD, List.getElem?_eq_getElem hj]; rfl⟩
theorem asc_of : ∀ (l : List Fld), (∀ j, 0 < j → j < l.length → leS (l.getD j ([], [])).1 (l.getD (j - 1) ([], [])).1 = false) → ascB l = true
 | [], _ => rfl
 | [_], _ => rfl
 | a :: b :: l, h => by
  have h0 : leS b.1 a.1 = false := h 1 (by omega) (by simp)
  have hlt : blt a.1 b.1 = true := by
   rw [blt_iff]
   rw [Bool.eq_false_iff, Ne, leS_iff] at h0
   exact List.not_le.1 h0
  simp only [ascB, hlt, Bool.true_and]
  refine asc_of (b :: l) fun j h1 h2 => ?_
  have := h (j + 1) (by omega) (by simpa using h2)
  rw [show j + 1 - 1 = (j - 1) + 1 by omega] at this
  simpa using this
theorem chk_asc {l : List Fld} (h : chkFl l = 0) : ascB l = true := by
 refine asc_of l fun j h1 h2 => ?_
 have := ((chk_parts h).2 j h2).2
 unfold ordB at this
 rw [decide_eq_true h1, Bool.true_and] at this
 exact this
theorem first3_zero {a b c : Int} (h : firstF [a, b, c] = 0) : a = 0 ∧ b = 0 ∧ c = 0 := by
 simp only [firstF] at h
 split at h
 ·rename_i h1
  split at h
  ·rename_i h2
   split at h
   ·rename_i h3; exact ⟨h1, h2, h3⟩
   ·rename_i h3; exact absurd h h3
  ·rename_i h2; exact absurd h h2
 ·rename_i h1; exact absurd h h1
theorem merge_same (b m t : List Fld) : mfG (firstF [chkFl b, chkFl m, chkFl t]) (mgR b m t) = mfG (firstF [chkFl b, chkFl m, chkFl t]) (refM b m t) := by
 by_cases he : firstF [chkFl b, chkFl m, chkFl t] = 0
 ·obtain ⟨hb, hm, ht⟩ := first3_zero he
  have e : mgR b m t = mgo b m t (refNm (b ++ m ++ t)) := by
   unfold mgR
   rw [cF_asc (chk_asc hb), cF_asc (chk_asc hm), cF_asc (chk_asc ht), refNm_srt]
   have : nmsK b m t 3 = (b ++ m ++ t).map (·.1) := by
    show nm b ++ nm m ++ nm t = _
    unfold nm
    rw [cF_asc (chk_asc hb), cF_asc (chk_asc hm), cF_asc (chk_asc ht)]; simp
   rw [this]
  have hc := rm_con b m t (refNm (b ++ m ++ t))
  rw [he, e]
  unfold refM
  by_cases hq : 0 < (rmGo b m t (refNm (b ++ m ++ t))).2.length
  ·have hq2 : 0 < (mgo b m t (refNm (b ++ m ++ t))).2.length := by rw [← hc]; exact hq
   rw [if_pos hq, mfG_con (r := mgo b m t (refNm (b ++ m ++ t))) rfl (by omega), mfG_con (r := ([], (rmGo b m t (refNm (b ++ m ++ t))).2)) rfl (show 0 < (((rmGo b m t (refNm (b ++ m ++ t))).2.length : Nat) : Int) by omega), hc]
  ·rw [if_neg hq]
   have h0 : (mgo b m t (refNm (b ++ m ++ t))).2 = [] := by rw [← hc]; exact List.eq_nil_of_length_eq_zero (by omega)
   have ho := rm_out b m t _ h0
   rw [ho]
   unfold mfG
   rw [h0]
 ·rw [mfG_bad he, mfG_bad he]
end Go.Lens.Tm
end
section
namespace Go.Lens
set_option linter.unusedSectionVars false
variable [Lz]
section
variable {P : Program} {Y : Tab} [TabOk P Y] {nb : Nat} {s : St} {dst : Option Tmp} {ty u : TypeId} {pos : String} {af : Array Edge} {gd : Option (Nat × Bool)} {t : TypeId} {x y z : Operand}
theorem Body.idxE {α : Type} {enc : α → List PV} {l : List α} {h v sz n : Nat} {k : IntKind} {m : Int} {e T : TypeId} (hx : ev1 s x = .aref h v) (hm : lookM s.ms h = some (.arr v sz T (l.map enc))) (hy : ev1 s y = lit (.int k m)) (und : Y.underlying t = some (.slice e)) (hs : szT Y e = some sz)
  (hn : m = (n : Int)) (hlt : n < l.length) : Body P Y nb s ⟨dst, .indexAddr t x y, ty, pos, af, gd⟩ (.eref h v n 0) [] [h] := by
 refine .inr (SBody.of fun σ G a w hv hl I => ?_)
 have hX := hv x (by simp [Op.operands])
 have hY := hv y (by simp [Op.operands])
 rw [hx] at hX; rw [hy] at hY
 have hlk : lookM σ.ms h = some (.arr v sz T (l.map enc)) := by rw [hl h (.inl (by simp))]; exact hm
 have hq : indexAddrW Y t (lookM σ.ms) (.aref h v) (lit (.int k m)) = some (true, .eref h v n 0) := by
  show indexAddrQ Y t (lookM σ.ms) (.aref h v) (lit (.int k m)) = _
  unfold indexAddrQ lit
  subst hn
  have : decide ((0 : Int) ≤ (n : Int) ∧ (n : Int) < ((l.map enc).length : Int)) = true := decide_eq_true ⟨by omega, by rw [List.length_map]; omega⟩
  simp only [und, hs, hlk, and_self, if_true, this, Int.toNat_natCast]
 obtain ⟨r, h1, h2⟩ := indexAddrW_sound (P := P) I.ctxS.sees hq hX hY
 refine ⟨r, w, G, .inl ?_, stepped_same I.ctxS h2 (fun k hk => ?_)⟩
 ·simp only [execOp, Sem.run_bind, h1, Result.andThen_ok, Sem.run_pure]
 ·simp only [DV.refs, List.mem_singleton] at hk; subst hk; exact ⟨_, hlk⟩
theorem Body.setE {α : Type} {enc : α → List PV} {l : List α} {z0 : α} {p : PV} {h v n : Nat} {T : TypeId} (hx : ev1 s x = .eref h v n 0) (hm : lookM s.ms h = some (.arr v 1 T (l.map enc))) (hy : ev1 s y = .pv p) (hz : enc z0 = [p]) (hc : cellsPV p = [p])
  (hs : szT Y t = some 1) (hlt : n < l.length) (hsz : ∀ a, (enc a).length = 1) : Body P Y nb s ⟨dst, .store t x y, ty, pos, af, gd⟩ .dead [(h, .arr v 1 T ((l.set n z0).map enc))] [h] := by
 refine .inr (SBody.of fun σ G a w hv hl I => ?_)
 have hX := hv x (by simp [Op.operands])
 have hY := hv y (by simp [Op.operands])
 rw [hx] at hX; rw [hy] at hY
 have hlk : lookM σ.ms h = some (.arr v 1 T (l.map enc)) := by rw [hl h (.inl (by simp))]; exact hm
 have C : Ctx G w (fun z => match z with | .tmp 0 => a.eval x | .tmp 1 => a.eval y | _ => undef) (fun z => match z with | .tmp 0 => .eref h v n 0 | .tmp 1 => .pv p | _ => .dead) (lookM σ.ms) (lookM σ.ms) := by
  refine I.mem.ctx2 (fun z => ?_) (fun z k hk => ?_)
  ·split
   ·exact hX
   ·exact hY
   ·simp only [RelDV]
  ·split at hk
   ·simp only [DV.refs, List.mem_singleton] at hk; subst hk; exact ⟨_, hlk⟩
   ·simp [DV.refs] at hk
   ·simp [DV.refs] at hk
 have hcv : storeV Y t (.eref h v n 0) (.pv p) (lookM σ.ms) = some ⟨true, .dead, [(h, .arr v 1 T ((l.set n z0).map enc))]⟩ := by
  unfold storeV
  have hp : pvOf (lookM σ.ms) (.pv p) = some p := rfl
  have hg : (l.map enc).getD n [] = enc (l[n]'hlt) := by rw [List.getD_eq_getElem?_getD, List.getElem?_map, List.getElem?_eq_getElem hlt]; rfl
  have hd : (enc (l[n]'hlt)).drop 1 = [] := List.drop_eq_nil_of_le (by rw [hsz]; omega)
  have hdec : decide (n < (l.map enc).length ∧ 0 + 1 ≤ 1) = true := decide_eq_true ⟨by rw [List.length_map]; exact hlt, by omega⟩
  simp only [hs, hlk, hp, hc, List.length_cons, List.length_nil, and_self, if_true, hg, List.take_zero, List.nil_append, Nat.zero_add, hd, List.append_nil, List.map_set, hz]
  have hdec2 : decide (n < (l.map enc).length ∧ 1 ≤ 1) = true := hdec
  simp only [List.length_map] at hdec2
  simp [hlt]
 obtain ⟨w', G', h1, h2⟩ := storeV_sound (P := P) C (t := t) (a := .tmp 0) (x := .tmp 1) hcv rfl
 refine ⟨undef, w', G', .inr ⟨?_, rfl⟩, h2⟩
 have lift : ∀ {q : Sem Unit} {w' : World}, q.run P w = .ok () w' → (do q; Pure.pure Next.skip : Sem Next).run P w = .ok .skip w' := by
  intro q w' h
  simp only [Sem.run_bind, h, Result.andThen_ok, Sem.run_pure]
 exact lift (q := Instr.storeAt _ _ _) h1
theorem Body.lenB1 {c : UInt8} {at' : TypeId} (hx : ev1 s x = lit (.string (bsO [c]))) (hu : Y.underlying at' = some .string) : Body P Y nb s ⟨dst, .call ⟨.builtin .len, ⟨[x]⟩, ⟨[at']⟩⟩, ty, pos, af, gd⟩ (lit (.int .i64 1)) [] [] := Body.lenB hx hu
end
end Go.Lens
end
section
namespace Go.Lens.Tm
open Go.Lens.Tb Go.Proofs
set_option linter.unusedSectionVars false
variable [Lz]
theorem u8_back (c : UInt8) : (((c.toNat : Nat) : Int)).toNat.toUInt8 = c := by simp
theorem w310 (hp : PowLaid) (s : List UInt8) (c : UInt8) : CallOk Tryz.prog 310 [vS (bsO s), .pv (.lit (.int .u8 ((c.toNat : Nat) : Int)))] (lookM []) (vI (Lib.indexByte s c)) [] := by
 have h : extO ext 310 0 [vS (bsO s), .pv (.lit (.int .u8 ((c.toNat : Nat) : Int)))] [] = some (lit (.int .i64 (Lib.indexByte (bsO s).data.toList (((c.toNat : Nat) : Int)).toNat.toUInt8)), []) := rfl
 rw [u8_back] at h
 exact extO_ok (ext_ok hp) _ _ _ _ _ _ h
theorem w287 (hp : PowLaid) (s : List UInt8) (c : UInt8) : CallOk Tryz.prog 287 [vS (bsO s), .pv (.lit (.int .u8 ((c.toNat : Nat) : Int)))] (lookM []) (vI ((List.count c s : Nat) : Int)) [] := by
 have h : extO ext 287 0 [vS (bsO s), .pv (.lit (.int .u8 ((c.toNat : Nat) : Int)))] [] = some (lit (.int .i64 (Lib.countByte (bsO s).data.toList (((c.toNat : Nat) : Int)).toNat.toUInt8)), []) := rfl
 rw [u8_back] at h
 exact extO_ok (ext_ok hp) _ _ _ _ _ _ h
theorem ix_nat : ∀ {s : List UInt8} {c : UInt8}, 0 ≤ Lib.indexByte s c → ∃ n : Nat, Lib.indexByte s c = (n : Int) ∧ n < s.length ∧ s.getD n 0 = c ∧ ∀ j, j < n → s.getD j 0 ≠ c
 | [], c, h => by simp [Lib.indexByte] at h
 | b :: l, c, h => by
  simp only [Lib.indexByte] at h ⊢
  by_cases hb : (b == c) = true
  ·rw [if_pos hb]
   exact ⟨0, rfl, by simp, by simpa using hb, fun j hj => by omega⟩
  ·rw [if_neg hb] at h ⊢
   by_cases h1 : (Lib.indexByte l c == -1) = true
   ·rw [if_pos h1] at h; omega
   ·rw [if_neg h1] at h ⊢
    have hge := Lib.indexByte_ge l c
    have hne : Lib.indexByte l c ≠ -1 := by simpa using h1
    obtain ⟨n, e, k1, k2, k3⟩ := ix_nat (s := l) (c := c) (by omega)
    refine ⟨n + 1, by rw [e]; rfl, by simpa using k1, by simpa using k2, fun j hj => ?_⟩
    cases j with
    | zero => simpa using hb
    | succ j => simpa using k3 j (by omega)
theorem ix_neg : ∀ {s : List UInt8} {c : UInt8}, Lib.indexByte s c < 0 → c ∉ s
 | [], c, _ => by simp
 | b :: l, c, h => by
  simp only [Lib.indexByte] at h
  by_cases hb : (b == c) = true
  ·rw [if_pos hb] at h; omega
  ·rw [if_neg hb] at h
   by_cases h1 : (Lib.indexByte l c == -1) = true
   ·have e : Lib.indexByte l c = -1 := by simpa using h1
    have := ix_neg (s := l) (c := c) (by omega)
    have hb' : b ≠ c := by simpa using hb
    simp only [List.mem_cons, not_or]
    exact ⟨fun e => hb' e.symm, this⟩
   ·rw [if_neg h1] at h
    have := Lib.indexByte_ge l c
    have hne : Lib.indexByte l c ≠ -1 := by simpa using h1
    omega
theorem ix_self {s : List UInt8} {c : UInt8} (h : (bif decide ((1 : Int) = 0) then true else decide ([c] = s)) = true) : (0 : Int) = Lib.indexByte s c := by
 have : [c] = s := by simpa using h
 subst this
 simp [Lib.indexByte]
def cut3 (s : List UInt8) (c : UInt8) : List UInt8 × List UInt8 × Bool := if Lib.indexByte s c < 0 then (s, [], false) else (s.take (Lib.indexByte s c).toNat, s.drop ((Lib.indexByte s c).toNat + 1), true)
theorem cut3_no {s : List UInt8} {c : UInt8} (h : ¬ 0 ≤ Lib.indexByte s c) : cut3 s c = (s, [], false) := by unfold cut3; exact if_pos (by omega)
theorem cut3_yes {s : List UInt8} {c : UInt8} {n : Nat} (h : Lib.indexByte s c = (n : Int)) : cut3 s c = (s.take n, s.drop (n + 1), true) := by
 unfold cut3; rw [h, if_neg (by omega), Int.toNat_natCast]
theorem cutP_cut3 (p : List UInt8) : ((cut3 p 61).2.2 = true → cutP p = some ((cut3 p 61).1, (cut3 p 61).2.1)) ∧ ((cut3 p 61).2.2 = false → cutP p = none) := by
 have c61 : ∀ b : UInt8, ((b.toNat : Nat) : Int) = 61 ↔ b = 61 := fun b => by
  constructor
  ·intro h; exact UInt8.toNat_inj.1 (by have e : (61 : UInt8).toNat = 61 := rfl; omega)
  ·rintro rfl; rfl
 by_cases h : 0 ≤ Lib.indexByte p 61
 ·obtain ⟨n, e, k1, k2, k3⟩ := ix_nat h
  rw [cut3_yes e]
  refine ⟨fun _ => ?_, fun h => by cases h⟩
  exact (cutP_at p n (by omega) fun j hj hq => k3 j hj ((c61 _).1 hq)).2 k1 ((c61 _).2 k2)
 ·rw [cut3_no h]
  refine ⟨fun h => (by cases h), fun _ => ?_⟩
  have hn := ix_neg (s := p) (c := 61) (by omega)
  exact (cutP_at p p.length (Nat.le_refl _) fun j hj hq => hn (by have := (c61 _).1 hq; rw [← this]; exact getD_mem hj)).1 rfl
theorem c32 (b : UInt8) : ((b.toNat : Nat) : Int) = 32 ↔ b = 32 := by
 constructor
 ·intro h; exact UInt8.toNat_inj.1 (by have e : (32 : UInt8).toNat = 32 := rfl; omega)
 ·rintro rfl; rfl
theorem splGo_none : ∀ (s acc : List UInt8), 32 ∉ s → splGo acc s = [acc ++ s]
 | [], acc, _ => by simp [splGo]
 | b :: r, acc, h => by
  simp only [List.mem_cons, not_or] at h
  simp only [splGo]
  rw [decide_eq_false (p := ((b.toNat : Nat) : Int) = 32) (fun e => h.1 ((c32 b).1 e).symm), cond_false, splGo_none r _ h.2]; simp
theorem splGo_at : ∀ (s acc : List UInt8) (n : Nat), n < s.length → s.getD n 0 = 32 → (∀ j, j < n → s.getD j 0 ≠ 32) → splGo acc s = (acc ++ s.take n) :: splGo [] (s.drop (n + 1)) ∧ List.count 32 s = List.count 32 (s.drop (n + 1)) + 1
 | [], _, n, h, _, _ => by simp at h
 | b :: r, acc, 0, _, h, _ => by
  have hb : b = 32 := h
  subst hb
  simp only [splGo]
  exact ⟨by simp, by simp⟩
 | b :: r, acc, n + 1, h1, h2, h3 => by
  have hb : b ≠ 32 := h3 0 (by omega)
  obtain ⟨k1, k2⟩ := splGo_at r (acc ++ [b]) n (by simpa using h1) (by simpa using h2) fun j hj => by simpa using h3 (j + 1) (by omega)
  simp only [splGo]
  rw [decide_eq_false (p := ((b.toNat : Nat) : Int) = 32) (fun e => hb ((c32 b).1 e)), cond_false, k1]
  exact ⟨by simp, by rw [List.count_cons_of_ne hb]; simpa using k2⟩
def GsI (s : List UInt8) (n2 i : Nat) (a : List (List UInt8)) (q : List UInt8) : Prop := a.length = n2 ∧ q.length ≤ s.length ∧ i + List.count 32 q + 1 = n2 ∧ splS s = a.take i ++ splS q
theorem gs_step {s q : List UInt8} {n2 i m : Nat} {a : List (List UInt8)} (h : GsI s n2 i a q) (e : Lib.indexByte q 32 = (m : Int)) (hm : m < q.length) (h2 : q.getD m 0 = 32) (h3 : ∀ j, j < m → q.getD j 0 ≠ 32) : GsI s n2 (i + 1) (a.set i (q.take m)) (q.drop (m + 1)) := by
 obtain ⟨k1, k2, k3, k4⟩ := h
 obtain ⟨g1, g2⟩ := splGo_at q [] m hm h2 h3
 refine ⟨by rw [List.length_set]; exact k1, by rw [List.length_drop]; omega, by omega, ?_⟩
 have hi : i < a.length := by omega
 rw [k4]
 unfold splS
 rw [g1, List.take_add_one, List.getElem?_set_self hi, List.take_set_of_le (Nat.le_refl _)]
 simp
theorem gs_end {s q : List UInt8} {n2 i : Nat} {a : List (List UInt8)} (h : GsI s n2 i a q) (hq : 32 ∉ q) : (a.set i q).take (i + 1) = splS s := by
 obtain ⟨k1, k2, k3, k4⟩ := h
 have hi : i < a.length := by omega
 rw [k4]
 unfold splS
 rw [splGo_none q [] hq, List.take_add_one, List.getElem?_set_self hi, List.take_set_of_le (Nat.le_refl _)]
 rfl
theorem gs_no {s q : List UInt8} {n2 i : Nat} {a : List (List UInt8)} (h : GsI s n2 i a q) (hc : ¬ ((i : Nat) : Int) < ((n2 : Nat) : Int) - 1) : 32 ∉ q := by
 obtain ⟨_, _, k3, _⟩ := h
 exact List.count_eq_zero.1 (by omega)
end Go.Lens.Tm
end
section
namespace Go.Lens.Tm
open Go.Lens.Tb Go.Proofs
variable [Lz]
set_option linter.unusedSectionVars false
set_option maxRecDepth 100000
attribute [local irreducible] TK PK T RG EfR Body
set_option maxHeartbeats 4000000 in
theorem w288 (hp : PowLaid) (s : List UInt8) (c : UInt8) : CallOk Tryz.prog 288 [vS (bsO s), .pv (.lit (.int .u8 ((UInt8.toNat c : Nat) : Int)))] (lookM []) (vI (Lib.indexByte s c)) [] := by
 haveI := tab_ok
 obtain ⟨fn, f1, f2, f3, f4, _, f6⟩ := qf288
 refine callOk_of (Y := tab) (F := fn288) f1 (f2.trans rfl) f3 f4 f6 (Nat.le_of_ble_eq_true rfl) rfl ?_
 clear f1 f2 f3 f4 f6
 show TK _ _ _ _ _ _ ⟨[(0, vS (bsO s)), (1, .pv (.lit (.int .u8 ((UInt8.toNat c : Nat) : Int))))], []⟩
 refine At rfl ?_
 refine NR ⟨[(0, vS (bsO s)), (1, .pv (.lit (.int .u8 ((UInt8.toNat c : Nat) : Int))))], []⟩ (sb rfl rfl rfl) rfl ?_
 refine ag rfl ?_
 refine RN ?_
 refine Ap rfl ?_
 refine NR ⟨[(0, vS (bsO s)), (1, .pv (.lit (.int .u8 ((UInt8.toNat c : Nat) : Int))))], []⟩ (sb rfl rfl rfl) rfl ?_
 refine mv rfl ?_
 refine mv rfl ?_
 refine RO (Body.call (w310 hp s c) rfl rfl rfl) ?_
 refine ag rfl ?_
 refine RN ?_
 refine Ap rfl ?_
 refine TK.ret ?_
 refine PK.ret ?_
 refine leaf (val0 := vI (Lib.indexByte s c)) (by kernel_rfl) ?_
 exact rfl
set_option maxHeartbeats 4000000 in
theorem w246 (hp : PowLaid) (s : List UInt8) (c : UInt8) (hl : s.length ≤ 1000000) : CallOk Tryz.prog 246 [vS (bsO s), vS (bsO [c])] (lookM []) (vI (Lib.indexByte s c)) [] := by
 haveI := tab_ok
 obtain ⟨fn, f1, f2, f3, f4, _, f6⟩ := qf246
 refine callOk_of (Y := tab) (F := fn246) f1 (f2.trans rfl) f3 f4 f6 (Nat.le_of_ble_eq_true rfl) rfl ?_
 clear f1 f2 f3 f4 f6
 show TK _ _ _ _ _ _ ⟨[(0, vS (bsO s)), (1, vS (bsO [c]))], []⟩
 refine At rfl ?_
 refine NR ⟨[(0, vS (bsO s)), (1, vS (bsO [c]))], []⟩ (sb rfl rfl rfl) rfl ?_
 refine ag rfl ?_
 refine RN ?_
 refine Ap rfl ?_
 refine NR ⟨[(0, vS (bsO s)), (1, vS (bsO [c]))], []⟩ (sb rfl rfl rfl) rfl ?_
 refine mv rfl ?_
 refine RO (Body.lenB1 (c := c) rfl un9) ?_
 refine ag rfl ?_
 refine RN ?_
 refine Ap rfl ?_
 refine NR ⟨[(0, vS (bsO s)), (1, vS (bsO [c])), (5, vI 1)], []⟩ (sb rfl rfl rfl) rfl ?_
 refine mv rfl ?_
 refine RO (Body.eql rfl rfl) ?_
 refine mv rfl ?_
 refine RG.cons (EfR.sym rfl (fun hc => Body.move rfl) rfl) ?_
 refine RG.cons (EfR.sym rfl (fun hc => Body.move rfl) rfl) ?_
 refine RG.cons (EfR.sym rfl (fun hc => Body.seqB (a := [c]) (b := s) (ev1_gd rfl hc) (ev1_gd rfl hc)) rfl) ?_
 refine RO (Body.pick rfl rfl rfl rfl (gdB rfl) (pick_or _)) ?_
 refine ag rfl ?_
 refine RN ?_
 refine Ap rfl ?_
 refine TK.norm ⟨[(0, vS (bsO s)), (1, vS (bsO [c])), (5, vI 1), (16, vB (bif (decide (1 = 0)) then true else (decide ([c] = s))))], []⟩ (sb rfl rfl rfl) ?_
 refine TK.cond rfl (fun h1 => ?_) (fun h1 => ?_)
 ·
  refine At rfl ?_
  refine NR ⟨[], []⟩ (sb rfl rfl rfl) rfl ?_
  refine ag rfl ?_
  refine RN ?_
  refine Ap rfl ?_
  refine TK.ret ?_
  refine PK.ret ?_
  refine leaf (val0 := vI 0) (by kernel_rfl) ?_
  exact li (by exact ix_self h1)
 ·
  refine At rfl ?_
  refine NR ⟨[(0, vS (bsO s)), (1, vS (bsO [c])), (5, vI 1)], []⟩ (sb rfl rfl rfl) rfl ?_
  refine mv rfl ?_
  refine RO (Body.eql rfl rfl) ?_
  refine ag rfl ?_
  refine RN ?_
  refine Ap rfl ?_
  refine TK.norm ⟨[(0, vS (bsO s)), (1, vS (bsO [c])), (5, vI 1), (24, vB (decide (1 = 1)))], []⟩ (sb rfl rfl rfl) ?_
  refine TK.condT rfl ?_
  refine At rfl ?_
  refine NR ⟨[(0, vS (bsO s)), (1, vS (bsO [c]))], []⟩ (sb rfl rfl rfl) rfl ?_
  refine mv rfl ?_
  refine mv rfl ?_
  refine RO (Body.sidx (i := 0) rfl rfl un9 rfl (show 0 < List.length [c] from (by first | omega | simp))) ?_
  refine RO (Body.call (w288 hp s c) rfl rfl rfl) ?_
  refine ag rfl ?_
  refine RN ?_
  refine Ap rfl ?_
  refine TK.ret ?_
  refine PK.ret ?_
  refine leaf (val0 := vI (Lib.indexByte s c)) (by kernel_rfl) ?_
  exact rfl
set_option maxHeartbeats 4000000 in
theorem w245 (hp : PowLaid) (s : List UInt8) (c : UInt8) (hl : s.length ≤ 1000000) : CallOk Tryz.prog 245 [vS (bsO s), vS (bsO [c])] (lookM []) (vI (Lib.indexByte s c)) [] := by
 haveI := tab_ok
 obtain ⟨fn, f1, f2, f3, f4, _, f6⟩ := qf245
 refine callOk_of (Y := tab) (F := fn245) f1 (f2.trans rfl) f3 f4 f6 (Nat.le_of_ble_eq_true rfl) rfl ?_
 clear f1 f2 f3 f4 f6
 show TK _ _ _ _ _ _ ⟨[(0, vS (bsO s)), (1, vS (bsO [c]))], []⟩
 refine At rfl ?_
 refine NR ⟨[(0, vS (bsO s)), (1, vS (bsO [c]))], []⟩ (sb rfl rfl rfl) rfl ?_
 refine ag rfl ?_
 refine RN ?_
 refine Ap rfl ?_
 refine NR ⟨[(0, vS (bsO s)), (1, vS (bsO [c]))], []⟩ (sb rfl rfl rfl) rfl ?_
 refine mv rfl ?_
 refine mv rfl ?_
 refine RO (Body.call (w246 hp s c (by omega)) rfl rfl rfl) ?_
 refine ag rfl ?_
 refine RN ?_
 refine Ap rfl ?_
 refine TK.ret ?_
 refine PK.ret ?_
 refine leaf (val0 := vI (Lib.indexByte s c)) (by kernel_rfl) ?_
 exact rfl
set_option maxHeartbeats 4000000 in
theorem w244 (hp : PowLaid) (s : List UInt8) (c : UInt8) (hl : s.length ≤ 1000000) : CallOk Tryz.prog 244 [vS (bsO s), vS (bsO [c])] (lookM []) (vI ((List.count c s : Nat) : Int)) [] := by
 haveI := tab_ok
 obtain ⟨fn, f1, f2, f3, f4, _, f6⟩ := qf244
 refine callOk_of (Y := tab) (F := fn244) f1 (f2.trans rfl) f3 f4 f6 (Nat.le_of_ble_eq_true rfl) rfl ?_
 clear f1 f2 f3 f4 f6
 show TK _ _ _ _ _ _ ⟨[(0, vS (bsO s)), (1, vS (bsO [c]))], []⟩
 refine At rfl ?_
 refine NR ⟨[(0, vS (bsO s)), (1, vS (bsO [c]))], []⟩ (sb rfl rfl rfl) rfl ?_
 refine ag rfl ?_
 refine RN ?_
 refine Ap rfl ?_
 refine NR ⟨[(0, vS (bsO s)), (1, vS (bsO [c]))], []⟩ (sb rfl rfl rfl) rfl ?_
 refine mv rfl ?_
 refine RO (Body.lenB1 (c := c) rfl un9) ?_
 refine RO (Body.eql rfl rfl) ?_
 refine RN ?_
 refine Ap rfl ?_
 refine TK.norm ⟨[(0, vS (bsO s)), (1, vS (bsO [c])), (9, vB (decide (1 = 0)))], []⟩ (sb rfl rfl rfl) ?_
 refine TK.condF rfl ?_
 refine At rfl ?_
 refine NR ⟨[(0, vS (bsO s)), (1, vS (bsO [c]))], []⟩ (sb rfl rfl rfl) rfl ?_
 refine mv rfl ?_
 refine RO (Body.lenB1 (c := c) rfl un9) ?_
 refine RO (Body.eql rfl rfl) ?_
 refine RN ?_
 refine Ap rfl ?_
 refine TK.norm ⟨[(0, vS (bsO s)), (1, vS (bsO [c])), (15, vB (decide (1 = 1)))], []⟩ (sb rfl rfl rfl) ?_
 refine TK.condT rfl ?_
 refine At rfl ?_
 refine NR ⟨[(0, vS (bsO s)), (1, vS (bsO [c]))], []⟩ (sb rfl rfl rfl) rfl ?_
 refine mv rfl ?_
 refine mv rfl ?_
 refine RO (Body.sidx (i := 0) rfl rfl un9 rfl (show 0 < List.length [c] from (by first | omega | simp))) ?_
 refine RO (Body.call (w287 hp s c) rfl rfl rfl) ?_
 refine ag rfl ?_
 refine RN ?_
 refine Ap rfl ?_
 refine TK.ret ?_
 refine PK.ret ?_
 refine leaf (val0 := vI ((List.count c s : Nat) : Int)) (by kernel_rfl) ?_
 exact rfl
set_option maxHeartbeats 4000000 in
theorem w171 (hp : PowLaid) (s : List UInt8) (c : UInt8) (hl : s.length ≤ 1000000) : CallOk Tryz.prog 171 [vS (bsO s), vS (bsO [c])] (lookM []) (.tup [vS (bsO (cut3 s c).1), vS (bsO (cut3 s c).2.1), vB (cut3 s c).2.2]) [] := by
 haveI := tab_ok
 obtain ⟨fn, f1, f2, f3, f4, _, f6⟩ := qf171
 refine callOk_of (Y := tab) (F := fn171) f1 (f2.trans rfl) f3 f4 f6 (Nat.le_of_ble_eq_true rfl) rfl ?_
 clear f1 f2 f3 f4 f6
 show TK _ _ _ _ _ _ ⟨[(0, vS (bsO s)), (1, vS (bsO [c]))], []⟩
 refine At rfl ?_
 refine NR ⟨[(0, vS (bsO s)), (1, vS (bsO [c]))], []⟩ (sb rfl rfl rfl) rfl ?_
 refine ag rfl ?_
 refine ag rfl ?_
 refine ag rfl ?_
 refine RN ?_
 refine Ap rfl ?_
 refine NR ⟨[(0, vS (bsO s)), (1, vS (bsO [c]))], []⟩ (sb rfl rfl rfl) rfl ?_
 refine mv rfl ?_
 refine mv rfl ?_
 refine RO (Body.call (w246 hp s c (by omega)) rfl rfl rfl) ?_
 refine ag rfl ?_
 refine RN ?_
 refine Ap rfl ?_
 refine NR ⟨[(0, vS (bsO s)), (1, vS (bsO [c])), (7, vI (Lib.indexByte s c))], []⟩ (sb rfl rfl rfl) rfl ?_
 refine mv rfl ?_
 refine RO (Body.geq rfl rfl) ?_
 refine RN ?_
 refine Ap rfl ?_
 refine TK.norm ⟨[(0, vS (bsO s)), (1, vS (bsO [c])), (7, vI (Lib.indexByte s c)), (12, vB (decide (0 ≤ (Lib.indexByte s c))))], []⟩ (sb rfl rfl rfl) ?_
 refine TK.condP rfl (fun h1 => ?_) (fun h1 => ?_)
 ·
  refine At rfl ?_
  refine TK.norm ⟨[(0, vS (bsO s)), (1, vS (bsO [c])), (7, vI (Lib.indexByte s c))], []⟩ (sb rfl rfl rfl) ?_
  obtain ⟨n, hn, hns, _, _⟩ := ix_nat h1
  rw [hn]
  refine TK.rg (Y := tab) mixed rfl ?_
  refine mv rfl ?_
  refine mv rfl ?_
  refine RO (Body.slHB (a := s) (j := n) rfl rfl un9 rfl (by omega)) ?_
  refine mv rfl ?_
  refine mv rfl ?_
  refine mv rfl ?_
  refine RO (Body.lenB1 (c := c) rfl un9) ?_
  refine RO (Body.add rfl rfl (by unfold R64; omega)) ?_
  refine RO (Body.slLB (a := s) (i := (n + 1)) rfl rfl un9 (by omega) (by omega)) ?_
  refine ag rfl ?_
  refine ag rfl ?_
  refine ag rfl ?_
  refine RG.nil (fun _ => by kernel_rfl) ?_
  refine Ap rfl ?_
  refine TK.ret ?_
  refine PK.ret ?_
  refine leaf (val0 := .tup [vS (bsO (List.take n s)), vS (bsO (List.drop (n + 1) s)), vB true]) (by kernel_rfl) ?_
  exact tup3 (ls (by first | rw [cut3_yes hn] | rw [cut3_no h1])) (ls (by first | rw [cut3_yes hn] | rw [cut3_no h1])) (lb (by first | rw [cut3_yes hn] | rw [cut3_no h1]))
 ·
  refine At rfl ?_
  refine NR ⟨[(0, vS (bsO s))], []⟩ (sb rfl rfl rfl) rfl ?_
  refine mv rfl ?_
  refine ag rfl ?_
  refine ag rfl ?_
  refine ag rfl ?_
  refine RN ?_
  refine Ap rfl ?_
  refine TK.ret ?_
  refine PK.ret ?_
  refine leaf (val0 := .tup [vS (bsO s), vS (bsO []), vB false]) (by kernel_rfl) ?_
  exact tup3 (ls (by first | rw [cut3_yes hn] | rw [cut3_no h1])) (ls (by first | rw [cut3_yes hn] | rw [cut3_no h1])) (lb (by first | rw [cut3_yes hn] | rw [cut3_no h1]))
set_option maxHeartbeats 4000000 in
theorem w117 (hp : PowLaid) (s : List UInt8) (c : UInt8) (hl : s.length ≤ 1000000) : CallOk Tryz.prog 117 [vS (bsO s), vS (bsO [c])] (lookM []) (.tup [vS (bsO (cut3 s c).1), vS (bsO (cut3 s c).2.1), vB (cut3 s c).2.2]) [] := by
 haveI := tab_ok
 obtain ⟨fn, f1, f2, f3, f4, _, f6⟩ := qf117
 refine callOk_of (Y := tab) (F := fn117) f1 (f2.trans rfl) f3 f4 f6 (Nat.le_of_ble_eq_true rfl) rfl ?_
 clear f1 f2 f3 f4 f6
 show TK _ _ _ _ _ _ ⟨[(0, vS (bsO s)), (1, vS (bsO [c]))], []⟩
 refine At rfl ?_
 refine NR ⟨[(0, vS (bsO s)), (1, vS (bsO [c]))], []⟩ (sb rfl rfl rfl) rfl ?_
 refine ag rfl ?_
 refine ag rfl ?_
 refine ag rfl ?_
 refine RN ?_
 refine Ap rfl ?_
 refine NR ⟨[(0, vS (bsO s)), (1, vS (bsO [c]))], []⟩ (sb rfl rfl rfl) rfl ?_
 refine mv rfl ?_
 refine mv rfl ?_
 refine RO (Body.call (w171 hp s c (by omega)) rfl rfl rfl) ?_
 refine rn rfl ?_
 refine rn rfl ?_
 refine rn rfl ?_
 refine ag rfl ?_
 refine ag rfl ?_
 refine ag rfl ?_
 refine RN ?_
 refine Ap rfl ?_
 refine TK.ret ?_
 refine PK.ret ?_
 refine leaf (val0 := .tup [vS (bsO (cut3 s c).1), vS (bsO (cut3 s c).2.1), vB (cut3 s c).2.2]) (by kernel_rfl) ?_
 exact rfl
set_option maxHeartbeats 4000000 in
theorem w170 (hp : PowLaid) (s : List UInt8) (hl : s.length ≤ 1000000) : CallOk Tryz.prog 170 [vS (bsO s), vS (bsO [32]), vI 0, vI (-1)] (lookM []) (vL eN (splS s)) [] := by
 haveI := tab_ok
 obtain ⟨fn, f1, f2, f3, f4, _, f6⟩ := qf170
 refine callOk_of (Y := tab) (F := fn170) f1 (f2.trans rfl) f3 f4 f6 (Nat.le_of_ble_eq_true rfl) rfl ?_
 clear f1 f2 f3 f4 f6
 show TK _ _ _ _ _ _ ⟨[(0, vS (bsO s)), (1, vS (bsO [32])), (2, vI 0), (3, vI (-1))], []⟩
 refine At rfl ?_
 refine NR ⟨[(0, vS (bsO s)), (1, vS (bsO [32])), (2, vI 0), (3, vI (-1))], []⟩ (sb rfl rfl rfl) rfl ?_
 refine RO (Body.nilS (enc := eN) rfl) ?_
 refine RN ?_
 refine Ap rfl ?_
 refine NR ⟨[(0, vS (bsO s)), (1, vS (bsO [32])), (2, vI 0), (3, vI (-1))], []⟩ (sb rfl rfl rfl) rfl ?_
 refine mv rfl ?_
 refine RO (Body.eql rfl rfl) ?_
 refine RN ?_
 refine Ap rfl ?_
 refine TK.norm ⟨[(0, vS (bsO s)), (1, vS (bsO [32])), (2, vI 0), (3, vI (-1)), (13, vB (decide ((-1) = 0)))], []⟩ (sb rfl rfl rfl) ?_
 refine TK.condF rfl ?_
 refine At rfl ?_
 refine NR ⟨[(0, vS (bsO s)), (1, vS (bsO [32])), (2, vI 0), (3, vI (-1))], []⟩ (sb rfl rfl rfl) rfl ?_
 refine mv rfl ?_
 refine RO (Body.seqB (a := [32]) (b := []) rfl rfl) ?_
 refine RN ?_
 refine Ap rfl ?_
 refine TK.norm ⟨[(0, vS (bsO s)), (1, vS (bsO [32])), (2, vI 0), (3, vI (-1)), (15, vB (decide ([32] = [])))], []⟩ (sb rfl rfl rfl) ?_
 refine TK.condF rfl ?_
 refine At rfl ?_
 refine NR ⟨[(0, vS (bsO s)), (1, vS (bsO [32])), (2, vI 0), (3, vI (-1))], []⟩ (sb rfl rfl rfl) rfl ?_
 refine mv rfl ?_
 refine RO (Body.lss rfl rfl) ?_
 refine RN ?_
 refine Ap rfl ?_
 refine TK.norm ⟨[(0, vS (bsO s)), (1, vS (bsO [32])), (2, vI 0), (3, vI (-1)), (20, vB (decide ((-1) < 0)))], []⟩ (sb rfl rfl rfl) ?_
 refine TK.condT rfl ?_
 refine At rfl ?_
 refine TK.norm ⟨[(0, vS (bsO s)), (1, vS (bsO [32])), (2, vI 0)], []⟩ (sb rfl rfl rfl) ?_
 have hcl : List.count 32 s ≤ s.length := List.count_le_length
 refine TK.rg (Y := tab) mixed rfl ?_
 refine mv rfl ?_
 refine mv rfl ?_
 refine RO (Body.call (w244 hp s 32 (by omega)) rfl rfl rfl) ?_
 refine RO (Body.add rfl rfl (by unfold R64; omega)) ?_
 refine ag rfl ?_
 refine RN ?_
 refine Ap rfl ?_
 refine NR ⟨[(0, vS (bsO s)), (1, vS (bsO [32])), (2, vI 0), (3, vI (((List.count 32 s : Nat) : Int) + 1))], []⟩ (sb rfl rfl rfl) rfl ?_
 refine mv rfl ?_
 refine mv rfl ?_
 refine RO (Body.lenB (a := s) rfl un9) ?_
 refine RO (Body.add rfl rfl (by unfold R64; omega)) ?_
 refine RO (Body.min rfl rfl) ?_
 refine ag rfl ?_
 refine RN ?_
 refine Ap rfl ?_
 refine TK.norm ⟨[(0, vS (bsO s)), (1, vS (bsO [32])), (2, vI 0), (3, vI (min (((List.count 32 s : Nat) : Int) + 1) (((List.length s : Nat) : Int) + 1)))], []⟩ (sb rfl rfl rfl) ?_
 obtain ⟨n2, hn2⟩ : ∃ n2, n2 = List.count 32 s + 1 := ⟨_, rfl⟩
 rw [show (min (((List.count 32 s : Nat) : Int) + 1) (((List.length s : Nat) : Int) + 1)) = ((n2 : Nat) : Int) by omega]
 refine TK.rg (Y := tab) mixed rfl ?_
 refine mv rfl ?_
 refine RO (Body.makeSl (enc := eN) (sz := 1) (z0 := []) (n := n2) (m := n2) rfl rfl rfl un73 in9 rfl rfl rfl by9 (by first | omega | (simp only [List.length_set]; omega) | (simp only [List.length_cons, List.length_nil]; omega)) rfl rfl) ?_
 refine rn rfl ?_
 refine RN ?_
 refine Ap rfl ?_
 refine NR ⟨[(0, vS (bsO s)), (1, vS (bsO [32])), (2, vI 0), (3, vI ((n2 : Nat) : Int)), (9, .aref 32 0)], [(32, .arr 0 1 9 (List.map eN (List.replicate n2 [])))]⟩ (sb rfl rfl rfl) rfl ?_
 refine mv rfl ?_
 refine RO (Body.sub rfl rfl (by unfold R64; omega)) ?_
 refine ag rfl ?_
 refine RN ?_
 refine Ap rfl ?_
 refine NR ⟨[(0, vS (bsO s)), (1, vS (bsO [32])), (2, vI 0), (3, vI (((n2 : Nat) : Int) - 1)), (9, .aref 32 0)], [(32, .arr 0 1 9 (List.map eN (List.replicate n2 [])))]⟩ (sb rfl rfl rfl) rfl ?_
 refine ag rfl ?_
 refine RN ?_
 refine Ap rfl ?_
 refine TK.loop (α := Nat × List (List UInt8) × List UInt8) (fun x => ⟨[(0, vS (bsO x.2.2)), (1, vS (bsO [32])), (2, vI 0), (3, vI (((n2 : Nat) : Int) - 1)), (9, .aref 32 0), (10, vI ((x.1 : Nat) : Int))], [(32, .arr 0 1 9 (List.map eN x.2.1))]⟩) (fun x => GsI s n2 x.1 x.2.1 x.2.2) (fun x => n2 - x.1) (0, (List.replicate n2 []), s) ?_ (sb rfl rfl rfl) ?_
 · show GsI s n2 0 (List.replicate n2 []) s
   exact ⟨List.length_replicate, Nat.le_refl _, by omega, by simp⟩
 rintro ⟨i, a, q⟩ hI0
 replace hI0 : GsI s n2 i a q := hI0
 have hal := hI0.1
 have hil := hI0.2.2.1
 show TK _ _ _ _ _ _ ⟨[(0, vS (bsO q)), (1, vS (bsO [32])), (2, vI 0), (3, vI (((n2 : Nat) : Int) - 1)), (9, .aref 32 0), (10, vI ((i : Nat) : Int))], [(32, .arr 0 1 9 (List.map eN a))]⟩
 refine At rfl ?_
 refine NR ⟨[(0, vS (bsO q)), (1, vS (bsO [32])), (2, vI 0), (3, vI (((n2 : Nat) : Int) - 1)), (9, .aref 32 0), (10, vI ((i : Nat) : Int))], [(32, .arr 0 1 9 (List.map eN a))]⟩ (sb rfl rfl rfl) rfl ?_
 refine mv rfl ?_
 refine mv rfl ?_
 refine RO (Body.lss rfl rfl) ?_
 refine RN ?_
 refine Ap rfl ?_
 refine TK.norm ⟨[(0, vS (bsO q)), (1, vS (bsO [32])), (2, vI 0), (3, vI (((n2 : Nat) : Int) - 1)), (9, .aref 32 0), (10, vI ((i : Nat) : Int)), (36, vB (decide (((i : Nat) : Int) < (((n2 : Nat) : Int) - 1))))], [(32, .arr 0 1 9 (List.map eN a))]⟩ (sb rfl rfl rfl) ?_
 refine TK.condP rfl (fun h1 => ?_) (fun h1 => ?_)
 ·
  refine At rfl ?_
  refine TK.norm ⟨[(0, vS (bsO q)), (1, vS (bsO [32])), (2, vI 0), (3, vI (((n2 : Nat) : Int) - 1)), (9, .aref 32 0), (10, vI ((i : Nat) : Int))], [(32, .arr 0 1 9 (List.map eN a))]⟩ (sb rfl rfl rfl) ?_
  have hql := hI0.2.1
  refine TK.rg (Y := tab) mixed rfl ?_
  refine mv rfl ?_
  refine mv rfl ?_
  refine RO (Body.call (w245 hp q 32 (by omega)) rfl rfl rfl) ?_
  refine ag rfl ?_
  refine RN ?_
  refine Ap rfl ?_
  refine NR ⟨[(0, vS (bsO q)), (1, vS (bsO [32])), (2, vI 0), (3, vI (((n2 : Nat) : Int) - 1)), (9, .aref 32 0), (10, vI ((i : Nat) : Int)), (11, vI (Lib.indexByte q 32))], [(32, .arr 0 1 9 (List.map eN a))]⟩ (sb rfl rfl rfl) rfl ?_
  refine mv rfl ?_
  refine RO (Body.lss rfl rfl) ?_
  refine RN ?_
  refine Ap rfl ?_
  refine TK.norm ⟨[(0, vS (bsO q)), (1, vS (bsO [32])), (2, vI 0), (3, vI (((n2 : Nat) : Int) - 1)), (9, .aref 32 0), (10, vI ((i : Nat) : Int)), (11, vI (Lib.indexByte q 32)), (41, vB (decide ((Lib.indexByte q 32) < 0)))], [(32, .arr 0 1 9 (List.map eN a))]⟩ (sb rfl rfl rfl) ?_
  refine TK.condP rfl (fun h2 => ?_) (fun h2 => ?_)
  ·
   refine At rfl ?_
   refine TK.exit ?_
   refine PK.exit rfl ?_
   refine Ap rfl ?_
   refine TK.norm ⟨[(0, vS (bsO q)), (9, .aref 32 0), (10, vI ((i : Nat) : Int))], [(32, .arr 0 1 9 (List.map eN a))]⟩ (sb rfl rfl rfl) ?_
   have hal := hI0.1
   have hil := hI0.2.2.1
   refine TK.rg (Y := tab) mixed rfl ?_
   refine rn rfl ?_
   refine mv rfl ?_
   refine mv rfl ?_
   refine RO (Body.idxE (n := i) rfl rfl rfl un73 sz9 rfl (by first | omega | (simp only [List.length_set]; omega) | (simp only [List.length_cons, List.length_nil]; omega))) ?_
   refine RO (Body.setE (z0 := q) rfl rfl rfl rfl rfl sz9 (by first | omega | (simp only [List.length_set]; omega) | (simp only [List.length_cons, List.length_nil]; omega)) (fun _ => rfl)) ?_
   refine RN ?_
   refine Ap rfl ?_
   refine TK.norm ⟨[(9, .aref 32 0), (10, vI ((i : Nat) : Int))], [(32, .arr 0 1 9 (List.map eN (List.set a i q)))]⟩ (sb rfl rfl rfl) ?_
   refine TK.frz (t := 9) rfl rfl ?_
   refine NR ⟨[(9, vL eN (List.set a i q)), (10, vI ((i : Nat) : Int))], []⟩ (sb rfl rfl rfl) rfl ?_
   refine mv rfl ?_
   refine mv rfl ?_
   refine RO (Body.add rfl rfl (by unfold R64; omega)) ?_
   refine RO (Body.slT (j := (i + 1)) rfl rfl un73 sz9 (by omega) (by first | omega | (simp only [List.length_set]; omega) | (simp only [List.length_cons, List.length_nil]; omega))) ?_
   refine ag rfl ?_
   refine RN ?_
   refine Ap rfl ?_
   refine TK.ret ?_
   refine PK.ret ?_
   refine leaf (val0 := vL eN (List.take (i + 1) (List.set a i q))) (by kernel_rfl) ?_
   exact lsl (by first | exact gs_end hI0 (ix_neg (by assumption)) | exact gs_end hI0 (gs_no hI0 (by assumption)))
  ·
   refine At rfl ?_
   refine TK.norm ⟨[(0, vS (bsO q)), (1, vS (bsO [32])), (2, vI 0), (3, vI (((n2 : Nat) : Int) - 1)), (9, .aref 32 0), (10, vI ((i : Nat) : Int)), (11, vI (Lib.indexByte q 32))], [(32, .arr 0 1 9 (List.map eN a))]⟩ (sb rfl rfl rfl) ?_
   obtain ⟨m, hm, hmq, hm2, hm3⟩ := ix_nat (show 0 ≤ Lib.indexByte q 32 by omega)
   rw [hm]
   refine TK.rg (Y := tab) mixed rfl ?_
   refine rn rfl ?_
   refine mv rfl ?_
   refine mv rfl ?_
   refine mv rfl ?_
   refine mv rfl ?_
   refine RO (Body.add rfl rfl (by unfold R64; omega)) ?_
   refine RO (Body.slHB (a := q) (j := (Int.toNat (((m : Nat) : Int) + 0))) rfl rfl un9 (Int.toNat_of_nonneg (by first | omega | (simp only [List.length_set]; omega) | (simp only [List.length_cons, List.length_nil]; omega))).symm (by first | omega | (simp only [List.length_set]; omega) | (simp only [List.length_cons, List.length_nil]; omega))) ?_
   refine RO (Body.idxE (n := i) rfl rfl rfl un73 sz9 rfl (by first | omega | (simp only [List.length_set]; omega) | (simp only [List.length_cons, List.length_nil]; omega))) ?_
   refine RO (Body.setE (z0 := (List.take (Int.toNat (((m : Nat) : Int) + 0)) q)) rfl rfl rfl rfl rfl sz9 (by first | omega | (simp only [List.length_set]; omega) | (simp only [List.length_cons, List.length_nil]; omega)) (fun _ => rfl)) ?_
   refine RN ?_
   refine Ap rfl ?_
   refine NR ⟨[(0, vS (bsO q)), (1, vS (bsO [32])), (2, vI 0), (3, vI (((n2 : Nat) : Int) - 1)), (9, .aref 32 0), (10, vI ((i : Nat) : Int)), (11, vI ((m : Nat) : Int))], [(32, .arr 0 1 9 (List.map eN (List.set a i (List.take (Int.toNat (((m : Nat) : Int) + 0)) q))))]⟩ (sb rfl rfl rfl) rfl ?_
   refine mv rfl ?_
   refine mv rfl ?_
   refine mv rfl ?_
   refine RO (Body.lenB1 (c := 32) rfl un9) ?_
   refine RO (Body.add rfl rfl (by unfold R64; omega)) ?_
   refine RO (Body.slLB (a := q) (i := (m + 1)) rfl rfl un9 (by omega) (by first | omega | (simp only [List.length_set]; omega) | (simp only [List.length_cons, List.length_nil]; omega))) ?_
   refine ag rfl ?_
   refine RN ?_
   refine Ap rfl ?_
   refine NR ⟨[(0, vS (bsO (List.drop (m + 1) q))), (1, vS (bsO [32])), (2, vI 0), (3, vI (((n2 : Nat) : Int) - 1)), (9, .aref 32 0), (10, vI ((i : Nat) : Int))], [(32, .arr 0 1 9 (List.map eN (List.set a i (List.take (Int.toNat (((m : Nat) : Int) + 0)) q))))]⟩ (sb rfl rfl rfl) rfl ?_
   refine mv rfl ?_
   refine RO (Body.add rfl rfl (by unfold R64; omega)) ?_
   refine ag rfl ?_
   refine RN ?_
   refine Aq rfl ?_
   refine PK.lp ?_
   refine LP.mk ((i + 1), (List.set a i (List.take (Int.toNat (((m : Nat) : Int) + 0)) q)), (List.drop (m + 1) q)) ?_ ?_ (sb rfl rfl rfl)
   · show GsI s n2 (i + 1) (List.set a i (List.take (Int.toNat (((m : Nat) : Int) + 0)) q)) (List.drop (m + 1) q)
     exact gs_step hI0 hm hmq hm2 hm3
   · show n2 - (i + 1) < n2 - i
     omega
 ·
  refine At rfl ?_
  refine TK.exit ?_
  refine PK.exit rfl ?_
  refine Ap rfl ?_
  refine TK.norm ⟨[(0, vS (bsO q)), (9, .aref 32 0), (10, vI ((i : Nat) : Int))], [(32, .arr 0 1 9 (List.map eN a))]⟩ (sb rfl rfl rfl) ?_
  have hal := hI0.1
  have hil := hI0.2.2.1
  refine TK.rg (Y := tab) mixed rfl ?_
  refine rn rfl ?_
  refine mv rfl ?_
  refine mv rfl ?_
  refine RO (Body.idxE (n := i) rfl rfl rfl un73 sz9 rfl (by first | omega | (simp only [List.length_set]; omega) | (simp only [List.length_cons, List.length_nil]; omega))) ?_
  refine RO (Body.setE (z0 := q) rfl rfl rfl rfl rfl sz9 (by first | omega | (simp only [List.length_set]; omega) | (simp only [List.length_cons, List.length_nil]; omega)) (fun _ => rfl)) ?_
  refine RN ?_
  refine Ap rfl ?_
  refine TK.norm ⟨[(9, .aref 32 0), (10, vI ((i : Nat) : Int))], [(32, .arr 0 1 9 (List.map eN (List.set a i q)))]⟩ (sb rfl rfl rfl) ?_
  refine TK.frz (t := 9) rfl rfl ?_
  refine NR ⟨[(9, vL eN (List.set a i q)), (10, vI ((i : Nat) : Int))], []⟩ (sb rfl rfl rfl) rfl ?_
  refine mv rfl ?_
  refine mv rfl ?_
  refine RO (Body.add rfl rfl (by unfold R64; omega)) ?_
  refine RO (Body.slT (j := (i + 1)) rfl rfl un73 sz9 (by omega) (by first | omega | (simp only [List.length_set]; omega) | (simp only [List.length_cons, List.length_nil]; omega))) ?_
  refine ag rfl ?_
  refine RN ?_
  refine Ap rfl ?_
  refine TK.ret ?_
  refine PK.ret ?_
  refine leaf (val0 := vL eN (List.take (i + 1) (List.set a i q))) (by kernel_rfl) ?_
  exact lsl (by first | exact gs_end hI0 (ix_neg (by assumption)) | exact gs_end hI0 (gs_no hI0 (by assumption)))
set_option maxHeartbeats 4000000 in
theorem w116 (hp : PowLaid) (s : List UInt8) (hl : s.length ≤ 1000000) : CallOk Tryz.prog 116 [vS (bsO s), vS (bsO [32])] (lookM []) (vL eN (splS s)) [] := by
 haveI := tab_ok
 obtain ⟨fn, f1, f2, f3, f4, _, f6⟩ := qf116
 refine callOk_of (Y := tab) (F := fn116) f1 (f2.trans rfl) f3 f4 f6 (Nat.le_of_ble_eq_true rfl) rfl ?_
 clear f1 f2 f3 f4 f6
 show TK _ _ _ _ _ _ ⟨[(0, vS (bsO s)), (1, vS (bsO [32]))], []⟩
 refine At rfl ?_
 refine NR ⟨[(0, vS (bsO s)), (1, vS (bsO [32]))], []⟩ (sb rfl rfl rfl) rfl ?_
 refine RO (Body.nilS (enc := eN) rfl) ?_
 refine RN ?_
 refine Ap rfl ?_
 refine NR ⟨[(0, vS (bsO s)), (1, vS (bsO [32]))], []⟩ (sb rfl rfl rfl) rfl ?_
 refine mv rfl ?_
 refine mv rfl ?_
 refine RO (Body.call (w170 hp s (by omega)) rfl rfl rfl) ?_
 refine ag rfl ?_
 refine RN ?_
 refine Ap rfl ?_
 refine TK.ret ?_
 refine PK.ret ?_
 refine leaf (val0 := vL eN (splS s)) (by kernel_rfl) ?_
 exact rfl
end Go.Lens.Tm
end
section
namespace Go.Lens.Tm
open Go.Lens.Tb Go.Proofs
set_option linter.unusedSectionVars false
variable [Lz]
theorem cut3_len (p : List UInt8) (c : UInt8) : (cut3 p c).2.1.length ≤ p.length := by
 unfold cut3
 split
 ·simp
 ·simp
theorem out_len {N : Nat} {out : List Fld} {p : List UInt8} {c : UInt8} (h : ∀ f ∈ out, f.2.length ≤ N) (hp : p.length ≤ N) : ∀ f ∈ out ++ [((cut3 p c).1, (cut3 p c).2.1)], f.2.length ≤ N := by
 intro f hf
 rcases List.mem_append.1 hf with hf | hf
 ·exact h f hf
 ·simp only [List.mem_singleton] at hf
  subst hf
  exact Nat.le_trans (cut3_len p c) hp
end Go.Lens.Tm
end
section
namespace Go.Lens.Tm
open Go.Lens.Tb Go.Proofs
variable [Lz]
set_option linter.unusedSectionVars false
set_option maxRecDepth 100000
attribute [local irreducible] TK PK T RG EfR Body
set_option maxHeartbeats 4000000 in
theorem w37 (hp : PowLaid) (s : List UInt8) (hl : s.length ≤ 100000) : CallOk Tryz.prog 37 [vS (bsO s)] (lookM []) (.tup [vL eF (parF s).1, vI (parF s).2]) [] := by
 haveI := tab_ok
 obtain ⟨fn, f1, f2, f3, f4, _, f6⟩ := qf37
 refine callOk_of (Y := tab) (F := fn37) f1 (f2.trans rfl) f3 f4 f6 (Nat.le_of_ble_eq_true rfl) rfl ?_
 clear f1 f2 f3 f4 f6
 have hsl : (splS s).length ≤ s.length + 1 := spl_len s []
 show TK _ _ _ _ _ _ ⟨[(0, vS (bsO s))], []⟩
 refine At rfl ?_
 refine NR ⟨[(0, vS (bsO s))], []⟩ (sb rfl rfl rfl) rfl ?_
 refine RO (Body.nilS (enc := eF) rfl) ?_
 refine ag rfl ?_
 refine RN ?_
 refine Ap rfl ?_
 refine NR ⟨[(0, vS (bsO s))], []⟩ (sb rfl rfl rfl) rfl ?_
 refine mv rfl ?_
 refine RO (Body.seqB (a := s) (b := []) rfl rfl) ?_
 refine RN ?_
 refine Ap rfl ?_
 refine TK.norm ⟨[(0, vS (bsO s)), (12, vB (decide (s = [])))], []⟩ (sb rfl rfl rfl) ?_
 refine TK.condP rfl (fun h1 => ?_) (fun h1 => ?_)
 ·
  refine At rfl ?_
  refine NR ⟨[], []⟩ (sb rfl rfl rfl) rfl ?_
  refine RO (Body.nilS (enc := eF) rfl) ?_
  refine ag rfl ?_
  refine RN ?_
  refine Ap rfl ?_
  refine TK.ret ?_
  refine PK.ret ?_
  refine leaf (val0 := .tup [vL eF [], vI 0]) (by kernel_rfl) ?_
  exact tup2 (lsl (by first
          | rw [parF_nil h1]
          | rw [parF_none h1 (par_none hI0.2.2.1 (by omega) ((cutP_cut3 _).2 (bnot_t h3)))]
          | rw [parF_bad h1 hpe (by assumption)]
          | rw [parF_ok h1 hpe (by assumption)])) (li (by first
          | rw [parF_nil h1]
          | rw [parF_none h1 (par_none hI0.2.2.1 (by omega) ((cutP_cut3 _).2 (bnot_t h3)))]
          | rw [parF_bad h1 hpe (by assumption)]
          | rw [parF_ok h1 hpe (by assumption)]))
 ·
  refine At rfl ?_
  refine NR ⟨[(0, vS (bsO s))], []⟩ (sb rfl rfl rfl) rfl ?_
  refine RO (Body.adopt 5 2 174 rfl rfl) ?_
  refine RN ?_
  refine Ap rfl ?_
  refine NR ⟨[(0, vS (bsO s)), (4, .aref 5 0)], [(5, .arr 0 2 174 (List.map eF []))]⟩ (sb rfl rfl rfl) rfl ?_
  refine mv rfl ?_
  refine RO (Body.call (w116 hp s (by omega)) rfl rfl rfl) ?_
  refine RO (Body.lenL rfl un73) ?_
  refine mv rfl ?_
  refine RN ?_
  refine Ap rfl ?_
  refine TK.loop (α := Nat × Nat × List Fld) (fun x => ⟨[(4, .aref 5 x.2.1), (14, vL eN (splS s)), (15, vI ((List.length (splS s) : Nat) : Int)), (16, vI ((x.1 : Nat) : Int))], [(5, .arr x.2.1 2 174 (List.map eF x.2.2))]⟩) (fun x => x.1 ≤ List.length (splS s) ∧ List.length x.2.2 = x.1 ∧ parGo (splS s) = Option.map (fun r => x.2.2 ++ r) (parGo (List.drop x.1 (splS s))) ∧ (∀ f : Fld, f ∈ x.2.2 → List.length (Prod.snd f) ≤ List.length s)) (fun x => List.length (splS s) - x.1) (0, 0, []) ?_ (sb rfl rfl rfl) ?_
  · show 0 ≤ List.length (splS s) ∧ List.length [] = 0 ∧ parGo (splS s) = Option.map (fun r => [] ++ r) (parGo (List.drop 0 (splS s))) ∧ (∀ f : Fld, f ∈ [] → List.length (Prod.snd f) ≤ List.length s)
    exact ⟨Nat.zero_le _, rfl, by simp, fun f hf => by cases hf⟩
  rintro ⟨k, v, out⟩ hI0
  replace hI0 : k ≤ List.length (splS s) ∧ List.length out = k ∧ parGo (splS s) = Option.map (fun r => out ++ r) (parGo (List.drop k (splS s))) ∧ (∀ f : Fld, f ∈ out → List.length (Prod.snd f) ≤ List.length s) := hI0
  show TK _ _ _ _ _ _ ⟨[(4, .aref 5 v), (14, vL eN (splS s)), (15, vI ((List.length (splS s) : Nat) : Int)), (16, vI ((k : Nat) : Int))], [(5, .arr v 2 174 (List.map eF out))]⟩
  refine At rfl ?_
  refine NR ⟨[(4, .aref 5 v), (14, vL eN (splS s)), (15, vI ((List.length (splS s) : Nat) : Int)), (16, vI ((k : Nat) : Int))], [(5, .arr v 2 174 (List.map eF out))]⟩ (sb rfl rfl rfl) rfl ?_
  refine RO (Body.lss rfl rfl) ?_
  refine RN ?_
  refine Ap rfl ?_
  refine TK.norm ⟨[(4, .aref 5 v), (14, vL eN (splS s)), (15, vI ((List.length (splS s) : Nat) : Int)), (16, vI ((k : Nat) : Int)), (17, vB (decide (((k : Nat) : Int) < ((List.length (splS s) : Nat) : Int))))], [(5, .arr v 2 174 (List.map eF out))]⟩ (sb rfl rfl rfl) ?_
  refine TK.condP rfl (fun h2 => ?_) (fun h2 => ?_)
  ·
   refine At rfl ?_
   refine NR ⟨[(4, .aref 5 v), (14, vL eN (splS s)), (15, vI ((List.length (splS s) : Nat) : Int)), (16, vI ((k : Nat) : Int))], [(5, .arr v 2 174 (List.map eF out))]⟩ (sb rfl rfl rfl) rfl ?_
   refine RO (Body.idx (z := []) (i := k) rfl rfl un73 sz9 (fun _ => rfl) rfl (by first | omega | (have hc2 := hc; simp only [beq_iff_eq, decide_eq_true_eq, decide_eq_false_iff_not] at hc2; omega) | (simp only [List.length_append, List.length_cons, List.length_nil, List.length_take, List.length_drop]; omega))) ?_
   refine RO (Body.loadP rfl ag9 sz9) ?_
   refine ag rfl ?_
   refine RN ?_
   refine Ap rfl ?_
   refine TK.norm ⟨[(4, .aref 5 v), (6, vS (bsO (List.getD (splS s) k []))), (14, vL eN (splS s)), (15, vI ((List.length (splS s) : Nat) : Int)), (16, vI ((k : Nat) : Int))], [(5, .arr v 2 174 (List.map eF out))]⟩ (sb rfl rfl rfl) ?_
   have hpl := spl_part s [] _ (getD_mem (l := splS s) (k := k) (z := []) (by omega))
   simp only [List.length_nil, Nat.zero_add] at hpl
   refine TK.rg (Y := tab) mixed rfl ?_
   refine mv rfl ?_
   refine RO (Body.call (w117 hp (List.getD (splS s) k []) 61 (by omega)) rfl rfl rfl) ?_
   refine rn rfl ?_
   refine rn rfl ?_
   refine rn rfl ?_
   refine rn rfl ?_
   refine ag rfl ?_
   refine ag rfl ?_
   refine ag rfl ?_
   refine RN ?_
   refine Ap rfl ?_
   refine NR ⟨[(4, .aref 5 v), (7, vS (bsO (cut3 (List.getD (splS s) k []) 61).1)), (8, vS (bsO (cut3 (List.getD (splS s) k []) 61).2.1)), (9, vB (cut3 (List.getD (splS s) k []) 61).2.2), (14, vL eN (splS s)), (15, vI ((List.length (splS s) : Nat) : Int)), (16, vI ((k : Nat) : Int))], [(5, .arr v 2 174 (List.map eF out))]⟩ (sb rfl rfl rfl) rfl ?_
   refine mv rfl ?_
   refine RO (Body.not rfl) ?_
   refine RN ?_
   refine Ap rfl ?_
   refine TK.norm ⟨[(4, .aref 5 v), (7, vS (bsO (cut3 (List.getD (splS s) k []) 61).1)), (8, vS (bsO (cut3 (List.getD (splS s) k []) 61).2.1)), (14, vL eN (splS s)), (15, vI ((List.length (splS s) : Nat) : Int)), (16, vI ((k : Nat) : Int)), (27, vB (!(cut3 (List.getD (splS s) k []) 61).2.2))], [(5, .arr v 2 174 (List.map eF out))]⟩ (sb rfl rfl rfl) ?_
   refine TK.cond rfl (fun h3 => ?_) (fun h3 => ?_)
   ·
    refine At rfl ?_
    refine NR ⟨[], []⟩ (sb rfl rfl rfl) rfl ?_
    refine RO (Body.nilS (enc := eF) rfl) ?_
    refine ag rfl ?_
    refine RN ?_
    refine Ap rfl ?_
    refine TK.ret ?_
    refine PK.ret ?_
    refine leaf (val0 := .tup [vL eF [], vI 25]) (by kernel_rfl) ?_
    exact tup2 (lsl (by first
          | rw [parF_nil h1]
          | rw [parF_none h1 (par_none hI0.2.2.1 (by omega) ((cutP_cut3 _).2 (bnot_t h3)))]
          | rw [parF_bad h1 hpe (by assumption)]
          | rw [parF_ok h1 hpe (by assumption)])) (li (by first
          | rw [parF_nil h1]
          | rw [parF_none h1 (par_none hI0.2.2.1 (by omega) ((cutP_cut3 _).2 (bnot_t h3)))]
          | rw [parF_bad h1 hpe (by assumption)]
          | rw [parF_ok h1 hpe (by assumption)]))
   ·
    refine At rfl ?_
    refine NR ⟨[(4, .aref 5 v), (7, vS (bsO (cut3 (List.getD (splS s) k []) 61).1)), (8, vS (bsO (cut3 (List.getD (splS s) k []) 61).2.1)), (14, vL eN (splS s)), (15, vI ((List.length (splS s) : Nat) : Int)), (16, vI ((k : Nat) : Int))], [(5, .arr v 2 174 (List.map eF out))]⟩ (sb rfl rfl rfl) rfl ?_
    refine rn rfl ?_
    refine mv rfl ?_
    refine mv rfl ?_
    refine rn rfl ?_
    refine RO (Body.runZ (val := .pv (.slice (List.map eF [((cut3 (List.getD (splS s) k []) 61).1, (cut3 (List.getD (splS s) k []) 61).2.1)]))) rfl (fun l => Frz.arr l _ _ _ _ _) rfl) ?_
    refine RO (Body.append rfl rfl rfl un59 in174 rfl (fun _ => rfl) by174 (by first | omega | (have hc2 := hc; simp only [beq_iff_eq, decide_eq_true_eq, decide_eq_false_iff_not] at hc2; omega) | (simp only [List.length_append, List.length_cons, List.length_nil, List.length_take, List.length_drop]; omega))) ?_
    refine rn rfl ?_
    refine RN ?_
    refine Ap rfl ?_
    refine NR ⟨[(4, .aref 5 (v + 1)), (14, vL eN (splS s)), (15, vI ((List.length (splS s) : Nat) : Int)), (16, vI ((k : Nat) : Int))], [(5, .arr (v + 1) 2 174 (List.map eF (out ++ [((cut3 (List.getD (splS s) k []) 61).1, (cut3 (List.getD (splS s) k []) 61).2.1)])))]⟩ (sb rfl rfl rfl) rfl ?_
    refine RO (Body.add rfl rfl (by unfold R64; omega)) ?_
    refine mv rfl ?_
    refine RN ?_
    refine Aq rfl ?_
    refine PK.lp ?_
    refine LP.mk ((k + 1), (v + 1), (out ++ [((cut3 (List.getD (splS s) k []) 61).1, (cut3 (List.getD (splS s) k []) 61).2.1)])) ?_ ?_ (sb rfl rfl rfl)
    · show (k + 1) ≤ List.length (splS s) ∧ List.length (out ++ [((cut3 (List.getD (splS s) k []) 61).1, (cut3 (List.getD (splS s) k []) 61).2.1)]) = (k + 1) ∧ parGo (splS s) = Option.map (fun r => (out ++ [((cut3 (List.getD (splS s) k []) 61).1, (cut3 (List.getD (splS s) k []) 61).2.1)]) ++ r) (parGo (List.drop (k + 1) (splS s))) ∧ (∀ f : Fld, f ∈ (out ++ [((cut3 (List.getD (splS s) k []) 61).1, (cut3 (List.getD (splS s) k []) 61).2.1)]) → List.length (Prod.snd f) ≤ List.length s)
      refine ⟨by omega, by simp only [List.length_append, List.length_cons, List.length_nil]; omega, par_some hI0.2.2.1 (by omega) ((cutP_cut3 _).1 (bnot_f h3)), out_len hI0.2.2.2 hpl⟩
    · show List.length (splS s) - (k + 1) < List.length (splS s) - k
      omega
  ·
   refine At rfl ?_
   refine TK.exit ?_
   refine PK.exit rfl ?_
   refine Ap rfl ?_
   refine TK.norm ⟨[(4, .aref 5 v)], [(5, .arr v 2 174 (List.map eF out))]⟩ (sb rfl rfl rfl) ?_
   have hpe := par_end hI0.2.2.1 (by omega)
   have hcq : ∀ f ∈ out, f.2.length ≤ 1000000000000000 := fun f hf => Nat.le_trans (hI0.2.2.2 f hf) (by omega)
   refine TK.frz (t := 4) rfl rfl ?_
   refine NR ⟨[(4, vL eF out)], []⟩ (sb rfl rfl rfl) rfl ?_
   refine mv rfl ?_
   refine RO (Body.call (w41 out (by omega) hcq) rfl rfl rfl) ?_
   refine ag rfl ?_
   refine RN ?_
   refine Ap rfl ?_
   refine NR ⟨[(4, vL eF out), (10, vI (chkFl out))], []⟩ (sb rfl rfl rfl) rfl ?_
   refine mv rfl ?_
   refine RO (Body.neq rfl rfl) ?_
   refine RN ?_
   refine Ap rfl ?_
   refine TK.norm ⟨[(4, vL eF out), (10, vI (chkFl out)), (38, vB (decide ((chkFl out) ≠ 0)))], []⟩ (sb rfl rfl rfl) ?_
   refine TK.condP rfl (fun h4 => ?_) (fun h4 => ?_)
   ·
    refine At rfl ?_
    refine NR ⟨[(10, vI (chkFl out))], []⟩ (sb rfl rfl rfl) rfl ?_
    refine mv rfl ?_
    refine RO (Body.nilS (enc := eF) rfl) ?_
    refine ag rfl ?_
    refine RN ?_
    refine Ap rfl ?_
    refine TK.ret ?_
    refine PK.ret ?_
    refine leaf (val0 := .tup [vL eF [], vI (chkFl out)]) (by kernel_rfl) ?_
    exact tup2 (lsl (by first
          | rw [parF_nil h1]
          | rw [parF_none h1 (par_none hI0.2.2.1 (by omega) ((cutP_cut3 _).2 (bnot_t h3)))]
          | rw [parF_bad h1 hpe (by assumption)]
          | rw [parF_ok h1 hpe (by assumption)])) (li (by first
          | rw [parF_nil h1]
          | rw [parF_none h1 (par_none hI0.2.2.1 (by omega) ((cutP_cut3 _).2 (bnot_t h3)))]
          | rw [parF_bad h1 hpe (by assumption)]
          | rw [parF_ok h1 hpe (by assumption)]))
   ·
    refine At rfl ?_
    refine NR ⟨[(4, vL eF out)], []⟩ (sb rfl rfl rfl) rfl ?_
    refine mv rfl ?_
    refine ag rfl ?_
    refine ag rfl ?_
    refine RN ?_
    refine Ap rfl ?_
    refine TK.ret ?_
    refine PK.ret ?_
    refine leaf (val0 := .tup [vL eF out, vI 0]) (by kernel_rfl) ?_
    exact tup2 (lsl (by first
          | rw [parF_nil h1]
          | rw [parF_none h1 (par_none hI0.2.2.1 (by omega) ((cutP_cut3 _).2 (bnot_t h3)))]
          | rw [parF_bad h1 hpe (by assumption)]
          | rw [parF_ok h1 hpe (by assumption)])) (li (by first
          | rw [parF_nil h1]
          | rw [parF_none h1 (par_none hI0.2.2.1 (by omega) ((cutP_cut3 _).2 (bnot_t h3)))]
          | rw [parF_bad h1 hpe (by assumption)]
          | rw [parF_ok h1 hpe (by assumption)]))
end Go.Lens.Tm
end
section
namespace Go.Lens.Tb
set_option linter.unusedSectionVars false
def badB (start : Int) (W : List Int) (t : Tgt) (e : Int) : Int := firstF [chkNightF start W, chkTgtsF [t], withinF e 0 1440]
def begT (start : Int) (W : List Int) (t : Tgt) (e : Int) : Int := if badB start W t e ≠ 0 then 0 else if begF W t e < 0 then 0 else begF W t e
def begE (start : Int) (W : List Int) (t : Tgt) (e : Int) : Int := if badB start W t e ≠ 0 then badB start W t e else if begF W t e < 0 then 7 else 0
def badT (start : Int) (W : List Int) (l : List Tgt) (o : List Int) : Int := firstF [chkNightF start W, chkTgtsF l, chkOrdF l.length o]
def tlT (start : Int) (W : List Int) (l : List Tgt) (o : List Int) : List Int := if badT start W l o ≠ 0 then [] else (tlF start W l o).getD []
def tlE (start : Int) (W : List Int) (l : List Tgt) (o : List Int) : Int := if badT start W l o ≠ 0 then badT start W l o else (bif (tlF start W l o).isSome then 0 else 23)
def afterF (start : Int) (l : List Tgt) (o : List Int) (b : Int) (t : Tgt) : Int := if o.length = 0 then start else b + (l.getD (o.getD (o.length - 1) 0).toNat default).length + apartF (l.getD (o.getD (o.length - 1) 0).toNat default).place t.place
end Go.Lens.Tb
end
section
namespace Go.Lens.Tb
open Go.Proofs
variable [Lz]
set_option linter.unusedSectionVars false
set_option maxRecDepth 100000
attribute [local irreducible] TK PK T RG EfR Body
end Go.Lens.Tb
end
section
namespace Go.Lens.Tb
set_option linter.unusedSectionVars false
def atB (start : Int) (l : List Tgt) (o : List Int) (i : Nat) (b : Int) : Int := if i = 0 then start else b + (l.getD (o.getD (i - 1) 0).toNat default).length
theorem bad1 {a b c : Int} (h : firstF [a, b] ≠ 0) : firstF [a, b, c] = firstF [a, b] := by
  simp only [firstF] at h ⊢
  split
  · rename_i ha
    rw [if_pos ha] at h
    split
    · rename_i hb; rw [if_pos hb] at h; exact absurd rfl h
    · rfl
  · rfl
theorem bad2 {a b c : Int} (h : firstF [a, b] = 0) : firstF [a, b, c] = c := by
  simp only [firstF] at h ⊢
  split
  · rename_i ha
    rw [if_pos ha] at h
    split
    · split
      · rename_i hc; exact hc.symm
      · rfl
    · rename_i hb; rw [if_neg hb] at h; exact absurd h hb
  · rename_i ha; rw [if_neg ha] at h; exact absurd h ha
theorem tl_ok {start : Int} {W : List Int} {l : List Tgt} {o : List Int} (h : firstF [chkNightF start W, chkTgtsF l] = 0) (h2 : chkOrdF l.length o = 0) : tlT start W l o = (tlF start W l o).getD [] ∧ tlE start W l o = bif (tlF start W l o).isSome then 0 else 23 := by
  have e : badT start W l o = 0 := (bad2 h).trans h2
  unfold tlT tlE
  rw [e, if_neg (by simp), if_neg (by simp)]; exact ⟨rfl, rfl⟩
end Go.Lens.Tb
end
section
namespace Go.Lens.Tb
open Go.Proofs
variable [Lz]
set_option linter.unusedSectionVars false
set_option maxRecDepth 100000
attribute [local irreducible] TK PK T RG EfR Body
end Go.Lens.Tb
end
section
namespace Go.Lens.Tb
set_option linter.unusedSectionVars false
section
variable {start : Int} {W : List Int} {l : List Tgt} {o : List Int} {t : Tgt} {e : Int}
theorem bt_of (h : firstF [chkNightF start W, chkTgtsF l, chkOrdF ((l.length : Nat) : Int) o] = 0) : firstF [chkNightF start W, chkTgtsF l] = 0 ∧ chkOrdF l.length o = 0 := by
  by_cases h1 : firstF [chkNightF start W, chkTgtsF l] = 0
  · exact ⟨h1, (bad2 h1).symm.trans h⟩
  · exact absurd ((bad1 h1).symm.trans h) h1
theorem g1 (h0 : firstF [chkNightF start W, chkTgtsF l, chkOrdF ((l.length : Nat) : Int) o] = 0)
    (h : (bif decide (tlE start W l o ≠ whenF (!(tlF start W l o).isSome) 23) then true else !(decide (tlT start W l o = (tlF start W l o).getD []))) = true) : false = true := by
  obtain ⟨h1, h2⟩ := bt_of h0
  obtain ⟨e1, e2⟩ := tl_ok h1 h2
  rw [e1, e2] at h
  unfold whenF at h
  cases hs : (tlF start W l o).isSome <;> rw [hs] at h <;> simp at h
theorem g2 (h0 : ¬ firstF [chkNightF start W, chkTgtsF l, chkOrdF ((l.length : Nat) : Int) o] = 0)
    (h : (bif decide (tlE start W l o ≠ firstF [chkNightF start W, chkTgtsF l, chkOrdF ((l.length : Nat) : Int) o]) then true else !(decide (tlT start W l o = []))) = true) : false = true := by
  have e1 : tlT start W l o = [] := by unfold tlT badT; rw [if_pos h0]
  have e2 : tlE start W l o = firstF [chkNightF start W, chkTgtsF l, chkOrdF ((l.length : Nat) : Int) o] := by unfold tlE badT; rw [if_pos h0]
  rw [e1, e2] at h
  simp at h
theorem f1 (h : ¬ badB start W t e = 0) : (bif (bif decide (begE start W t e = badB start W t e) then decide (begT start W t e = 0) else false) then true else false) = true := by
  unfold begE begT; rw [if_pos h, if_pos h]; simp
theorem f2 (h : badB start W t e = 0) (h2 : begF W t e < 0) : (bif (bif decide (begE start W t e = 7) then decide (begT start W t e = 0) else false) then true else false) = true := by
  unfold begE begT; simp [h, h2]
theorem f3 (h : badB start W t e = 0) (h2 : ¬ begF W t e < 0) : (bif (bif decide (begE start W t e = badB start W t e) then decide (begT start W t e = begF W t e) else false) then true else false) = true := by
  unfold begE begT; simp [h, h2]
end
end Go.Lens.Tb
end
section
namespace Go.Lens.Tb
open Go.Proofs
structure Ch where
 order : List Int
 bright : Int
 end_ : Int
section
variable (S : Int) (W : List Int) (l : List Tgt)
def endF (o : List Int) (b : Int) : Int := if o.length = 0 then S else b + (l.getD (o.getD (o.length - 1) 0).toNat default).length
def betC (a c : Ch) : Bool := decide (c.bright < a.bright) || (decide (a.bright = c.bright) && decide (a.end_ < c.end_))
def updC (o : List Int) (b br : Int) (c : Ch) : Ch := bif betC ⟨o, br, endF S l o b⟩ c then ⟨o, br, endF S l o b⟩ else c
def nxtB (o : List Int) (b : Int) (i : Nat) : Int := begF W (l.getD i default) (afterF S l o b (l.getD i default))
def stepC (R : List Int → Int → Int → Ch → Ch) (o : List Int) (b br : Int) (i : Nat) (c : Ch) : Ch :=
 bif o.any (fun j => decide (j = (i : Int))) then c else if nxtB S W l o b i < 0 then c else R (o ++ [(i : Int)]) (nxtB S W l o b i) (br + (l.getD i default).bright) c
def loopC (R : List Int → Int → Int → Ch → Ch) (o : List Int) (b br : Int) (c : Ch) : Nat → Ch
 | 0 => c
 | k + 1 => stepC S W l R o b br k (loopC R o b br c k)
def recC : Nat → List Int → Int → Int → Ch → Ch
 | 0, _, _, _, c => c
 | n + 1, o, b, br, c => loopC S W l (recC n) o b br (updC S l o b br c) l.length
def lastD (r : List Int) : Int := r.getD (r.length - 1) 0
def brightS : List Int → Int
 | [] => 0
 | j :: o => (l.getD j.toNat default).bright + brightS o
def refC (n : Nat) (o : List Int) (c : Ch) : Ch := match tlF S W l o with
 | none => c
 | some r => recC S W l n o (lastD r) (brightS l o) c
def gdO (o : List Int) : Prop := o.Nodup ∧ ∀ i ∈ o, 0 ≤ i ∧ i < (l.length : Int)
end
def lastP (l : List Tgt) (prev : Option Tgt) (o : List Int) : Option Tgt := if o.length = 0 then prev else some (l.getD (o.getD (o.length - 1) 0).toNat default)
def lastA (l : List Tgt) (a : Int) (o r : List Int) : Int := if o.length = 0 then a else lastD r + (l.getD (o.getD (o.length - 1) 0).toNat default).length
def badP (S : Int) (W : List Int) (l : List Tgt) : Int := firstF [chkNightF S W, chkTgtsF l, whenF (decide (8 < (l.length : Int))) 22]
def planC (S : Int) (W : List Int) (l : List Tgt) : Ch := recC S W l (l.length + 1) [] 0 0 ⟨[], 0, S⟩
end Go.Lens.Tb
end
section
namespace Go.Lens.Tb
open Go.Proofs
set_option linter.unusedSectionVars false
theorem PK.nil [Lz] {P : Program} {n nb : Nat} {Q : Exit → St → Prop} {s : St} (h : Q .normal s) : PK P n nb Q [] .normal s := h
section
variable {S : Int} {W : List Int} {l : List Tgt} {R : List Int → Int → Int → Ch → Ch} {o : List Int} {b br : Int} {i : Nat} {c : Ch}
end
def endK (S : Int) (l : List Tgt) (o r : List Int) (k : Nat) : Int := if k = 0 then S else r.getD (k - 1) 0 + (l.getD (o.getD (k - 1) 0).toNat default).length
end Go.Lens.Tb
end
section
namespace Go.Lens.Tm
open Go.Lens.Tb Go.Proofs
set_option linter.unusedSectionVars false
variable [Lz]
def joinF : List (List UInt8) → List UInt8
 | [] => []
 | w :: r => w ++ r.flatMap fun x => 32 :: x
def JoinOk : Prop := ∀ ws : List (List UInt8), ws.length ≤ 1000 → (∀ w ∈ ws, w.length ≤ 1000) → CallOk Tryz.prog 169 [vL eN ws, vS (bsO [32])] (lookM []) (vS (bsO (joinF ws))) []
theorem join_snoc (l : List (List UInt8)) (w : List UInt8) (h : l ≠ []) : joinF (l ++ [w]) = joinF l ++ 32 :: w := by
 cases l with
 | nil => exact absurd rfl h
 | cons a l => simp [joinF]
theorem join_prt (l : List Fld) : ∀ k, k ≤ l.length → joinF ((l.take k).map fldP) = prtK l k
 | 0, _ => rfl
 | k + 1, hk => by
  have ih := join_prt l k (by omega)
  rw [take_fld l k (by omega), List.map_append, List.map_cons, List.map_nil]
  simp only [prtK]
  by_cases h0 : 0 < k
  ·rw [join_snoc _ _ (by
     intro e
     have := congrArg List.length e
     rw [List.length_map, List.length_take, List.length_nil] at this
     omega), ih, decide_eq_true h0]
   simp [fldP]
  ·have : k = 0 := by omega
   subst this
   simp [joinF, fldP, prtK]
theorem join_all (l : List Fld) : joinF (l.map fldP) = prtF l := by
 have := join_prt l l.length (Nat.le_refl _)
 rwa [List.take_of_length_le (Nat.le_refl _)] at this
theorem words_le {l : List Fld} (h : l.length ≤ 26 ∧ ∀ f ∈ l, f.1.length ≤ 60 ∧ f.2.length ≤ 100) : ∀ w ∈ l.map fldP, w.length ≤ 1000 := by
 intro w hw
 obtain ⟨f, hf, rfl⟩ := List.mem_map.1 hw
 have := h.2 f hf
 simp only [fldP, List.length_append, List.length_cons, List.length_nil]; omega
def prtX (l : List Fld) : List UInt8 := if chkFl l = 0 then prtF l else []
theorem prtX_ok {l : List Fld} (h : chkFl l = 0) : prtX l = prtF l := by unfold prtX; exact if_pos h
theorem prtX_no {l : List Fld} (h : chkFl l ≠ 0) : prtX l = [] := by unfold prtX; exact if_neg h
theorem shortF_all {l : List Fld} {n : Int} (h : shortF l n = true) : l.length ≤ 26 ∧ ∀ f ∈ l, f.1.length ≤ 60 ∧ f.2.length ≤ 100 := by
 unfold shortF at h
 cases hq : ((decide (n < (l.length : Int)) && decide ((l.length : Int) ≤ 24)) || decide (26 < (l.length : Int))) with
 | true => rw [hq] at h; cases h
 | false =>
  rw [hq, cond_false, List.all_eq_true] at h
  simp only [Bool.or_eq_false_iff, decide_eq_false_iff_not] at hq
  refine ⟨by omega, fun f hf => ?_⟩
  have := h f hf
  simpa using this
theorem short_small {l : List Fld} (h : l.length ≤ 26 ∧ ∀ f ∈ l, f.1.length ≤ 60 ∧ f.2.length ≤ 100) : Small l := ⟨by omega, fun f hf => by have := h.2 f hf; omega⟩
theorem rm_len (B M T : List Fld) : ∀ L, (rmGo B M T L).2.length ≤ L.length
 | [] => Nat.le_refl _
 | x :: L => by
  have := rm_len B M T L
  simp only [rmGo]
  split
  ·simp only [List.length_cons]; omega
  ·simp only [List.length_cons]; omega
theorem mf_len (e : Int) (B M T : List Fld) (h : B.length ≤ 26 ∧ M.length ≤ 26 ∧ T.length ≤ 26) : (mfG e (refM B M T)).1.length ≤ 24 ∧ (mfG e (refM B M T)).2.1.length ≤ 1000 := by
 have h1 := rm_len B M T (refNm (B ++ M ++ T))
 have h2 := nmK_len (B ++ M ++ T) (B ++ M ++ T).length (Nat.le_refl _)
 rw [List.take_of_length_le (Nat.le_refl _)] at h2
 simp only [List.length_append] at h2
 have h3 : (refM B M T).2.length ≤ 1000 := by
  unfold refM
  split
  ·show (rmGo B M T (refNm (B ++ M ++ T))).2.length ≤ 1000
   omega
  ·simp
 unfold mfG
 split
 ·simp
 ·split
  ·exact ⟨by simp, h3⟩
  ·split
   ·simp
   ·rename_i hq
    exact ⟨by show (refM B M T).1.length ≤ 24; omega, by simp⟩
end Go.Lens.Tm
end
section
namespace Go.Lens.Tm
open Go.Lens.Tb Go.Proofs
set_option linter.unusedSectionVars false
variable [Lz]
theorem spl_word : ∀ (w acc r : List UInt8), 32 ∉ w → splGo acc (w ++ 32 :: r) = (acc ++ w) :: splGo [] r
 | [], acc, r, _ => by simp [splGo]
 | c :: w, acc, r, h => by
  have hc : ¬ ((c.toNat : Nat) : Int) = 32 := fun e => h (by rw [(c32 c).1 e]; exact List.mem_cons_self)
  rw [List.cons_append, splGo, decide_eq_false hc, cond_false, spl_word w _ r fun e => h (List.mem_cons_of_mem _ e)]
  simp
theorem spl_join : ∀ (ws : List (List UInt8)), ws ≠ [] → (∀ w ∈ ws, 32 ∉ w) → splS (joinF ws) = ws
 | [], h, _ => absurd rfl h
 | [w], _, h => by
  have : joinF [w] = w := by simp [joinF]
  rw [this, splS, splGo_none w [] (h w (by simp))]; rfl
 | w :: x :: r, _, h => by
  have e : joinF (w :: x :: r) = w ++ 32 :: joinF (x :: r) := by simp [joinF]
  rw [e, splS, spl_word w [] _ (h w (by simp))]
  have := spl_join (x :: r) (by simp) fun y hy => h y (List.mem_cons_of_mem _ hy)
  unfold splS at this
  rw [this]; rfl
theorem cut_word : ∀ (n v : List UInt8), 61 ∉ n → cutP (n ++ 61 :: v) = some (n, v)
 | [], v, _ => by simp [cutP]
 | c :: n, v, h => by
  have hc : ¬ ((c.toNat : Nat) : Int) = 61 := fun e => h (by
   have h1 : c.toNat = 61 := by omega
   have : c = 61 := UInt8.toNat_inj.1 h1
   rw [this]; exact List.mem_cons_self)
  rw [List.cons_append, cutP, decide_eq_false hc, cond_false, cut_word n v fun e => h (List.mem_cons_of_mem _ e)]; rfl
theorem cut_fld (f : Fld) (h : 61 ∉ f.1) : cutP (fldP f) = some f := by
 have := cut_word f.1 f.2 h
 simpa [fldP] using this
theorem par_list : ∀ (l : List Fld), (∀ f ∈ l, 61 ∉ f.1) → parGo (l.map fldP) = some l
 | [], _ => rfl
 | f :: l, h => by
  rw [List.map_cons, parGo, cut_fld f (h f (by simp))]
  simp only [par_list l fun g hg => h g (List.mem_cons_of_mem _ hg), Option.map_some]
theorem par_prt_of {l : List Fld} (hc : chkFl l = 0) (h : ∀ f ∈ l, 61 ∉ f.1 ∧ 32 ∉ f.1 ∧ 32 ∉ f.2) : parF (prtF l) = (l, 0) := by
 cases l with
 | nil => rfl
 | cons a l =>
  have h0 : prtF (a :: l) ≠ [] := by
   rw [← join_all]
   intro e
   have := congrArg List.length e
   simp [joinF, fldP] at this
  have h1 : splS (prtF (a :: l)) = (a :: l).map fldP := by
   rw [← join_all]
   refine spl_join _ (by simp) fun w hw => ?_
   obtain ⟨f, hf, rfl⟩ := List.mem_map.1 hw
   have := h f hf
   simp only [fldP, List.mem_append, List.mem_cons, List.not_mem_nil, or_false, not_or]
   exact ⟨⟨this.2.1, by decide⟩, this.2.2⟩
  rw [parF, if_neg h0, h1, par_list _ fun f hf => (h f hf).1]
  simp only [hc, if_true]
end Go.Lens.Tm
end
section
namespace Go.Lens.Tm
open Go.Lens.Tb Go.Proofs
set_option linter.unusedSectionVars false
variable [Lz]
theorem name_all {n : List UInt8} (h : isNameF (bsO n) = true) {c : UInt8} (hc : c ∈ n) : ∃ i, nameAt i ((c.toNat : Nat) : Int) = true := by
 obtain ⟨j, hj, rfl⟩ := mem_getD 0 hc
 unfold isNameF at h
 simp only [Bool.and_eq_true, List.all_eq_true] at h
 refine ⟨j, ?_⟩
 have := h.2 j (by rw [List.mem_range]; exact hj)
 rwa [byteAt_bsO] at this
theorem name_not (i : Nat) : nameAt i 61 = false ∧ nameAt i 32 = false := by
 constructor <;> cases i <;> simp [nameAt, letterF]
theorem chk_chars {f : Fld} (h : chkF f = 0) : 61 ∉ f.1 ∧ 32 ∉ f.1 ∧ 32 ∉ f.2 := by
 unfold chkF at h
 cases hn : isNameF (bsO f.1) with
 | false => rw [hn] at h; cases h
 | true =>
  rw [hn] at h
  by_cases hl : 60 < f.2.length
  ·rw [decide_eq_true hl] at h; cases h
  ·rw [decide_eq_false hl] at h
   cases hp : permS f.2 with
   | false => rw [hp] at h; cases h
   | true =>
    refine ⟨fun hc => ?_, fun hc => ?_, fun hc => ?_⟩
    ·obtain ⟨i, hi⟩ := name_all hn hc
     have : nameAt i 61 = true := hi
     rw [(name_not i).1] at this; cases this
    ·obtain ⟨i, hi⟩ := name_all hn hc
     have : nameAt i 32 = true := hi
     rw [(name_not i).2] at this; cases this
    ·unfold permS at hp
     have : permI (((32 : UInt8).toNat : Nat) : Int) = true := List.all_eq_true.1 hp _ hc
     revert this; decide
theorem chk_all {l : List Fld} (h : chkFl l = 0) : ∀ f ∈ l, chkF f = 0 := fun f hf => by
 obtain ⟨j, hj, rfl⟩ := mem_getD (([], []) : Fld) hf
 exact ((chk_parts h).2 j hj).1
theorem par_prt {l : List Fld} (h : chkFl l = 0) : parF (prtF l) = (l, 0) := par_prt_of h fun f hf => chk_chars (chk_all h f hf)
end Go.Lens.Tm
end
section
namespace Go.Lens.Tm
open Go.Lens.Tb Go.Proofs
set_option linter.unusedSectionVars false
variable [Lz]
def reb (g : List UInt8 → Option (List UInt8)) : List (List UInt8) → List Fld
 | [] => []
 | x :: N => if (g x).isSome then (x, (g x).getD []) :: reb g N else reb g N
theorem reb_congr {g h : List UInt8 → Option (List UInt8)} : ∀ {N : List (List UInt8)}, (∀ x ∈ N, g x = h x) → reb g N = reb h N
 | [], _ => rfl
 | x :: N, e => by
  rw [reb, reb, e x (by simp), reb_congr fun y hy => e y (List.mem_cons_of_mem _ hy)]
theorem getF_none {x : List UInt8} : ∀ {L : List Fld}, (∀ f ∈ L, f.1 ≠ x) → getF x L = none
 | [], _ => rfl
 | (a, v) :: L, h => by
  rw [getF, if_neg fun e => h (a, v) (by simp) e.symm, getF_none fun f hf => h f (List.mem_cons_of_mem _ hf)]
theorem reb_eq : ∀ {N : List (List UInt8)} {L : List Fld}, N.Pairwise (· < ·) → (L.map (·.1)).Pairwise (· < ·) → (∀ f ∈ L, f.1 ∈ N) → reb (fun x => getF x L) N = L
 | [], [], _, _, _ => rfl
 | [], f :: L, _, _, h => by cases h f (by simp)
 | x :: N, [], hN, hL, _ => by
  have := reb_eq (List.pairwise_cons.1 hN).2 hL (L := []) fun f hf => by cases hf
  rw [reb]; simpa [getF] using this
 | x :: N, (a, v) :: L, hN, hL, h => by
  obtain ⟨n1, n2⟩ := List.pairwise_cons.1 hN
  obtain ⟨l1, l2⟩ := List.pairwise_cons.1 hL
  have l1 : ∀ f ∈ L, a < f.1 := fun f hf => l1 f.1 (List.mem_map.2 ⟨f, hf, rfl⟩)
  by_cases e : x = a
  ·subst e
   have hs : getF x ((x, v) :: L) = some v := by rw [getF, if_pos rfl]
   rw [reb, hs]
   have hc : reb (fun y => getF y ((x, v) :: L)) N = reb (fun y => getF y L) N := reb_congr fun y hy => by
    rw [getF, if_neg]
    intro e; subst e
    exact List.lt_irrefl _ (n1 _ hy)
   rw [hc, reb_eq n2 l2 fun f hf => ?_]
   ·rfl
   ·rcases List.mem_cons.1 (h f (List.mem_cons_of_mem _ hf)) with e | e
    ·have := l1 f hf
     rw [e] at this
     exact absurd this (List.lt_irrefl _)
    ·exact e
  ·have ha : a ∈ N := by
    rcases List.mem_cons.1 (h (a, v) (by simp)) with e' | e'
    ·exact absurd e'.symm e
    ·exact e'
   have hx : ∀ f ∈ (a, v) :: L, x < f.1 := fun f hf => by
    rcases List.mem_cons.1 hf with e' | e'
    ·subst e'; exact n1 _ ha
    ·exact List.lt_trans (n1 _ ha) (l1 f e')
   have hs : getF x ((a, v) :: L) = none := getF_none fun f hf e' => by
    have := hx f hf
    rw [e'] at this
    exact List.lt_irrefl _ this
   rw [reb, hs]
   have := reb_eq n2 hL (L := (a, v) :: L) fun f hf => by
    rcases List.mem_cons.1 (h f hf) with e' | e'
    ·have := hx f hf
     rw [e'] at this
     exact absurd this (List.lt_irrefl _)
    ·exact e'
   simpa using this
end Go.Lens.Tm
end
section
namespace Go.Lens.Tm
open Go.Lens.Tb Go.Proofs
set_option linter.unusedSectionVars false
variable [Lz]
def chF (B M T : List Fld) (x : List UInt8) : Option (List UInt8) := if getF x M = getF x T then getF x M else if getF x M = getF x B then getF x T else getF x M
def okF (B M T : List Fld) (x : List UInt8) : Prop := getF x M = getF x T ∨ getF x M = getF x B ∨ getF x T = getF x B
instance (B M T : List Fld) (x : List UInt8) : Decidable (okF B M T x) := inferInstanceAs (Decidable (_ ∨ _ ∨ _))
theorem rm_fst (B M T : List Fld) : ∀ N, (rmGo B M T N).1 = reb (chF B M T) N
 | [] => rfl
 | x :: N => by rw [reb, ← rm_fst B M T N]; rfl
theorem rm_snd (B M T : List Fld) : ∀ N, (rmGo B M T N).2 = N.filter fun x => decide ¬ okF B M T x
 | [] => rfl
 | x :: N => by
  have ih := rm_snd B M T N
  by_cases h : okF B M T x
  ·rw [List.filter_cons, if_neg (by simpa using h), ← ih]
   exact if_pos h
  ·rw [List.filter_cons, if_pos (by simpa using h), ← ih]
   exact if_neg h
theorem nm_srt (A : List Fld) : (refNm A).Pairwise (· < ·) := (foldS A [] List.Pairwise.nil).1
theorem nm_mem (A : List Fld) (x : List UInt8) : x ∈ refNm A ↔ x ∈ A.map (·.1) := by
 have := (foldS A [] List.Pairwise.nil).2 x
 simpa [refNm] using this
theorem nm_swap (B M T : List Fld) : refNm (B ++ M ++ T) = refNm (B ++ T ++ M) := sorted_one (nm_srt _) (nm_srt _) fun x => by
 rw [nm_mem, nm_mem]
 simp only [List.map_append, List.mem_append]
 constructor <;> (intro h; rcases h with (h | h) | h <;> simp [h])
theorem refM_eq {B M T L : List Fld} (hL : (L.map (·.1)).Pairwise (· < ·)) (hs : ∀ f ∈ L, f.1 ∈ refNm (B ++ M ++ T)) (h : ∀ x, okF B M T x ∧ chF B M T x = getF x L) : refM B M T = (L, []) := by
 have h2 : (rmGo B M T (refNm (B ++ M ++ T))).2 = [] := by
  rw [rm_snd, List.filter_eq_nil_iff]
  intro x _
  simpa using (h x).1
 have h1 : (rmGo B M T (refNm (B ++ M ++ T))).1 = L := by
  rw [rm_fst, reb_congr (h := fun x => getF x L) fun x _ => (h x).2]
  exact reb_eq (nm_srt _) hL hs
 rw [refM, h2, h1]; rfl
theorem mem_nm {B M T : List Fld} {f : Fld} (h : f ∈ B ∨ f ∈ M ∨ f ∈ T) : f.1 ∈ refNm (B ++ M ++ T) := by
 rw [nm_mem]
 refine List.mem_map.2 ⟨f, ?_, rfl⟩
 simp only [List.mem_append]
 rcases h with h | h | h <;> simp [h]
theorem refM_one {B T : List Fld} (h : (T.map (·.1)).Pairwise (· < ·)) : refM B B T = (T, []) := refM_eq h (fun f hf => mem_nm (.inr (.inr hf))) fun x => ⟨.inr (.inl rfl), by
 unfold chF; split
 ·assumption
 ·rw [if_pos rfl]⟩
theorem refM_two {B M : List Fld} (h : (M.map (·.1)).Pairwise (· < ·)) : refM B M B = (M, []) := refM_eq h (fun f hf => mem_nm (.inr (.inl hf))) fun x => ⟨.inr (.inr rfl), by
 unfold chF; split
 ·rfl
 ·rfl⟩
theorem refM_same {B M : List Fld} (h : (M.map (·.1)).Pairwise (· < ·)) : refM B M M = (M, []) := refM_eq h (fun f hf => mem_nm (.inr (.inl hf))) fun x => ⟨.inl rfl, by
 unfold chF; rw [if_pos rfl]⟩
theorem okF_swap (B M T : List Fld) (x : List UInt8) : okF B M T x ↔ okF B T M x := by
 unfold okF
 constructor <;> (intro h; rcases h with h | h | h <;> simp [h])
theorem chF_swap {B M T : List Fld} {x : List UInt8} (h : okF B M T x) : chF B M T x = chF B T M x := by
 unfold chF
 rcases h with h | h | h
 ·rw [if_pos h, if_pos h.symm, h]
 ·by_cases e : getF x M = getF x T
  ·rw [if_pos e, if_pos e.symm, e]
  ·rw [if_neg e, if_pos h, if_neg (Ne.symm e)]
   split <;> simp_all
 ·by_cases e : getF x M = getF x T
  ·rw [if_pos e, if_pos e.symm, e]
  ·rw [if_neg e, if_neg (Ne.symm e), if_pos h]
   split <;> simp_all
theorem refM_swap (B M T : List Fld) : refM B M T = refM B T M := by
 have h2 : (rmGo B M T (refNm (B ++ M ++ T))).2 = (rmGo B T M (refNm (B ++ T ++ M))).2 := by
  rw [rm_snd, rm_snd, nm_swap]
  refine List.filter_congr fun x _ => ?_
  rw [decide_eq_decide, okF_swap]
 rw [refM, refM, h2]
 split
 ·rfl
 ·rename_i hz
  congr 1
  have he : (rmGo B M T (refNm (B ++ M ++ T))).2 = [] := by
   rw [h2]; exact List.eq_nil_of_length_eq_zero (by omega)
  rw [rm_fst, rm_fst, ← nm_swap]
  rw [rm_snd, List.filter_eq_nil_iff] at he
  exact reb_congr fun x hx => chF_swap (by simpa using he x (by rw [nm_swap]; exact hx))
theorem refM_conN {B M T : List Fld} {x : List UInt8} (h : x ∈ (refM B M T).2) : getF x M ≠ getF x B ∧ getF x T ≠ getF x B := by
 have h : x ∈ (rmGo B M T (refNm (B ++ M ++ T))).2 := by
  unfold refM at h
  split at h
  ·exact h
  ·cases h
 rw [rm_snd] at h
 have := (List.mem_filter.1 h).2
 simp only [okF, decide_eq_true_eq, not_or] at this
 exact this.2
end Go.Lens.Tm
end
section
namespace Go.Lens.Tm
open Go.Lens.Tb Go.Proofs
set_option linter.unusedSectionVars false
variable [Lz]
theorem reb_len (g : List UInt8 → Option (List UInt8)) : ∀ N, (reb g N).length ≤ N.length
 | [] => Nat.le_refl _
 | x :: N => by
  have := reb_len g N
  rw [reb]
  split <;> simp only [List.length_cons] <;> omega
theorem nm_lenN (A : List Fld) : (refNm A).length ≤ A.length := by
 have := nmK_len A A.length (Nat.le_refl _)
 rwa [List.take_of_length_le (Nat.le_refl _)] at this
theorem refM_len (B M T : List Fld) : (refM B M T).1.length ≤ B.length + M.length + T.length := by
 have h := reb_len (chF B M T) (refNm (B ++ M ++ T))
 have h2 := nm_lenN (B ++ M ++ T)
 simp only [List.length_append] at h2
 unfold refM
 split
 ·simp
 ·rw [rm_fst]; omega
def mgK (r : List Fld × List (List UInt8)) : List Fld × List (List UInt8) × Int := if 0 < r.2.length then ([], r.2, 29) else (r.1, [], 0)
theorem mfG_k {b m t : List Fld} (hb : chkFl b = 0) (hm : chkFl m = 0) (ht : chkFl t = 0) (lb : b.length ≤ 8) (lm : m.length ≤ 8) (lt : t.length ≤ 8) : mfG (firstF [chkFl b, chkFl m, chkFl t]) (mgR b m t) = mgK (refM b m t) := by
 have h0 : firstF [chkFl b, chkFl m, chkFl t] = 0 := by rw [hb, hm, ht]; rfl
 have := refM_len b m t
 rw [merge_same, h0, mfG, if_neg (by decide), mgK]
 split
 ·rfl
 ·rw [if_neg (by omega)]
end Go.Lens.Tm
end
section
namespace Go.Lens.Tm
open Go.Lens.Tb Go.Proofs
variable [Lz]
set_option linter.unusedSectionVars false
set_option maxRecDepth 100000
attribute [local irreducible] TK PK T RG EfR Body
set_option maxHeartbeats 4000000 in
theorem w115 (hj : JoinOk) (l : List Fld) (hb : l.length ≤ 26 ∧ ∀ f ∈ l, f.1.length ≤ 60 ∧ f.2.length ≤ 100) : CallOk Tryz.prog 115 [vL eF l] (lookM []) (vS (bsO (prtF l))) [] := by
 haveI := tab_ok
 obtain ⟨fn, f1, f2, f3, f4, _, f6⟩ := qf115
 refine callOk_of (Y := tab) (F := fn115) f1 (f2.trans rfl) f3 f4 f6 (Nat.le_of_ble_eq_true rfl) rfl ?_
 clear f1 f2 f3 f4 f6
 show TK _ _ _ _ _ _ ⟨[(0, vL eF l)], []⟩
 refine At rfl ?_
 refine NR ⟨[(0, vL eF l)], []⟩ (sb rfl rfl rfl) rfl ?_
 refine ag rfl ?_
 refine RN ?_
 refine Ap rfl ?_
 refine NR ⟨[(0, vL eF l)], []⟩ (sb rfl rfl rfl) rfl ?_
 refine RO (Body.adopt 4 1 9 rfl rfl) ?_
 refine RN ?_
 refine Ap rfl ?_
 refine NR ⟨[(0, vL eF l), (3, .aref 4 0)], [(4, .arr 0 1 9 (List.map eN []))]⟩ (sb rfl rfl rfl) rfl ?_
 refine mv rfl ?_
 refine RO (Body.lenL rfl un59) ?_
 refine mv rfl ?_
 refine RN ?_
 refine Ap rfl ?_
 refine TK.loop (α := Nat × Nat × List (List UInt8)) (fun x => ⟨[(3, .aref 4 x.2.1), (6, vL eF l), (7, vI ((List.length l : Nat) : Int)), (8, vI ((x.1 : Nat) : Int))], [(4, .arr x.2.1 1 9 (List.map eN x.2.2))]⟩) (fun x => x.1 ≤ List.length l ∧ List.length x.2.2 = x.1 ∧ x.2.2 = List.map fldP (List.take x.1 l)) (fun x => List.length l - x.1) (0, 0, []) ?_ (sb rfl rfl rfl) ?_
 · show 0 ≤ List.length l ∧ List.length [] = 0 ∧ [] = List.map fldP (List.take 0 l)
   exact ⟨Nat.zero_le _, rfl, rfl⟩
 rintro ⟨k, v, out⟩ hI0
 replace hI0 : k ≤ List.length l ∧ List.length out = k ∧ out = List.map fldP (List.take k l) := hI0
 show TK _ _ _ _ _ _ ⟨[(3, .aref 4 v), (6, vL eF l), (7, vI ((List.length l : Nat) : Int)), (8, vI ((k : Nat) : Int))], [(4, .arr v 1 9 (List.map eN out))]⟩
 refine At rfl ?_
 refine NR ⟨[(3, .aref 4 v), (6, vL eF l), (7, vI ((List.length l : Nat) : Int)), (8, vI ((k : Nat) : Int))], [(4, .arr v 1 9 (List.map eN out))]⟩ (sb rfl rfl rfl) rfl ?_
 refine RO (Body.lss rfl rfl) ?_
 refine RN ?_
 refine Ap rfl ?_
 refine TK.norm ⟨[(3, .aref 4 v), (6, vL eF l), (7, vI ((List.length l : Nat) : Int)), (8, vI ((k : Nat) : Int)), (9, vB (decide (((k : Nat) : Int) < ((List.length l : Nat) : Int))))], [(4, .arr v 1 9 (List.map eN out))]⟩ (sb rfl rfl rfl) ?_
 refine TK.condP rfl (fun h1 => ?_) (fun h1 => ?_)
 ·
  refine At rfl ?_
  refine NR ⟨[(3, .aref 4 v), (6, vL eF l), (7, vI ((List.length l : Nat) : Int)), (8, vI ((k : Nat) : Int))], [(4, .arr v 1 9 (List.map eN out))]⟩ (sb rfl rfl rfl) rfl ?_
  refine RO (Body.idx (z := ([], [])) (i := k) rfl rfl un59 sz174 (fun _ => rfl) rfl (by first | omega | (have hc2 := hc; simp only [beq_iff_eq, decide_eq_true_eq, decide_eq_false_iff_not] at hc2; omega) | (simp only [List.length_append, List.length_cons, List.length_nil, List.length_take, List.length_drop]; omega))) ?_
  refine RO (Body.loadA (ds := [pS (bsO (Prod.fst (List.getD l k ([], [])))), pS (bsO (Prod.snd (List.getD l k ([], []))))]) rfl ag174 sz174 (Nat.le_of_ble_eq_true rfl) rfl) ?_
  refine rn rfl ?_
  refine rn rfl ?_
  refine RN ?_
  refine Ap rfl ?_
  refine TK.norm ⟨[(3, .aref 4 v), (5, .bref 6 0), (6, vL eF l), (7, vI ((List.length l : Nat) : Int)), (8, vI ((k : Nat) : Int))], [(4, .arr v 1 9 (List.map eN out)), (6, .box 174 [vS (bsO (Prod.fst (List.getD l k ([], [])))), vS (bsO (Prod.snd (List.getD l k ([], []))))])]⟩ (sb rfl rfl rfl) ?_
  have hkb := hb.2 _ (getD_mem (l := l) (k := k) (z := ([], [])) (by omega))
  refine TK.rg (Y := tab) mixed rfl ?_
  refine rn rfl ?_
  refine RO (Body.fadB rfl fa174_0 rfl) ?_
  refine RO (Body.loadB rfl rfl rfl ag9 sz9 rfl) ?_
  refine RO (Body.catB (a := (Prod.fst (List.getD l k ([], [])))) (b := [61]) rfl rfl (by first | omega | (simp only [List.length_append, List.length_cons, List.length_nil]; omega))) ?_
  refine RO (Body.fadB rfl fa174_1 rfl) ?_
  refine RO (Body.loadB rfl rfl rfl ag9 sz9 rfl) ?_
  refine RO (Body.catB (a := ((Prod.fst (List.getD l k ([], []))) ++ [61])) (b := (Prod.snd (List.getD l k ([], [])))) rfl rfl (by first | omega | (simp only [List.length_append, List.length_cons, List.length_nil]; omega))) ?_
  refine RO (Body.runZ (val := .pv (.slice (List.map eN [(((Prod.fst (List.getD l k ([], []))) ++ [61]) ++ (Prod.snd (List.getD l k ([], []))))]))) rfl (fun l => Frz.arr l _ _ _ _ _) rfl) ?_
  refine RO (Body.append rfl rfl rfl un73 in9 rfl (fun _ => rfl) by9 (by first | omega | (have hc2 := hc; simp only [beq_iff_eq, decide_eq_true_eq, decide_eq_false_iff_not] at hc2; omega) | (simp only [List.length_append, List.length_cons, List.length_nil, List.length_take, List.length_drop]; omega))) ?_
  refine rn rfl ?_
  refine RN ?_
  refine Ap rfl ?_
  refine NR ⟨[(3, .aref 4 (v + 1)), (6, vL eF l), (7, vI ((List.length l : Nat) : Int)), (8, vI ((k : Nat) : Int))], [(4, .arr (v + 1) 1 9 (List.map eN (out ++ [(((Prod.fst (List.getD l k ([], []))) ++ [61]) ++ (Prod.snd (List.getD l k ([], []))))])))]⟩ (sb rfl rfl rfl) rfl ?_
  refine RO (Body.add rfl rfl (by unfold R64; omega)) ?_
  refine mv rfl ?_
  refine RN ?_
  refine Aq rfl ?_
  refine PK.lp ?_
  refine LP.mk ((k + 1), (v + 1), (out ++ [(((Prod.fst (List.getD l k ([], []))) ++ [61]) ++ (Prod.snd (List.getD l k ([], []))))])) ?_ ?_ (sb rfl rfl rfl)
  · show (k + 1) ≤ List.length l ∧ List.length (out ++ [(((Prod.fst (List.getD l k ([], []))) ++ [61]) ++ (Prod.snd (List.getD l k ([], []))))]) = (k + 1) ∧ (out ++ [(((Prod.fst (List.getD l k ([], []))) ++ [61]) ++ (Prod.snd (List.getD l k ([], []))))]) = List.map fldP (List.take (k + 1) l)
    refine ⟨by omega, by simp only [List.length_append, List.length_cons, List.length_nil]; omega, ?_⟩; rw [take_fld l k (by omega), List.map_append, hI0.2.2]; rfl
  · show List.length l - (k + 1) < List.length l - k
    omega
 ·
  refine At rfl ?_
  refine TK.exit ?_
  refine PK.exit rfl ?_
  refine Ap rfl ?_
  refine TK.norm ⟨[(3, .aref 4 v)], [(4, .arr v 1 9 (List.map eN out))]⟩ (sb rfl rfl rfl) ?_
  have hou : out = l.map fldP := by rw [hI0.2.2, List.take_of_length_le (by omega)]
  have hjw : ∀ w ∈ out, w.length ≤ 1000 := by rw [hou]; exact words_le hb
  refine TK.frz (t := 3) rfl rfl ?_
  refine NR ⟨[(3, vL eN out)], []⟩ (sb rfl rfl rfl) rfl ?_
  refine mv rfl ?_
  refine RO (Body.call (hj out (by omega) hjw) rfl rfl rfl) ?_
  refine ag rfl ?_
  refine RN ?_
  refine Ap rfl ?_
  refine TK.ret ?_
  refine PK.ret ?_
  refine leaf (val0 := vS (bsO (joinF out))) (by kernel_rfl) ?_
  exact ls (by rw [hou, join_all l])
set_option maxHeartbeats 4000000 in
theorem w36 (hj : JoinOk) (l : List Fld) (hb : l.length ≤ 26 ∧ ∀ f ∈ l, f.1.length ≤ 60 ∧ f.2.length ≤ 100) : CallOk Tryz.prog 36 [vL eF l] (lookM []) (.tup [vS (bsO (prtX l)), vI (chkFl l)]) [] := by
 haveI := tab_ok
 obtain ⟨fn, f1, f2, f3, f4, _, f6⟩ := qf36
 refine callOk_of (Y := tab) (F := fn36) f1 (f2.trans rfl) f3 f4 f6 (Nat.le_of_ble_eq_true rfl) rfl ?_
 clear f1 f2 f3 f4 f6
 show TK _ _ _ _ _ _ ⟨[(0, vL eF l)], []⟩
 refine At rfl ?_
 refine NR ⟨[(0, vL eF l)], []⟩ (sb rfl rfl rfl) rfl ?_
 refine ag rfl ?_
 refine ag rfl ?_
 refine RN ?_
 refine Ap rfl ?_
 refine NR ⟨[(0, vL eF l)], []⟩ (sb rfl rfl rfl) rfl ?_
 refine mv rfl ?_
 refine RO (Body.call (w41 l (by omega) (fun f hf => by have := hb.2 f hf; omega)) rfl rfl rfl) ?_
 refine ag rfl ?_
 refine RN ?_
 refine Ap rfl ?_
 refine NR ⟨[(0, vL eF l), (4, vI (chkFl l))], []⟩ (sb rfl rfl rfl) rfl ?_
 refine mv rfl ?_
 refine RO (Body.neq rfl rfl) ?_
 refine RN ?_
 refine Ap rfl ?_
 refine TK.norm ⟨[(0, vL eF l), (4, vI (chkFl l)), (8, vB (decide ((chkFl l) ≠ 0)))], []⟩ (sb rfl rfl rfl) ?_
 refine TK.condP rfl (fun h1 => ?_) (fun h1 => ?_)
 ·
  refine At rfl ?_
  refine NR ⟨[(4, vI (chkFl l))], []⟩ (sb rfl rfl rfl) rfl ?_
  refine mv rfl ?_
  refine ag rfl ?_
  refine ag rfl ?_
  refine RN ?_
  refine Ap rfl ?_
  refine TK.ret ?_
  refine PK.ret ?_
  refine leaf (val0 := .tup [vS (bsO []), vI (chkFl l)]) (by kernel_rfl) ?_
  exact tup2 (ls (by first | rw [prtX_no h1] | rw [prtX_ok (Decidable.not_not.1 h1)] | exact (Decidable.not_not.1 h1).symm)) (rfl)
 ·
  refine At rfl ?_
  refine NR ⟨[(0, vL eF l)], []⟩ (sb rfl rfl rfl) rfl ?_
  refine mv rfl ?_
  refine RO (Body.call (w115 hj l hb) rfl rfl rfl) ?_
  refine ag rfl ?_
  refine ag rfl ?_
  refine RN ?_
  refine Ap rfl ?_
  refine TK.ret ?_
  refine PK.ret ?_
  refine leaf (val0 := .tup [vS (bsO (prtF l)), vI 0]) (by kernel_rfl) ?_
  exact tup2 (ls (by first | rw [prtX_no h1] | rw [prtX_ok (Decidable.not_not.1 h1)] | exact (Decidable.not_not.1 h1).symm)) (li (by first | rw [prtX_no h1] | rw [prtX_ok (Decidable.not_not.1 h1)] | exact (Decidable.not_not.1 h1).symm))
end Go.Lens.Tm
end
section
namespace Go.Lens
set_option linter.unusedSectionVars false
variable [Lz]
section
variable {P : Program} {Y : Tab} [TabOk P Y] {nb : Nat} {s : St} {dst : Option Tmp} {ty u : TypeId} {pos : String} {af : Array Edge} {gd : Option (Nat × Bool)} {t : TypeId} {x y : Operand}
theorem Body.bnB {p q : Bool} (hx : ev1 s x = lit (.bool p)) (hy : ev1 s y = lit (.bool q)) (und : Y.underlying t = some .bool) : Body P Y nb s ⟨dst, .binOp .neq t x y u, ty, pos, af, gd⟩ (lit (.bool (!(p == q)))) [] [] := by
 refine Body.bin hx hy ?_
 have h3 : binQ Y .neq t (lit (.bool p)) (lit (.bool q)) = some (true, lit (.bool (!(p == q)))) := by
  simp only [binQ, lit, und]
 show qE (binW Y .neq t (lookM []) (isNilC y) (lit (.bool p)) (lit (.bool q))) = _
 have h4 : binW Y .neq t (lookM []) (isNilC y) (lit (.bool p)) (lit (.bool q)) = some (true, lit (.bool (!(p == q)))) := by
  unfold binW
  simp only [lit] at h3 ⊢
  simp only [nilQ, nilKind, samePQ, h3]
 rw [h4]; rfl
end
end Go.Lens
namespace Go.Lens.Tm
open Go.Lens.Tb Go.Proofs
set_option linter.unusedSectionVars false
variable [Lz]
theorem chkF_rng (f : Fld) : 0 ≤ chkF f ∧ chkF f ≤ 29 := by
 unfold chkF
 generalize (!isNameF (bsO f.1)) = a
 generalize decide (60 < f.2.length) = b
 generalize (!permS f.2) = c
 cases a <;> cases b <;> cases c <;> decide
theorem fOne_rng (l : List Fld) (i : Nat) : 0 ≤ fOne l i ∧ fOne l i ≤ 29 := by
 unfold fOne
 split
 ·cases ordB l i <;> decide
 ·exact chkF_rng _
theorem fGo_rng (l : List Fld) : ∀ n i, 0 ≤ fGo l n i ∧ fGo l n i ≤ 29
 | 0, _ => by simp [fGo]
 | n + 1, i => by
  rw [fGo]
  split
  ·exact fGo_rng l n (i + 1)
  ·exact fOne_rng l i
theorem chkFl_rng (l : List Fld) : 0 ≤ chkFl l ∧ chkFl l ≤ 29 := by
 unfold chkFl
 cases decide (24 < l.length)
 ·exact fGo_rng l _ _
 ·exact ⟨by show (0 : Int) ≤ 5; omega, by show (5 : Int) ≤ 29; omega⟩
theorem nk_early {b m t : List Fld} (h : (bif (bif (bif (bif (bif (bif (decide (8 < ((List.length b : Nat) : Int))) then true else (decide (8 < ((List.length m : Nat) : Int)))) then true else (decide (8 < ((List.length t : Nat) : Int)))) then true else (!(shortF b 8))) then true else (!(shortF m 8))) then true else (!(shortF t 8))) then true else (decide (((chkFl b + chkFl m) + chkFl t) ≠ 0))) = false) :
  (b.length ≤ 8 ∧ m.length ≤ 8 ∧ t.length ≤ 8) ∧ (shortF b 8 = true ∧ shortF m 8 = true ∧ shortF t 8 = true) ∧ chkFl b = 0 ∧ chkFl m = 0 ∧ chkFl t = 0 := by
 have h1 := chkFl_rng b
 have h2 := chkFl_rng m
 have h3 := chkFl_rng t
 simp only [bif_or, Bool.or_eq_false_iff, Bool.not_eq_false', decide_eq_false_iff_not] at h
 refine ⟨⟨by omega, by omega, by omega⟩, ⟨h.1.1.1.2, h.1.1.2, h.1.2⟩, by omega, by omega, by omega⟩
theorem prtF_len {l : List Fld} (h : l.length ≤ 26 ∧ ∀ f ∈ l, f.1.length ≤ 60 ∧ f.2.length ≤ 100) : (prtF l).length ≤ 100000 := by
 have h1 := prtK_len l 100 (fun f hf => by have := h.2 f hf; omega) l.length (Nat.le_refl _)
 unfold prtF
 omega
abbrev Fit (l : List Fld) : Prop := l.length ≤ 26 ∧ ∀ f ∈ l, f.1.length ≤ 60 ∧ f.2.length ≤ 100
theorem w36k (hj : JoinOk) {m : List Fld} (hm : chkFl m = 0) (hb : Fit m) : CallOk Tryz.prog 36 [vL eF m] (lookM []) (.tup [vS (bsO (prtF m)), vI 0]) [] := by
 have := w36 hj m hb
 rwa [prtX_ok hm, hm] at this
theorem w37k (hp : PowLaid) {m : List Fld} (hm : chkFl m = 0) (hb : Fit m) : CallOk Tryz.prog 37 [vS (bsO (prtF m))] (lookM []) (.tup [vL eF m, vI 0]) [] := by
 have := w37 hp (prtF m) (prtF_len hb)
 rwa [par_prt hm] at this
def Ck (l : List Fld) : Prop := Fit l ∧ chkFl l = 0 ∧ l.length ≤ 8
theorem w43k {b m t : List Fld} (hb : Ck b) (hm : Ck m) (ht : Ck t) {q : List Fld × List (List UInt8)} (hq : q = refM b m t) : CallOk Tryz.prog 43 [vL eF b, vL eF m, vL eF t] (lookM []) (.tup [vL eF (mgK q).1, vL eN (mgK q).2.1, vI (mgK q).2.2]) [] := by
 obtain ⟨h1, h2, h3⟩ := hb
 obtain ⟨m1, m2, m3⟩ := hm
 obtain ⟨t1, t2, t3⟩ := ht
 have := w43 b m t (by omega) (by omega) (by omega) (short_small h1) (fun f hf => by have := h1.2 f hf; omega) (short_small m1) (fun f hf => by have := m1.2 f hf; omega) (short_small t1) (fun f hf => by have := t1.2 f hf; omega)
 rwa [mfG_k h2 m2 t2 h3 m3 t3, ← hq] at this
theorem ck_srt {l : List Fld} (h : Ck l) : (l.map (·.1)).Pairwise (· < ·) := asc_sorted (chk_asc h.2.1)
theorem w43a {b t : List Fld} (hb : Ck b) (ht : Ck t) : CallOk Tryz.prog 43 [vL eF b, vL eF b, vL eF t] (lookM []) (.tup [vL eF t, vL eN [], vI 0]) [] := w43k hb hb ht (refM_one (ck_srt ht)).symm
theorem w43b {b m : List Fld} (hb : Ck b) (hm : Ck m) : CallOk Tryz.prog 43 [vL eF b, vL eF m, vL eF b] (lookM []) (.tup [vL eF m, vL eN [], vI 0]) [] := w43k hb hm hb (refM_two (ck_srt hm)).symm
theorem w43c {b m : List Fld} (hb : Ck b) (hm : Ck m) : CallOk Tryz.prog 43 [vL eF b, vL eF m, vL eF m] (lookM []) (.tup [vL eF m, vL eN [], vI 0]) [] := w43k hb hm hm (refM_same (ck_srt hm)).symm
theorem mgK_snd (q : List Fld × List (List UInt8)) : (mgK q).2.1 = q.2 := by
 unfold mgK
 split
 ·rfl
 ·exact (List.eq_nil_of_length_eq_zero (by omega)).symm
theorem mgK_lens {b m t : List Fld} (hb : Ck b) (hm : Ck m) (ht : Ck t) {q : List Fld × List (List UInt8)} (hq : q = refM b m t) : (mgK q).1.length ≤ 24 ∧ (mgK q).2.1.length ≤ 1000 := by
 have := mf_len (firstF [chkFl b, chkFl m, chkFl t]) b m t ⟨hb.1.1, hm.1.1, ht.1.1⟩
 rwa [← merge_same, mfG_k hb.2.1 hm.2.1 ht.2.1 hb.2.2 hm.2.2 ht.2.2, ← hq] at this
theorem nk_no (q : List Fld × List (List UInt8)) : (bif (bif (bif (bif (decide ((mgK q).2.2 ≠ (mgK q).2.2)) then true else (!(decide ((mgK q).1 = (mgK q).1)))) then true else (!(decide ((mgK q).2.1 = (mgK q).2.1)))) then true else (!((decide ((mgK q).2.2 = 29)) == (decide (0 < ((List.length (mgK q).2.1 : Nat) : Int)))))) then true else (bif (decide ((mgK q).2.2 ≠ 0)) then (decide ((mgK q).2.2 ≠ 29)) else false)) = false := by
 unfold mgK
 split
 ·rename_i h
  simp
  omega
 ·simp
theorem opt_one {a b : Option (List UInt8)} (h1 : a.getD [] = b.getD []) (h2 : a.isSome = b.isSome) : a = b := by
 cases a <;> cases b <;> simp_all
theorem nk_con {b m t : List Fld} {q : List Fld × List (List UInt8)} (hq : q = refM b m t) {x : List UInt8} (hx : x ∈ (mgK q).2.1) : (bif (bif (decide ((Option.getD (getF x m) []) = (Option.getD (getF x b) []))) then ((Option.isSome (getF x m)) == (Option.isSome (getF x b))) else false) then true else (bif (decide ((Option.getD (getF x t) []) = (Option.getD (getF x b) []))) then ((Option.isSome (getF x t)) == (Option.isSome (getF x b))) else false)) = false := by
 rw [mgK_snd, hq] at hx
 obtain ⟨h1, h2⟩ := refM_conN hx
 simp only [bif_or, bif_and, Bool.or_eq_false_iff, Bool.and_eq_false_iff, decide_eq_false_iff_not, beq_eq_false_iff_ne]
 constructor
 ·by_cases h : (Option.getD (getF x m) []) = (Option.getD (getF x b) [])
  ·exact .inr fun e => h1 (opt_one h e)
  ·exact .inl h
 ·by_cases h : (Option.getD (getF x t) []) = (Option.getD (getF x b) [])
  ·exact .inr fun e => h2 (opt_one h e)
  ·exact .inl h
end Go.Lens.Tm
end
