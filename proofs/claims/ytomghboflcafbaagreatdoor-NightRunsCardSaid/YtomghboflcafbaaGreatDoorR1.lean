/- A part of the proof that NightRunsCardSaid holds, without conditions. -/
import Derived.Test.YtomghboflcafbaaGreatDoorS3
import Derived.Test.YtomghboflcafbaaGreatDoorS4
import Derived.Laws.RangeAny
import Derived.Test.YtomghboflcafbaaGreatDoorS10
import Derived.Lib.Bytealg
set_option linter.unusedVariables false
set_option linter.unusedSimpArgs false
section
namespace Go.Lens
set_option linter.unusedSectionVars false
variable [Lz]
def ltS (a b : List UInt8) : Bool := Op.bytesLess a b
def leS (a b : List UInt8) : Bool := Op.bytesLess a b || a == b
section
variable {P : Program} {Y : Tab} [TabOk P Y] {nb : Nat} {s : St} {dst : Option Tmp} {ty u : TypeId} {pos : String} {af : Array Edge} {gd : Option (Nat × Bool)} {t : TypeId} {x y z : Operand} {a b : List UInt8}
theorem Body.seqB (hx : ev1 s x = lit (.string (bsO a))) (hy : ev1 s y = lit (.string (bsO b))) : Body P Y nb s ⟨dst, .binOp .eql t x y u, ty, pos, af, gd⟩ (lit (.bool (decide (a = b)))) [] [] := by
 have := Body.seql (P := P) (Y := Y) (nb := nb) (s := s) (dst := dst) (ty := ty) (u := u) (pos := pos) (af := af) (gd := gd) (t := t) hx hy
 rwa [show decide (bsO a = bsO b) = decide (a = b) by rw [Bool.eq_iff_iff]; simp [bsO_inj]] at this
theorem Body.sneB (hx : ev1 s x = lit (.string (bsO a))) (hy : ev1 s y = lit (.string (bsO b))) : Body P Y nb s ⟨dst, .binOp .neq t x y u, ty, pos, af, gd⟩ (lit (.bool (decide (a ≠ b)))) [] [] := by
 have := Body.sneq (P := P) (Y := Y) (nb := nb) (s := s) (dst := dst) (ty := ty) (u := u) (pos := pos) (af := af) (gd := gd) (t := t) hx hy
 rwa [show decide (bsO a ≠ bsO b) = decide (a ≠ b) by rw [Bool.eq_iff_iff]; simp [bsO_inj]] at this
theorem Body.lenB {at' : TypeId} (hx : ev1 s x = lit (.string (bsO a))) (hu : Y.underlying at' = some .string) : Body P Y nb s ⟨dst, .call ⟨.builtin .len, ⟨[x]⟩, ⟨[at']⟩⟩, ty, pos, af, gd⟩ (lit (.int .i64 ((a.length : Nat) : Int))) [] [] := Body.lenS hx hu
theorem Body.slDL {α : Type} {enc : α → List PV} {l : List α} {lo : Operand} {k : IntKind} {n : Int} {i : Nat} {e : TypeId} {sz : Nat} (hx : ev1 s x = .pv (.slice (l.map enc))) (hy : ev1 s lo = lit (.int k n)) (hu : Y.underlying t = some (.slice e)) (hs : szT Y e = some sz) (hsz : ∀ a, (enc a).length = sz) (hn : n = (i : Int)) (hi : i ≤ l.length) :
 Body P Y nb s ⟨dst, .slice t x (some lo) none none, ty, pos, af, gd⟩ (.pv (.slice ((l.drop i).map enc))) [] [] := by
 refine Body.pure (lo := 0) (nm := 0) (O0_ok P) ?_ ?_
 ·intro z hz
  have : z = x ∨ z = lo := by simpa [Op.operands] using hz
  rcases this with rfl | rfl
  ·rw [hx]; rfl
  ·rw [hy]; rfl
 ·have e1 : evU (tmpsOf [x, lo]) s x = _ := (evU_own (by simp)).trans hx
  have e2 : evU (tmpsOf [x, lo]) s lo = _ := (evU_own (by simp)).trans hy
  have hv : effV Y 0 dst (.slice t x (some lo) none none) (evU (tmpsOf [x, lo]) s) (lookM []) = liftQ (sliceW Y t (lookM []) (evU (tmpsOf [x, lo]) s x) (some (evU (tmpsOf [x, lo]) s lo)) none none) := by
   show (match frzU (lookM []) (refsOf (evU (tmpsOf [x, lo]) s) [x]) with
    | [] => stepV Y 0 dst (.slice t x (some lo) none none) (evU (tmpsOf [x, lo]) s) (lookM []) (lookM [])
    | fz => match stepV Y 0 dst (.slice t x (some lo) none none) (evU (tmpsOf [x, lo]) s) (upd fz (lookM [])) (upd fz (lookM [])) with
     | some ⟨s, v, ms⟩ => some ⟨s, v, mrg ms fz⟩
     | none => none) = _
   have hrf : refsOf (evU (tmpsOf [x, lo]) s) [x] = [] := by simp [refsOf, e1, DV.refs]
   rw [hrf]; rfl
  show (match effV Y 0 dst (.slice t x (some lo) none none) (evU (tmpsOf [x, lo]) s) (lookM []) with | some ⟨true, v, m⟩ => some (v, m) | _ => none) = _
  rw [hv, e1, e2]
  have hal : allLen sz (l.map enc) = true := by
   unfold allLen
   rw [List.all_eq_true]
   intro b hb
   obtain ⟨c, _, rfl⟩ := List.mem_map.1 hb
   simpa using hsz c
  have hq : sliceW Y t (lookM []) (.pv (.slice (l.map enc))) (some (lit (.int k n))) none none = some (true, .pv (.slice ((l.drop i).map enc))) := by
   show sliceQ Y t (lookM []) (.pv (.slice (l.map enc))) (some (lit (.int k n))) none none = _
   unfold sliceQ lit
   simp only [hu, hs, bound, Option.getD_none, hal, Bool.and_true]
   subst hn
   have : decide ((0 : Int) ≤ (i : Int) ∧ (i : Int) ≤ ((l.map enc).length : Int) ∧ ((l.map enc).length : Int) ≤ ((l.map enc).length : Int)) = true := decide_eq_true ⟨by omega, by rw [List.length_map]; omega, by omega⟩
   rw [this, Int.toNat_natCast, Int.toNat_natCast, List.take_of_length_le (Nat.le_refl _), List.map_drop]
  rw [hq]; rfl
end
end Go.Lens
end
section
namespace Go.Lens.Tb
open Go.Proofs
variable [Lz]
set_option linter.unusedSectionVars false
set_option maxRecDepth 100000
attribute [local irreducible] TK PK T RG EfR Body
theorem ag3 : aggT tab 3 = some false := by kernel_rfl
theorem ag34 : aggT tab 34 = some false := by kernel_rfl
theorem sz3 : szT tab 3 = some 1 := by kernel_rfl
theorem sz34 : szT tab 34 = some 1 := by kernel_rfl
theorem un22 : tab.underlying 22 = some (.slice 3) := by kernel_rfl
theorem un289 : tab.underlying 289 = some (.slice 34) := by kernel_rfl
theorem w101 (b : Bool) (e : Int) : CallOk Tryz.prog 101 [vB b, vI e] (lookM []) (vI (whenF b e)) [] := by
 haveI := tab_ok
 obtain ⟨fn, f1, f2, f3, f4, _, f6⟩ := qf101
 refine callOk_of (Y := tab) (F := fn101) f1 (f2.trans rfl) f3 f4 f6 (Nat.le_of_ble_eq_true rfl) rfl ?_
 clear f1 f2 f3 f4 f6
 show TK _ _ _ _ _ _ ⟨[(0, vB b), (1, vI e)], []⟩
 refine At rfl ?_
 refine NR ⟨[(0, vB b), (1, vI e)], []⟩ (sb rfl rfl rfl) rfl ?_
 refine ag rfl ?_
 refine RN ?_
 refine Ap rfl ?_
 refine NR ⟨[(0, vB b), (1, vI e)], []⟩ (sb rfl rfl rfl) rfl ?_
 refine mv rfl ?_
 refine RN ?_
 refine Ap rfl ?_
 refine TK.norm ⟨[(1, vI e), (5, vB b)], []⟩ (sb rfl rfl rfl) ?_
 refine TK.cond rfl (fun h1 => ?_) (fun h1 => ?_)
 ·
  refine At rfl ?_
  refine NR ⟨[(1, vI e)], []⟩ (sb rfl rfl rfl) rfl ?_
  refine mv rfl ?_
  refine ag rfl ?_
  refine RN ?_
  refine Ap rfl ?_
  refine TK.ret ?_
  refine PK.ret ?_
  refine leaf (val0 := vI e) (by kernel_rfl) ?_
  exact li (by subst h1; rfl)
 ·
  refine At rfl ?_
  refine NR ⟨[], []⟩ (sb rfl rfl rfl) rfl ?_
  refine ag rfl ?_
  refine RN ?_
  refine Ap rfl ?_
  refine TK.ret ?_
  refine PK.ret ?_
  refine leaf (val0 := vI 0) (by kernel_rfl) ?_
  exact li (by subst h1; rfl)
theorem w93 (n low high : Int) : CallOk Tryz.prog 93 [vI n, vI low, vI high] (lookM []) (vB (outF n low high)) [] := by
 haveI := tab_ok
 obtain ⟨fn, f1, f2, f3, f4, _, f6⟩ := qf93
 refine callOk_of (Y := tab) (F := fn93) f1 (f2.trans rfl) f3 f4 f6 (Nat.le_of_ble_eq_true rfl) rfl ?_
 clear f1 f2 f3 f4 f6
 show TK _ _ _ _ _ _ ⟨[(0, vI n), (1, vI low), (2, vI high)], []⟩
 refine At rfl ?_
 refine NR ⟨[(0, vI n), (1, vI low), (2, vI high)], []⟩ (sb rfl rfl rfl) rfl ?_
 refine ag rfl ?_
 refine RN ?_
 refine Ap rfl ?_
 refine NR ⟨[(0, vI n), (1, vI low), (2, vI high)], []⟩ (sb rfl rfl rfl) rfl ?_
 refine mv rfl ?_
 refine mv rfl ?_
 refine RO (Body.lss rfl rfl) ?_
 refine mv rfl ?_
 refine RG.cons (EfR.sym rfl (fun hc => Body.move rfl) rfl) ?_
 refine RG.cons (EfR.sym rfl (fun hc => Body.move rfl) rfl) ?_
 refine RG.cons (EfR.sym rfl (fun hc => Body.gtr (ev1_gd rfl hc) (ev1_gd rfl hc)) rfl) ?_
 refine RO (Body.pick rfl rfl rfl rfl (gdB rfl) (pick_or _)) ?_
 refine ag rfl ?_
 refine RN ?_
 refine Ap rfl ?_
 refine TK.ret ?_
 refine PK.ret ?_
 refine leaf (val0 := vB (bif (decide (n < low)) then true else (decide (high < n)))) (by kernel_rfl) ?_
 exact lb (by simp only [outF, bif_or])
theorem w99 (n low high : Int) : CallOk Tryz.prog 99 [vI n, vI low, vI high] (lookM []) (vI (withinF n low high)) [] := by
 haveI := tab_ok
 obtain ⟨fn, f1, f2, f3, f4, _, f6⟩ := qf99
 refine callOk_of (Y := tab) (F := fn99) f1 (f2.trans rfl) f3 f4 f6 (Nat.le_of_ble_eq_true rfl) rfl ?_
 clear f1 f2 f3 f4 f6
 show TK _ _ _ _ _ _ ⟨[(0, vI n), (1, vI low), (2, vI high)], []⟩
 refine At rfl ?_
 refine NR ⟨[(0, vI n), (1, vI low), (2, vI high)], []⟩ (sb rfl rfl rfl) rfl ?_
 refine ag rfl ?_
 refine RN ?_
 refine Ap rfl ?_
 refine NR ⟨[(0, vI n), (1, vI low), (2, vI high)], []⟩ (sb rfl rfl rfl) rfl ?_
 refine mv rfl ?_
 refine mv rfl ?_
 refine RO (Body.lss rfl rfl) ?_
 refine mv rfl ?_
 refine RG.cons (EfR.sym rfl (fun hc => Body.move rfl) rfl) ?_
 refine RG.cons (EfR.sym rfl (fun hc => Body.move rfl) rfl) ?_
 refine RG.cons (EfR.sym rfl (fun hc => Body.gtr (ev1_gd rfl hc) (ev1_gd rfl hc)) rfl) ?_
 refine RO (Body.pick rfl rfl rfl rfl (gdB rfl) (pick_or _)) ?_
 refine RO (Body.call (w101 (bif (decide (n < low)) then true else (decide (high < n))) 3) rfl rfl rfl) ?_
 refine ag rfl ?_
 refine RN ?_
 refine Ap rfl ?_
 refine TK.ret ?_
 refine PK.ret ?_
 refine leaf (val0 := vI (whenF (bif (decide (n < low)) then true else (decide (high < n))) 3)) (by kernel_rfl) ?_
 exact li (by simp only [withinF, outF, bif_or])
theorem w100 (l : List Int) (hl : l.length ≤ 1000000000000000) : CallOk Tryz.prog 100 [vL eI l] (lookM []) (vI (firstF l)) [] := by
 haveI := tab_ok
 obtain ⟨fn, f1, f2, f3, f4, _, f6⟩ := qf100
 refine callOk_of (Y := tab) (F := fn100) f1 (f2.trans rfl) f3 f4 f6 (Nat.le_of_ble_eq_true rfl) rfl ?_
 clear f1 f2 f3 f4 f6
 show TK _ _ _ _ _ _ ⟨[(0, vL eI l)], []⟩
 refine At rfl ?_
 refine NR ⟨[(0, vL eI l)], []⟩ (sb rfl rfl rfl) rfl ?_
 refine ag rfl ?_
 refine RN ?_
 refine Ap rfl ?_
 refine NR ⟨[(0, vL eI l)], []⟩ (sb rfl rfl rfl) rfl ?_
 refine mv rfl ?_
 refine RO (Body.lenL rfl un289) ?_
 refine mv rfl ?_
 refine RN ?_
 refine Ap rfl ?_
 refine TK.loop (α := Nat) (fun x => ⟨[(5, vL eI l), (6, vI l.length), (7, vI x)], []⟩) (fun x => x ≤ l.length ∧ firstF l = firstF (List.drop x l)) (fun x => l.length - x) 0 ?_ (sb rfl rfl rfl) ?_
 · show 0 ≤ l.length ∧ firstF l = firstF (List.drop 0 l)
   exact ⟨Nat.zero_le _, rfl⟩
 rintro k hI0
 replace hI0 : k ≤ l.length ∧ firstF l = firstF (List.drop k l) := hI0
 show TK _ _ _ _ _ _ ⟨[(5, vL eI l), (6, vI l.length), (7, vI k)], []⟩
 refine At rfl ?_
 refine NR ⟨[(5, vL eI l), (6, vI l.length), (7, vI k)], []⟩ (sb rfl rfl rfl) rfl ?_
 refine RO (Body.lss rfl rfl) ?_
 refine RN ?_
 refine Ap rfl ?_
 refine TK.norm ⟨[(5, vL eI l), (6, vI l.length), (7, vI k), (8, vB (decide ((k : Int) < (l.length : Int))))], []⟩ (sb rfl rfl rfl) ?_
 refine TK.condP rfl (fun h1 => ?_) (fun h1 => ?_)
 ·
  refine At rfl ?_
  refine NR ⟨[(5, vL eI l), (6, vI l.length), (7, vI k)], []⟩ (sb rfl rfl rfl) rfl ?_
  refine RO (Body.idx (z := 0) (i := k) rfl rfl un289 sz34 (fun _ => rfl) rfl (by omega)) ?_
  refine RO (Body.loadP rfl ag34 sz34) ?_
  refine ag rfl ?_
  refine RN ?_
  refine Ap rfl ?_
  refine NR ⟨[(4, vI (List.getD l k 0)), (5, vL eI l), (6, vI l.length), (7, vI k)], []⟩ (sb rfl rfl rfl) rfl ?_
  refine mv rfl ?_
  refine RO (Body.neq rfl rfl) ?_
  refine RN ?_
  refine Ap rfl ?_
  refine TK.norm ⟨[(4, vI (List.getD l k 0)), (5, vL eI l), (6, vI l.length), (7, vI k), (12, vB (decide ((List.getD l k 0) ≠ 0)))], []⟩ (sb rfl rfl rfl) ?_
  refine TK.condP rfl (fun h2 => ?_) (fun h2 => ?_)
  ·
   refine At rfl ?_
   refine NR ⟨[(4, vI (List.getD l k 0))], []⟩ (sb rfl rfl rfl) rfl ?_
   refine mv rfl ?_
   refine ag rfl ?_
   refine RN ?_
   refine Ap rfl ?_
   refine TK.ret ?_
   refine PK.ret ?_
   refine leaf (val0 := vI (List.getD l k 0)) (by kernel_rfl) ?_
   exact li (by (rw [hI0.2, drop_at l k 0 (by omega), firstF, if_neg (by omega)]))
  ·
   refine At rfl ?_
   refine NR ⟨[(5, vL eI l), (6, vI l.length), (7, vI k)], []⟩ (sb rfl rfl rfl) rfl ?_
   refine RO (Body.add rfl rfl (by unfold R64; omega)) ?_
   refine mv rfl ?_
   refine RN ?_
   refine Aq rfl ?_
   refine PK.lp ?_
   refine LP.mk (k + 1) ?_ ?_ (sb rfl rfl rfl)
   · show (k + 1) ≤ l.length ∧ firstF l = firstF (List.drop (k + 1) l)
     refine ⟨by omega, ?_⟩; rw [hI0.2, drop_at l k 0 (by omega), firstF, if_pos (by omega)]
   · show l.length - (k + 1) < l.length - k
     omega
 ·
  refine At rfl ?_
  refine TK.exit ?_
  refine PK.exit rfl ?_
  refine Ap rfl ?_
  refine NR ⟨[], []⟩ (sb rfl rfl rfl) rfl ?_
  refine ag rfl ?_
  refine RN ?_
  refine Ap rfl ?_
  refine TK.ret ?_
  refine PK.ret ?_
  refine leaf (val0 := vI 0) (by kernel_rfl) ?_
  exact li (by (rw [hI0.2, List.drop_eq_nil_of_le (by omega)]; rfl))
end Go.Lens.Tb
end
section
namespace Go.Lens.Tb
set_option linter.unusedSectionVars false
theorem bnot_t {b : Bool} (h : (!b) = true) : b = false := by cases b <;> first | rfl | cases h
theorem bnot_f {b : Bool} (h : (!b) = false) : b = true := by cases b <;> first | rfl | cases h
def letterF (c : Int) : Bool := (decide (97 ≤ c) && decide (c ≤ 122)) || (decide (65 ≤ c) && decide (c ≤ 90))
def nameAt (i : Nat) (c : Int) : Bool := letterF c || (!decide ((i : Int) = 0) && ((decide (48 ≤ c) && decide (c ≤ 57)) || decide (c = 95)))
def isNameF (s : ByteArray) : Bool := decide (1 ≤ s.size) && decide (s.size ≤ 24) && (List.range s.size).all fun i => nameAt i (byteAt s i)
theorem nm8 : ∀ a b c d z e f g : Bool, (bif !(bif (bif a then b else false) then true else (bif c then d else false)) then (bif z then true else !(bif (bif e then f else false) then true else g)) else false) = !(((a && b) || (c && d)) || (!z && ((e && f) || g))) := by decide
theorem isName_no {s : ByteArray} (k : Nat) (hk : k < s.size) (h : nameAt k (byteAt s k) = false) : isNameF s = false := by
  unfold isNameF
  have : ((List.range s.size).all fun i => nameAt i (byteAt s i)) = false := by
    rw [List.all_eq_false]
    exact ⟨k, List.mem_range.2 hk, by simp [h]⟩
  rw [this, Bool.and_false]
theorem isName_yes {s : ByteArray} (h1 : 1 ≤ s.size) (h2 : s.size ≤ 24) (h : ∀ j, j < s.size → nameAt j (byteAt s j) = true) : isNameF s = true := by
  unfold isNameF
  rw [decide_eq_true h1, decide_eq_true h2]
  simp only [Bool.true_and, List.all_eq_true, List.mem_range]
  exact h
theorem isName_len {s : ByteArray} (h : s.size < 1 ∨ 24 < s.size) : isNameF s = false := by
  unfold isNameF
  rcases h with h | h
  · rw [decide_eq_false (by omega)]; simp
  · rw [decide_eq_false (p := s.size ≤ 24) (by omega)]; simp
def findI {α : Type} (p : α → Bool) : List α → Int
  | [] => -1
  | a :: l => bif p a then 0 else (bif decide (findI p l < 0) then -1 else findI p l + 1)
section
variable {α : Type} {p : α → Bool} {z : α}
theorem findI_none : ∀ {l : List α}, (∀ j, j < l.length → p (l.getD j z) = false) → findI p l = -1
  | [], _ => rfl
  | a :: l, h => by
    have h0 := h 0 (by simp)
    have h1 := findI_none (l := l) fun j hj => h (j + 1) (by simpa using hj)
    simp only [List.getD_cons_zero] at h0
    simp [findI, h0, h1]
theorem findI_some : ∀ {l : List α} (k : Nat), k < l.length → (∀ j, j < k → p (l.getD j z) = false) → p (l.getD k z) = true → findI p l = k
  | [], k, hk, _, _ => by simp at hk
  | a :: l, 0, _, _, h => by
    simp only [List.getD_cons_zero] at h
    simp [findI, h]
  | a :: l, k + 1, hk, hj, h => by
    have h0 := hj 0 (by omega)
    have h1 := findI_some (l := l) k (by simpa using hk) (fun j hj' => hj (j + 1) (by omega)) h
    simp only [List.getD_cons_zero] at h0
    simp only [findI, h0, h1, cond_false]
    rw [decide_eq_false (by omega)]; simp
theorem findI_nonneg : ∀ (l : List α), decide (0 ≤ findI p l) = l.any p
  | [] => rfl
  | a :: l => by
    have ih := findI_nonneg l
    simp only [findI, List.any_cons]
    by_cases hp : p a = true
    · simp only [hp, cond_true, Bool.true_or]; rfl
    · rw [Bool.not_eq_true] at hp
      simp only [hp, cond_false, Bool.false_or]
      rw [← ih]
      by_cases h : findI p l < 0
      · rw [decide_eq_true h, decide_eq_false (p := 0 ≤ findI p l) (by omega)]; rfl
      · rw [decide_eq_false h, decide_eq_true (p := 0 ≤ findI p l) (by omega)]
        exact decide_eq_true (by simp only [cond_false]; omega)
end
theorem any_getD_none {α : Type} {p : α → Bool} {l : List α} (z : α) (h : ∀ j, j < l.length → p (l.getD j z) = false) : l.any p = false := by
  rw [List.any_eq_false]
  intro a ha
  obtain ⟨j, hj, rfl⟩ := List.getElem_of_mem ha
  have := h j hj
  rw [List.getD_eq_getElem?_getD, List.getElem?_eq_getElem hj] at this
  simpa using this
def inRangeF (t : Tgt) : Bool := !outF t.bright 1 1000 && !outF t.place 0 360 && !outF t.length 1 1440 && !outF t.from_ 0 1440 && !outF t.to 0 1440 && !outF t.limit 0 100
def chkNightF (start : Int) (W : List Int) : Int := bif outF start 0 1440 then 3 else bif decide (W.length = 0) then 12 else bif decide (24 < W.length) then 5 else bif W.any (fun x => outF x 0 100) then 3 else 0
def chkOne (pre : List Tgt) (t : Tgt) : Int := bif !isNameF t.name then 8 else bif pre.any (fun o => decide (o.name = t.name)) then 9 else bif !inRangeF t then 3 else 0
def chkGo : List Tgt → List Tgt → Int
  | _, [] => 0
  | pre, t :: r => if chkOne pre t = 0 then chkGo (pre ++ [t]) r else chkOne pre t
def chkTgtsF (l : List Tgt) : Int := bif decide (32 < l.length) then 5 else chkGo [] l
def ordOne (n : Int) (pre : List Int) (i : Int) : Int := bif outF i 0 (n - 1) then 10 else bif pre.any (fun j => decide (j = i)) then 9 else 0
def ordGo (n : Int) : List Int → List Int → Int
  | _, [] => 0
  | pre, t :: r => if ordOne n pre t = 0 then ordGo n (pre ++ [t]) r else ordOne n pre t
def chkOrdF (n : Int) (o : List Int) : Int := ordGo n [] o
def calmM (W : List Int) (lim b : Int) (n : Nat) : Bool := (List.range n).all fun j => decide (W.getD ((b + (j : Int)) / 60).toNat 0 ≤ lim)
def canF (W : List Int) (t : Tgt) (b : Int) : Bool := !(decide (b < t.from_)) && !(decide (t.to < b + t.length)) && !(decide (60 * (W.length : Int) < b + t.length)) && calmM W t.limit b t.length.toNat
def searchF (p : Int → Bool) (b : Int) : Nat → Int
  | 0 => -1
  | n + 1 => bif p b then b else searchF p (b + 1) n
def begF (W : List Int) (t : Tgt) (e : Int) : Int := searchF (canF W t) e (1441 - e).toNat
def shortN (W : List Int) : Bool := decide ((W.length : Int) ≤ 6) || (decide (24 < (W.length : Int)) && decide ((W.length : Int) ≤ 26))
def shortT (l : List Tgt) (k limit : Int) : Bool := bif ((decide (k < (l.length : Int)) && decide ((l.length : Int) ≤ limit)) || decide (34 < (l.length : Int))) then false else l.all fun t => decide (t.name.size ≤ 40)
def tlGo (W : List Int) (l : List Tgt) : Option Tgt → Int → List Int → Option (List Int)
  | _, _, [] => some []
  | prev, at_, i :: r =>
    let t := l.getD i.toNat default
    let b := begF W t (match prev with | none => at_ | some p => at_ + apartF t.place p.place)
    if b < 0 then none else (tlGo W l (some t) (b + t.length) r).map (b :: ·)
def tlF (start : Int) (W : List Int) (l : List Tgt) (order : List Int) : Option (List Int) := tlGo W l none start order
end Go.Lens.Tb
end
section
namespace Go.Lens.Tb
open Go.Proofs
variable [Lz]
set_option linter.unusedSectionVars false
set_option maxRecDepth 100000
attribute [local irreducible] TK PK T RG EfR Body
theorem ag9 : aggT tab 9 = some false := by kernel_rfl
theorem sz9 : szT tab 9 = some 1 := by kernel_rfl
theorem un9 : tab.underlying 9 = some (.string) := by kernel_rfl
theorem w94 (s : ByteArray) : CallOk Tryz.prog 94 [vS s] (lookM []) (vB (isNameF s)) [] := by
 haveI := tab_ok
 obtain ⟨fn, f1, f2, f3, f4, _, f6⟩ := qf94
 refine callOk_of (Y := tab) (F := fn94) f1 (f2.trans rfl) f3 f4 f6 (Nat.le_of_ble_eq_true rfl) rfl ?_
 clear f1 f2 f3 f4 f6
 show TK _ _ _ _ _ _ ⟨[(0, vS s)], []⟩
 refine At rfl ?_
 refine NR ⟨[(0, vS s)], []⟩ (sb rfl rfl rfl) rfl ?_
 refine ag rfl ?_
 refine RN ?_
 refine Ap rfl ?_
 refine NR ⟨[(0, vS s)], []⟩ (sb rfl rfl rfl) rfl ?_
 refine mv rfl ?_
 refine RO (Body.lenS rfl un9) ?_
 refine RO (Body.lss rfl rfl) ?_
 refine mv rfl ?_
 refine RG.cons (EfR.sym rfl (fun hc => Body.move rfl) rfl) ?_
 refine RG.cons (EfR.sym rfl (fun hc => Body.lenS (ev1_gd rfl hc) un9) rfl) ?_
 refine RG.cons (EfR.sym rfl (fun hc => Body.gtr (ev1_gd rfl hc) rfl) rfl) ?_
 refine RO (Body.pick rfl rfl rfl rfl (gdB rfl) (pick_or _)) ?_
 refine RN ?_
 refine Ap rfl ?_
 refine TK.norm ⟨[(0, vS s), (13, vB (bif (decide (((ByteArray.size s : Nat) : Int) < 1)) then true else (decide (24 < ((ByteArray.size s : Nat) : Int)))))], []⟩ (sb rfl rfl rfl) ?_
 refine TK.cond rfl (fun h1 => ?_) (fun h1 => ?_)
 ·
  refine At rfl ?_
  refine NR ⟨[], []⟩ (sb rfl rfl rfl) rfl ?_
  refine ag rfl ?_
  refine RN ?_
  refine Ap rfl ?_
  refine TK.ret ?_
  refine PK.ret ?_
  refine leaf (val0 := vB false) (by kernel_rfl) ?_
  exact lb (by (refine (isName_len ?_).symm; simp only [bif_or, Bool.or_eq_true, decide_eq_true_eq] at h1; omega))
 ·
  refine At rfl ?_
  refine NR ⟨[(0, vS s)], []⟩ (sb rfl rfl rfl) rfl ?_
  refine ag rfl ?_
  refine RN ?_
  refine Ap rfl ?_
  refine TK.loop (α := Nat) (fun x => ⟨[(0, vS s), (3, vI x)], []⟩) (fun x => x ≤ ByteArray.size s ∧ 1 ≤ ByteArray.size s ∧ ByteArray.size s ≤ 24 ∧ ∀ j, j < x → nameAt j (byteAt s j) = true) (fun x => ByteArray.size s - x) 0 ?_ (sb rfl rfl rfl) ?_
  · show 0 ≤ ByteArray.size s ∧ 1 ≤ ByteArray.size s ∧ ByteArray.size s ≤ 24 ∧ ∀ j, j < 0 → nameAt j (byteAt s j) = true
    simp only [bif_or, Bool.or_eq_false_iff, decide_eq_false_iff_not] at h1; exact ⟨by omega, by omega, by omega, fun j hj => by omega⟩
  rintro k hI0
  replace hI0 : k ≤ ByteArray.size s ∧ 1 ≤ ByteArray.size s ∧ ByteArray.size s ≤ 24 ∧ ∀ j, j < k → nameAt j (byteAt s j) = true := hI0
  show TK _ _ _ _ _ _ ⟨[(0, vS s), (3, vI k)], []⟩
  refine At rfl ?_
  refine NR ⟨[(0, vS s), (3, vI k)], []⟩ (sb rfl rfl rfl) rfl ?_
  refine mv rfl ?_
  refine mv rfl ?_
  refine RO (Body.lenS rfl un9) ?_
  refine RO (Body.lss rfl rfl) ?_
  refine RN ?_
  refine Ap rfl ?_
  refine TK.norm ⟨[(0, vS s), (3, vI k), (17, vB (decide ((k : Int) < ((ByteArray.size s : Nat) : Int))))], []⟩ (sb rfl rfl rfl) ?_
  refine TK.condP rfl (fun h2 => ?_) (fun h2 => ?_)
  ·
   refine At rfl ?_
   refine NR ⟨[(0, vS s), (3, vI k)], []⟩ (sb rfl rfl rfl) rfl ?_
   refine mv rfl ?_
   refine mv rfl ?_
   refine RO (Body.sidx (i := k) rfl rfl un9 rfl (by omega)) ?_
   refine ag rfl ?_
   refine RN ?_
   refine Ap rfl ?_
   refine NR ⟨[(0, vS s), (3, vI k), (4, .pv (.lit (.int .u8 (byteAt s k))))], []⟩ (sb rfl rfl rfl) rfl ?_
   refine mv rfl ?_
   refine RO (Body.geq rfl rfl) ?_
   refine mv rfl ?_
   refine RG.cons (EfR.sym rfl (fun hc => Body.move rfl) rfl) ?_
   refine RG.cons (EfR.sym rfl (fun hc => Body.leq (ev1_gd rfl hc) rfl) rfl) ?_
   refine RO (Body.pick rfl rfl rfl (gdB rfl) rfl (pick_and _)) ?_
   refine mv rfl ?_
   refine RG.cons (EfR.sym rfl (fun hc => Body.move rfl) rfl) ?_
   refine RG.cons (EfR.sym rfl (fun hc => Body.geq (ev1_gd rfl hc) rfl) rfl) ?_
   refine RG.cons (EfR.sym rfl (fun hc => Body.move (ev1_gd rfl hc)) rfl) ?_
   refine RG.cons (EfR.sym rfl (fun hc => Body.move rfl) rfl) ?_
   refine RG.cons (EfR.sym rfl (fun hc => Body.leq (ev1_gd rfl hc) rfl) rfl) ?_
   refine RG.cons (EfR.sym rfl (fun hc => Body.pick (ev1_gd rfl hc) rfl rfl (gdB rfl) rfl (pick_and2 hc)) rfl) ?_
   refine RO (Body.pick rfl rfl rfl rfl (gdB rfl) (pick_or _)) ?_
   refine ag rfl ?_
   refine RN ?_
   refine Ap rfl ?_
   refine NR ⟨[(0, vS s), (3, vI k), (4, .pv (.lit (.int .u8 (byteAt s k)))), (5, vB (bif (bif (decide (97 ≤ (byteAt s k))) then (decide ((byteAt s k) ≤ 122)) else false) then true else (bif (decide (65 ≤ (byteAt s k))) then (decide ((byteAt s k) ≤ 90)) else false)))], []⟩ (sb rfl rfl rfl) rfl ?_
   refine mv rfl ?_
   refine RO (Body.not rfl) ?_
   refine mv rfl ?_
   refine RG.cons (EfR.sym rfl (fun hc => Body.move rfl) rfl) ?_
   refine RG.cons (EfR.sym rfl (fun hc => Body.eql (ev1_gd rfl hc) rfl) rfl) ?_
   refine RG.cons (EfR.sym rfl (fun hc => Body.move (ev1_gd rfl hc)) rfl) ?_
   refine RG.cons (EfR.sym rfl (fun hc => Body.move rfl) rfl) ?_
   refine RG.cons (EfR.sym rfl (fun hc => Body.geq (ev1_gd rfl hc) rfl) rfl) ?_
   refine RG.cons (EfR.sym rfl (fun hc => Body.move (ev1_gd rfl hc)) rfl) ?_
   refine RG.cons (EfR.sym rfl (fun hc => Body.move rfl) rfl) ?_
   refine RG.cons (EfR.sym rfl (fun hc => Body.leq (ev1_gd rfl hc) rfl) rfl) ?_
   refine RG.cons (EfR.sym rfl (fun hc => Body.pick (ev1_gd rfl hc) rfl rfl (gdB rfl) rfl (pick_and2 hc)) rfl) ?_
   refine RG.cons (EfR.sym rfl (fun hc => Body.move (ev1_gd rfl hc)) rfl) ?_
   refine RG.cons (EfR.sym rfl (fun hc => Body.move rfl) rfl) ?_
   refine RG.cons (EfR.sym rfl (fun hc => Body.eql (ev1_gd rfl hc) rfl) rfl) ?_
   refine RG.cons (EfR.sym rfl (fun hc => Body.pick (ev1_gd rfl hc) rfl rfl rfl (gdB rfl) (pick_or2 hc)) rfl) ?_
   refine RG.cons (EfR.sym rfl (fun hc => Body.not (ev1_gd rfl hc)) rfl) ?_
   refine RG.cons (EfR.sym rfl (fun hc => Body.pick (ev1_gd rfl hc) rfl rfl rfl (gdB rfl) (pick_or2 hc)) rfl) ?_
   refine RO (Body.pick rfl rfl rfl (gdB rfl) rfl (pick_and _)) ?_
   refine RN ?_
   refine Ap rfl ?_
   refine TK.norm ⟨[(0, vS s), (3, vI k), (55, vB (bif (!(bif (bif (decide (97 ≤ (byteAt s k))) then (decide ((byteAt s k) ≤ 122)) else false) then true else (bif (decide (65 ≤ (byteAt s k))) then (decide ((byteAt s k) ≤ 90)) else false))) then (bif (decide ((k : Int) = 0)) then true else (!(bif (bif (decide (48 ≤ (byteAt s k))) then (decide ((byteAt s k) ≤ 57)) else false) then true else (decide ((byteAt s k) = 95))))) else false))], []⟩ (sb rfl rfl rfl) ?_
   refine TK.cond rfl (fun h3 => ?_) (fun h3 => ?_)
   ·
    refine At rfl ?_
    refine NR ⟨[], []⟩ (sb rfl rfl rfl) rfl ?_
    refine ag rfl ?_
    refine RN ?_
    refine Ap rfl ?_
    refine TK.ret ?_
    refine PK.ret ?_
    refine leaf (val0 := vB false) (by kernel_rfl) ?_
    exact lb (by (exact (isName_no k (by omega) (bnot_t ((nm8 _ _ _ _ _ _ _ _).symm.trans h3))).symm))
   ·
    refine At rfl ?_
    refine NR ⟨[(0, vS s), (3, vI k)], []⟩ (sb rfl rfl rfl) rfl ?_
    refine mv rfl ?_
    refine RO (Body.add rfl rfl (by unfold R64; omega)) ?_
    refine ag rfl ?_
    refine RN ?_
    refine Aq rfl ?_
    refine PK.lp ?_
    refine LP.mk (k + 1) ?_ ?_ (sb rfl rfl rfl)
    · show (k + 1) ≤ ByteArray.size s ∧ 1 ≤ ByteArray.size s ∧ ByteArray.size s ≤ 24 ∧ ∀ j, j < (k + 1) → nameAt j (byteAt s j) = true
      refine ⟨by omega, hI0.2.1, hI0.2.2.1, fun j hj => ?_⟩; rcases Nat.lt_succ_iff_lt_or_eq.1 hj with h | h; exact hI0.2.2.2 j h; subst h; exact bnot_f ((nm8 _ _ _ _ _ _ _ _).symm.trans h3)
    · show ByteArray.size s - (k + 1) < ByteArray.size s - k
      omega
  ·
   refine At rfl ?_
   refine TK.exit ?_
   refine PK.exit rfl ?_
   refine Ap rfl ?_
   refine NR ⟨[], []⟩ (sb rfl rfl rfl) rfl ?_
   refine ag rfl ?_
   refine RN ?_
   refine Ap rfl ?_
   refine TK.ret ?_
   refine PK.ret ?_
   refine leaf (val0 := vB true) (by kernel_rfl) ?_
   exact lb (by exact (isName_yes hI0.2.1 hI0.2.2.1 fun j hj => hI0.2.2.2 j (by omega)).symm)
end Go.Lens.Tb
end
section
namespace Go.Lens.Tb
open Go.Proofs
variable [Lz]
set_option linter.unusedSectionVars false
set_option maxRecDepth 100000
attribute [local irreducible] TK PK T RG EfR Body
end Go.Lens.Tb
end
section
namespace Go.Lens.Tb
open Go.Proofs
variable [Lz]
set_option linter.unusedSectionVars false
set_option maxRecDepth 100000
attribute [local irreducible] TK PK T RG EfR Body
end Go.Lens.Tb
end
section
namespace Go.Lens.Tb
set_option linter.unusedSectionVars false
abbrev VT (t : Tgt) : Prop := 1 ≤ t.bright ∧ t.bright ≤ 1000 ∧ 0 ≤ t.place ∧ t.place ≤ 360 ∧ 1 ≤ t.length ∧ t.length ≤ 1440 ∧ 0 ≤ t.from_ ∧ t.from_ ≤ 1440 ∧ 0 ≤ t.to ∧ t.to ≤ 1440 ∧ 0 ≤ t.limit ∧ t.limit ≤ 100
abbrev VI (l : List Tgt) (n : Int) : Prop := 0 ≤ n ∧ n < (l.length : Int) ∧ VT (l.getD n.toNat default)
theorem getD_mem {α : Type} {l : List α} {k : Nat} {z : α} (h : k < l.length) : l.getD k z ∈ l := by
  rw [List.getD_eq_getElem?_getD, List.getElem?_eq_getElem h]; exact List.getElem_mem h
def prevT (l : List Tgt) (o : List Int) (i : Nat) : Option Tgt := if i = 0 then none else some (l.getD (o.getD (i - 1) 0).toNat default)
def startA (prev : Option Tgt) (t : Tgt) (a : Int) : Int := match prev with | none => a | some p => a + apartF t.place p.place
end Go.Lens.Tb
end
section
namespace Go.Lens.Tb
open Go.Proofs
variable [Lz]
set_option linter.unusedSectionVars false
set_option maxRecDepth 100000
attribute [local irreducible] TK PK T RG EfR Body
theorem by3 : ty3.info.bytes = 8 := by kernel_rfl
theorem in3 : tab.info? 3 = some ty3.info := by kernel_rfl
end Go.Lens.Tb
end
section
namespace Go.Lens.Tb
set_option linter.unusedSectionVars false
theorem byteAt_get {s : ByteArray} {p : Nat} (h : p < s.size) : byteAt s p = ((s[p]'h).toNat : Int) := by
  unfold byteAt
  have h' : p < s.data.toList.length := by simpa using h
  rw [List.getD_eq_getElem?_getD, List.getElem?_eq_getElem h']
  simp [ByteArray.getElem_eq_getElem_data]
theorem nameAt_high {p : Nat} {c : Int} (h : 128 ≤ c) : nameAt p c = false := by
  unfold nameAt letterF
  rw [decide_eq_false (p := c ≤ 122) (by omega), decide_eq_false (p := c ≤ 90) (by omega), decide_eq_false (p := c ≤ 57) (by omega), decide_eq_false (p := c = 95) (by omega)]
  simp
theorem rune_name {s : ByteArray} {p : Nat} (h : p < s.size) : nameAt p (((Utf8.decode s p).1 : Nat) : Int) = nameAt p (byteAt s p) ∧ (nameAt p (byteAt s p) = true → (Utf8.decode s p).2 = 1) := by
  rw [byteAt_get h]
  rcases Nat.lt_or_ge (s[p]'h).toNat 128 with ha | ha
  · rw [decode_ascii s p h ha]
    exact ⟨rfl, fun _ => rfl⟩
  · have := decode_high s p h ha
    rw [nameAt_high (by omega), nameAt_high (by omega)]
    exact ⟨rfl, fun h => by cases h⟩
theorem nm8r : ∀ L z n95 l48 g57 : Bool, (bif !L then (bif z then true else (bif n95 then (bif l48 then true else g57) else false)) else false) = !(L || (!z && ((!l48 && !g57) || !n95))) := by decide
theorem nameAt_r (p : Nat) (c : Int) : (letterF c || (!decide ((p : Int) = 0) && ((!decide (c < 48) && !decide (57 < c)) || !decide (c ≠ 95)))) = nameAt p c := by
  unfold nameAt
  congr 2
  have h1 : (!decide (c < 48)) = decide (48 ≤ c) := by rw [Bool.eq_iff_iff]; simp
  have h2 : (!decide (57 < c)) = decide (c ≤ 57) := by rw [Bool.eq_iff_iff]; simp
  have h3 : (!decide (c ≠ 95)) = decide (c = 95) := by rw [Bool.eq_iff_iff]; simp
  rw [h1, h2, h3]
theorem rune_cond {s : ByteArray} {p : Nat} (h : p < s.size) {c : Int} (hc : c = (((Utf8.decode s p).1 : Nat) : Int)) {b : Bool}
    (hb : (bif !(letterF c) then (bif decide ((p : Int) = 0) then true else (bif decide (c ≠ 95) then (bif decide (c < 48) then true else decide (57 < c)) else false)) else false) = b) : nameAt p (byteAt s p) = !b := by
  rw [nm8r, nameAt_r, hc, (rune_name h).1] at hb
  rw [← hb, Bool.not_not]
theorem empty_iff {s : ByteArray} : s = ⟨#[]⟩ ↔ s.size = 0 := by
  constructor
  · rintro rfl; rfl
  · intro h; exact ByteArray.ext (Array.eq_empty_of_size_eq_zero h)
theorem first_one (pre : List Tgt) (t : Tgt) : firstF [whenF (!isNameF t.name) 8, whenF (pre.any fun o => decide (o.name = t.name)) 9, whenF (!inRangeF t) 3] = chkOne pre t := by
  unfold chkOne whenF
  cases isNameF t.name <;> cases (pre.any fun o => decide (o.name = t.name)) <;> cases inRangeF t <;> rfl
end Go.Lens.Tb
end
section
namespace Go.Lens.Tb
open Go.Proofs
variable [Lz]
set_option linter.unusedSectionVars false
set_option maxRecDepth 100000
attribute [local irreducible] TK PK T RG EfR Body
theorem w241 (c : Int) : CallOk Tryz.prog 241 [.pv (.lit (.int .i32 c))] (lookM []) (vB (letterF c)) [] := by
 haveI := tab_ok
 obtain ⟨fn, f1, f2, f3, f4, _, f6⟩ := qf241
 refine callOk_of (Y := tab) (F := fn241) f1 (f2.trans rfl) f3 f4 f6 (Nat.le_of_ble_eq_true rfl) rfl ?_
 clear f1 f2 f3 f4 f6
 show TK _ _ _ _ _ _ ⟨[(0, .pv (.lit (.int .i32 c)))], []⟩
 refine At rfl ?_
 refine NR ⟨[(0, .pv (.lit (.int .i32 c)))], []⟩ (sb rfl rfl rfl) rfl ?_
 refine ag rfl ?_
 refine RN ?_
 refine Ap rfl ?_
 refine NR ⟨[(0, .pv (.lit (.int .i32 c)))], []⟩ (sb rfl rfl rfl) rfl ?_
 refine mv rfl ?_
 refine RO (Body.geq rfl rfl) ?_
 refine mv rfl ?_
 refine RG.cons (EfR.sym rfl (fun hc => Body.move rfl) rfl) ?_
 refine RG.cons (EfR.sym rfl (fun hc => Body.leq (ev1_gd rfl hc) rfl) rfl) ?_
 refine RO (Body.pick rfl rfl rfl (gdB rfl) rfl (pick_and _)) ?_
 refine mv rfl ?_
 refine RG.cons (EfR.sym rfl (fun hc => Body.move rfl) rfl) ?_
 refine RG.cons (EfR.sym rfl (fun hc => Body.geq (ev1_gd rfl hc) rfl) rfl) ?_
 refine RG.cons (EfR.sym rfl (fun hc => Body.move (ev1_gd rfl hc)) rfl) ?_
 refine RG.cons (EfR.sym rfl (fun hc => Body.move rfl) rfl) ?_
 refine RG.cons (EfR.sym rfl (fun hc => Body.leq (ev1_gd rfl hc) rfl) rfl) ?_
 refine RG.cons (EfR.sym rfl (fun hc => Body.pick (ev1_gd rfl hc) rfl rfl (gdB rfl) rfl (pick_and2 hc)) rfl) ?_
 refine RO (Body.pick rfl rfl rfl rfl (gdB rfl) (pick_or _)) ?_
 refine ag rfl ?_
 refine RN ?_
 refine Ap rfl ?_
 refine TK.ret ?_
 refine PK.ret ?_
 refine leaf (val0 := vB (bif (bif (decide (97 ≤ c)) then (decide (c ≤ 122)) else false) then true else (bif (decide (65 ≤ c)) then (decide (c ≤ 90)) else false))) (by kernel_rfl) ?_
 exact lb (by simp only [letterF, bif_or, bif_and])
theorem w164 (s : ByteArray) : CallOk Tryz.prog 164 [vS s] (lookM []) (vB (isNameF s)) [] := by
 haveI := tab_ok
 obtain ⟨fn, f1, f2, f3, f4, _, f6⟩ := qf164
 refine callOk_of (Y := tab) (F := fn164) f1 (f2.trans rfl) f3 f4 f6 (Nat.le_of_ble_eq_true rfl) rfl ?_
 clear f1 f2 f3 f4 f6
 show TK _ _ _ _ _ _ ⟨[(0, vS s)], []⟩
 refine At rfl ?_
 refine NR ⟨[(0, vS s)], []⟩ (sb rfl rfl rfl) rfl ?_
 refine ag rfl ?_
 refine RN ?_
 refine Ap rfl ?_
 refine NR ⟨[(0, vS s)], []⟩ (sb rfl rfl rfl) rfl ?_
 refine mv rfl ?_
 refine RO (Body.rangeS rfl un9 rfl rfl) ?_
 refine RN ?_
 refine Ap rfl ?_
 refine TK.loop (α := Nat) (fun x => ⟨[(0, vS s), (6, .bref 7 0)], [(7, .siter s x)]⟩) (fun x => x ≤ ByteArray.size s ∧ ∀ j, j < x → nameAt j (byteAt s j) = true) (fun x => ByteArray.size s - x) 0 ?_ (sb rfl rfl rfl) ?_
 · show 0 ≤ ByteArray.size s ∧ ∀ j, j < 0 → nameAt j (byteAt s j) = true
   exact ⟨Nat.zero_le _, fun j hj => by omega⟩
 rintro p hI0
 replace hI0 : p ≤ ByteArray.size s ∧ ∀ j, j < p → nameAt j (byteAt s j) = true := hI0
 show TK _ _ _ _ _ _ ⟨[(0, vS s), (6, .bref 7 0)], [(7, .siter s p)]⟩
 refine At rfl ?_
 refine NR ⟨[(0, vS s), (6, .bref 7 0)], [(7, .siter s p)]⟩ (sb rfl rfl rfl) rfl ?_
 refine RG.next rfl rfl rfl (fun h1 => ?_) (fun h1 => ?_)
 ·
  refine rn rfl ?_
  refine RN ?_
  refine Ap rfl ?_
  refine TK.norm ⟨[(0, vS s), (6, .bref 7 0), (7, .tup [vB true, vI p, .pv (.lit (.int .i32 (((Utf8.decode s p).1 : Nat) : Int)))]), (8, vB true)], [(7, .siter s (p + (Utf8.decode s p).2))]⟩ (sb rfl rfl rfl) ?_
  refine TK.condT rfl ?_
  refine At rfl ?_
  refine NR ⟨[(0, vS s), (6, .bref 7 0), (7, .tup [vB true, vI p, .pv (.lit (.int .i32 (((Utf8.decode s p).1 : Nat) : Int)))])], [(7, .siter s (p + (Utf8.decode s p).2))]⟩ (sb rfl rfl rfl) rfl ?_
  refine rn rfl ?_
  refine rn rfl ?_
  refine ag rfl ?_
  refine ag rfl ?_
  refine RN ?_
  refine Ap rfl ?_
  refine NR ⟨[(0, vS s), (3, vI p), (4, .pv (.lit (.int .i32 (((Utf8.decode s p).1 : Nat) : Int)))), (6, .bref 7 0)], [(7, .siter s (p + (Utf8.decode s p).2))]⟩ (sb rfl rfl rfl) rfl ?_
  refine mv rfl ?_
  refine RO (Body.call (w241 (((Utf8.decode s p).1 : Nat) : Int)) rfl rfl rfl) ?_
  refine RO (Body.not rfl) ?_
  refine mv rfl ?_
  refine RG.cons (EfR.sym rfl (fun hc => Body.move rfl) rfl) ?_
  refine RG.cons (EfR.sym rfl (fun hc => Body.eql (ev1_gd rfl hc) rfl) rfl) ?_
  refine RG.cons (EfR.sym rfl (fun hc => Body.move (ev1_gd rfl hc)) rfl) ?_
  refine RG.cons (EfR.sym rfl (fun hc => Body.move rfl) rfl) ?_
  refine RG.cons (EfR.sym rfl (fun hc => Body.neq (ev1_gd rfl hc) rfl) rfl) ?_
  refine RG.cons (EfR.sym rfl (fun hc => Body.move (ev1_gd rfl hc)) rfl) ?_
  refine RG.cons (EfR.sym rfl (fun hc => Body.move rfl) rfl) ?_
  refine RG.cons (EfR.sym rfl (fun hc => Body.lss (ev1_gd rfl hc) rfl) rfl) ?_
  refine RG.cons (EfR.sym rfl (fun hc => Body.move (ev1_gd rfl hc)) rfl) ?_
  refine RG.cons (EfR.sym rfl (fun hc => Body.move rfl) rfl) ?_
  refine RG.cons (EfR.sym rfl (fun hc => Body.gtr (ev1_gd rfl hc) rfl) rfl) ?_
  refine RG.cons (EfR.sym rfl (fun hc => Body.pick (ev1_gd rfl hc) rfl rfl rfl (gdB rfl) (pick_or2 hc)) rfl) ?_
  refine RG.cons (EfR.sym rfl (fun hc => Body.pick (ev1_gd rfl hc) rfl rfl (gdB rfl) rfl (pick_and2 hc)) rfl) ?_
  refine RG.cons (EfR.sym rfl (fun hc => Body.pick (ev1_gd rfl hc) rfl rfl rfl (gdB rfl) (pick_or2 hc)) rfl) ?_
  refine RO (Body.pick rfl rfl rfl (gdB rfl) rfl (pick_and _)) ?_
  refine RN ?_
  refine Ap rfl ?_
  refine TK.norm ⟨[(0, vS s), (6, .bref 7 0), (29, vB (bif (!(letterF (((Utf8.decode s p).1 : Nat) : Int))) then (bif (decide ((p : Int) = 0)) then true else (bif (decide ((((Utf8.decode s p).1 : Nat) : Int) ≠ 95)) then (bif (decide ((((Utf8.decode s p).1 : Nat) : Int) < 48)) then true else (decide (57 < (((Utf8.decode s p).1 : Nat) : Int)))) else false)) else false))], [(7, .siter s (p + (Utf8.decode s p).2))]⟩ (sb rfl rfl rfl) ?_
  refine TK.cond rfl (fun h2 => ?_) (fun h2 => ?_)
  ·
   refine At rfl ?_
   refine NR ⟨[], []⟩ (sb rfl rfl rfl) rfl ?_
   refine ag rfl ?_
   refine RN ?_
   refine Ap rfl ?_
   refine TK.ret ?_
   refine PK.ret ?_
   refine leaf (val0 := vB false) (by kernel_rfl) ?_
   exact lb (by first
          | exact (isName_no p h1 (rune_cond h1 rfl h2)).symm
          | (have he : p = ByteArray.size s := by omega
             rw [bif_and]
             by_cases h0 : ByteArray.size s = 0
             · rw [decide_eq_false (p := s ≠ ⟨#[]⟩) (fun h => h (empty_iff.2 h0)), isName_len (.inl (by omega))]; rfl
             · rw [decide_eq_true (p := s ≠ ⟨#[]⟩) (fun h => h0 (empty_iff.1 h))]
               by_cases h9 : ByteArray.size s ≤ 24
               · rw [decide_eq_true (by omega), isName_yes (by omega) h9 fun j hj => hI0.2 j (by omega)]; rfl
               · rw [decide_eq_false (by omega), isName_len (.inr (by omega))]; rfl))
  ·
   refine Au rfl ?_
   refine PK.lp ?_
   refine LP.mk (p + (Utf8.decode s p).2) ?_ ?_ (sb rfl rfl rfl)
   · show (p + (Utf8.decode s p).2) ≤ ByteArray.size s ∧ ∀ j, j < (p + (Utf8.decode s p).2) → nameAt j (byteAt s j) = true
     have hn := rune_cond h1 rfl h2; rw [(rune_name h1).2 hn]; refine ⟨by omega, fun j hj => ?_⟩; rcases Nat.lt_succ_iff_lt_or_eq.1 hj with h | h; exact hI0.2 j h; subst h; exact hn
   · show ByteArray.size s - (p + (Utf8.decode s p).2) < ByteArray.size s - p
     have hn := rune_cond h1 rfl h2; rw [(rune_name h1).2 hn]; omega
 ·
  refine rn rfl ?_
  refine RN ?_
  refine Ap rfl ?_
  refine TK.norm ⟨[(0, vS s), (6, .bref 7 0), (7, .tup [vB false]), (8, vB false)], [(7, .siter s p)]⟩ (sb rfl rfl rfl) ?_
  refine TK.condF rfl ?_
  refine At rfl ?_
  refine TK.exit ?_
  refine PK.exit rfl ?_
  refine Ap rfl ?_
  refine NR ⟨[(0, vS s)], []⟩ (sb rfl rfl rfl) rfl ?_
  refine mv rfl ?_
  refine RO (Body.sneq rfl rfl) ?_
  refine mv rfl ?_
  refine RG.cons (EfR.sym rfl (fun hc => Body.move rfl) rfl) ?_
  refine RG.cons (EfR.sym rfl (fun hc => Body.lenS (ev1_gd rfl hc) un9) rfl) ?_
  refine RG.cons (EfR.sym rfl (fun hc => Body.leq (ev1_gd rfl hc) rfl) rfl) ?_
  refine RO (Body.pick rfl rfl rfl (gdB rfl) rfl (pick_and _)) ?_
  refine ag rfl ?_
  refine RN ?_
  refine Ap rfl ?_
  refine TK.ret ?_
  refine PK.ret ?_
  refine leaf (val0 := vB (bif (decide (s ≠ ⟨#[]⟩)) then (decide (((ByteArray.size s : Nat) : Int) ≤ 24)) else false)) (by kernel_rfl) ?_
  exact lb (by first
          | exact (isName_no p h1 (rune_cond h1 rfl h2)).symm
          | (have he : p = ByteArray.size s := by omega
             rw [bif_and]
             by_cases h0 : ByteArray.size s = 0
             · rw [decide_eq_false (p := s ≠ ⟨#[]⟩) (fun h => h (empty_iff.2 h0)), isName_len (.inl (by omega))]; rfl
             · rw [decide_eq_true (p := s ≠ ⟨#[]⟩) (fun h => h0 (empty_iff.1 h))]
               by_cases h9 : ByteArray.size s ≤ 24
               · rw [decide_eq_true (by omega), isName_yes (by omega) h9 fun j hj => hI0.2 j (by omega)]; rfl
               · rw [decide_eq_false (by omega), isName_len (.inr (by omega))]; rfl))
theorem w104 (s : ByteArray) : CallOk Tryz.prog 104 [vS s] (lookM []) (vI (whenF (!(isNameF s)) 8)) [] := by
 haveI := tab_ok
 obtain ⟨fn, f1, f2, f3, f4, _, f6⟩ := qf104
 refine callOk_of (Y := tab) (F := fn104) f1 (f2.trans rfl) f3 f4 f6 (Nat.le_of_ble_eq_true rfl) rfl ?_
 clear f1 f2 f3 f4 f6
 show TK _ _ _ _ _ _ ⟨[(0, vS s)], []⟩
 refine At rfl ?_
 refine NR ⟨[(0, vS s)], []⟩ (sb rfl rfl rfl) rfl ?_
 refine ag rfl ?_
 refine RN ?_
 refine Ap rfl ?_
 refine NR ⟨[(0, vS s)], []⟩ (sb rfl rfl rfl) rfl ?_
 refine mv rfl ?_
 refine RO (Body.call (w164 s) rfl rfl rfl) ?_
 refine RO (Body.not rfl) ?_
 refine RO (Body.call (w101 (!(isNameF s)) 8) rfl rfl rfl) ?_
 refine ag rfl ?_
 refine RN ?_
 refine Ap rfl ?_
 refine TK.ret ?_
 refine PK.ret ?_
 refine leaf (val0 := vI (whenF (!(isNameF s)) 8)) (by kernel_rfl) ?_
 exact rfl
end Go.Lens.Tb
end
section
namespace Go.Lens.Tm
open Go.Lens.Tb Go.Proofs
set_option linter.unusedSectionVars false
def permI (c : Int) : Bool := (((((decide (97 ≤ c) && decide (c ≤ 122)) || (decide (65 ≤ c) && decide (c ≤ 90))) || (decide (48 ≤ c) && decide (c ≤ 57))) || decide (c = 46)) || decide (c = 45)) || decide (c = 47) || decide (c = 95)
def permS (s : List UInt8) : Bool := s.all fun b => permI (b.toNat : Int)
def chkF (f : Fld) : Int := bif !(isNameF (bsO f.1)) then 8 else bif decide (60 < f.2.length) then 26 else bif !(permS f.2) then 1 else 0
def ordB (l : List Fld) (i : Nat) : Bool := decide (0 < i) && leS (l.getD i ([], [])).1 (l.getD (i - 1) ([], [])).1
def fOne (l : List Fld) (i : Nat) : Int := if chkF (l.getD i ([], [])) = 0 then (bif ordB l i then 11 else 0) else chkF (l.getD i ([], []))
def fGo (l : List Fld) : Nat → Nat → Int
 | 0, _ => 0
 | n + 1, i => if fOne l i = 0 then fGo l n (i + 1) else fOne l i
def chkFl (l : List Fld) : Int := bif decide (24 < l.length) then 5 else fGo l l.length 0
def shortF (l : List Fld) (n : Int) : Bool := bif (decide (n < (l.length : Int)) && decide ((l.length : Int) ≤ 24)) || decide (26 < (l.length : Int)) then false else l.all fun f => decide (f.1.length ≤ 60) && decide (f.2.length ≤ 100)
theorem dne {α : Type} [DecidableEq α] (a b : α) : decide (a ≠ b) = !decide (a = b) := by rw [Bool.eq_iff_iff]; simp
end Go.Lens.Tm
end
section
namespace Go.Lens.Tm
open Go.Lens.Tb Go.Proofs
set_option linter.unusedSectionVars false
section
variable {l : List Fld} {k : Nat}
end
theorem eq_getD {α : Type} (z : α) {a b : List α} (h : a.length = b.length) (k : ∀ j, j < a.length → a.getD j z = b.getD j z) : a = b := by
 apply List.ext_getElem h
 intro i h1 h2
 have := k i h1
 rwa [List.getD_eq_getElem?_getD, List.getD_eq_getElem?_getD, List.getElem?_eq_getElem h1, List.getElem?_eq_getElem h2] at this
end Go.Lens.Tm
end
section
namespace Go.Lens.Tm
open Go.Lens.Tb Go.Proofs
variable [Lz]
set_option linter.unusedSectionVars false
set_option maxRecDepth 100000
attribute [local irreducible] TK PK T RG EfR Body
end Go.Lens.Tm
end
section
namespace Go.Lens.Tm
open Go.Lens.Tb Go.Proofs
set_option linter.unusedSectionVars false
end Go.Lens.Tm
end
section
namespace Go.Lens.Tm
open Go.Lens.Tb Go.Proofs
variable [Lz]
set_option linter.unusedSectionVars false
set_option maxRecDepth 100000
attribute [local irreducible] TK PK T RG EfR Body
end Go.Lens.Tm
end
section
namespace Go.Lens.Tm
open Go.Lens.Tb Go.Proofs
set_option linter.unusedSectionVars false
def insGo (x : List UInt8) : List (List UInt8) → List (List UInt8)
 | [] => [x]
 | y :: l => bif ltS y x then y :: insGo x l else x :: y :: l
def insS (x : List UInt8) (l : List (List UInt8)) : List (List UInt8) := bif List.any l (fun y => decide (y = x)) then l else insGo x l
def splGo : List UInt8 → List UInt8 → List (List UInt8)
 | acc, [] => [acc]
 | acc, c :: r => bif decide (((c.toNat : Nat) : Int) = 32) then acc :: splGo [] r else splGo (acc ++ [c]) r
def splS (s : List UInt8) : List (List UInt8) := splGo [] s
def SplI (s : List UInt8) (i f : Nat) (out : List (List UInt8)) : Prop := f ≤ i ∧ out.length ≤ i ∧ ((i ≤ s.length ∧ splS s = out ++ splGo ((s.take i).drop f) (s.drop i)) ∨ (i = s.length + 1 ∧ splS s = out))
def fldP (f : Fld) : List UInt8 := (f.1 ++ [61]) ++ f.2
def prtK (l : List Fld) : Nat → List UInt8
 | 0 => []
 | k + 1 => ((bif decide (0 < k) then prtK l k ++ [32] else prtK l k) ++ (l.getD k ([], [])).1 ++ [61]) ++ (l.getD k ([], [])).2
def prtF (l : List Fld) : List UInt8 := prtK l l.length
end Go.Lens.Tm
end
section
namespace Go.Lens.Tm
open Go.Lens.Tb Go.Proofs
variable [Lz]
set_option linter.unusedSectionVars false
set_option maxRecDepth 100000
attribute [local irreducible] TK PK T RG EfR Body
end Go.Lens.Tm
end
section
namespace Go.Lens.Tm
open Go.Lens.Tb Go.Proofs
set_option linter.unusedSectionVars false
def eL (l : List Fld) : List PV := [.slice (List.map eF l)]
def cutP : List UInt8 → Option Fld
 | [] => none
 | c :: r => bif decide (((c.toNat : Nat) : Int) = 61) then some ([], r) else (cutP r).map fun f => (c :: f.1, f.2)
def parGo : List (List UInt8) → Option (List Fld)
 | [] => some []
 | p :: r => match cutP p with
  | none => none
  | some f => (parGo r).map (f :: ·)
def parF (s : List UInt8) : List Fld × Int := if s = [] then ([], 0) else match parGo (splS s) with
 | none => ([], 25)
 | some l => if chkFl l = 0 then (l, 0) else ([], chkFl l)
def rmGo (B M T : List Fld) : List (List UInt8) → List Fld × List (List UInt8)
 | [] => ([], [])
 | x :: l =>
  let r := rmGo B M T l
  let g := if getF x M = getF x T then getF x M else if getF x M = getF x B then getF x T else getF x M
  (if g.isSome then (x, g.getD []) :: r.1 else r.1, if getF x M = getF x T ∨ getF x M = getF x B ∨ getF x T = getF x B then r.2 else x :: r.2)
def refNm (A : List Fld) : List (List UInt8) := A.foldl (fun n f => insS f.1 n) []
def refM (B M T : List Fld) : List Fld × List (List UInt8) :=
 if 0 < (rmGo B M T (refNm (B ++ M ++ T))).2.length then ([], (rmGo B M T (refNm (B ++ M ++ T))).2) else ((rmGo B M T (refNm (B ++ M ++ T))).1, [])
def mfG (e : Int) (r : List Fld × List (List UInt8)) : List Fld × List (List UInt8) × Int :=
 if e ≠ 0 then ([], [], e) else if 0 < r.2.length then ([], r.2, 29) else if 24 < r.1.length then ([], [], 5) else (r.1, [], 0)
end Go.Lens.Tm
end
section
namespace Go.Lens.Tm
open Go.Lens.Tb Go.Proofs
variable [Lz]
set_option linter.unusedSectionVars false
set_option maxRecDepth 100000
attribute [local irreducible] TK PK T RG EfR Body
end Go.Lens.Tm
end
section
namespace Go.Lens.Tm
open Go.Lens.Tb Go.Proofs
set_option linter.unusedSectionVars false
variable [Lz]
end Go.Lens.Tm
end
section
namespace Go.Lens
set_option linter.unusedSectionVars false
variable [Lz]
section
variable {P : Program} {Y : Tab} [TabOk P Y] {nb : Nat} {s : St} {dst : Option Tmp} {ty u : TypeId} {pos : String} {af : Array Edge} {gd : Option (Nat × Bool)} {t : TypeId} {x y z : Operand}
theorem Body.idxE {α : Type} {enc : α → List PV} {l : List α} {h v sz n : Nat} {k : IntKind} {m : Int} {e T : TypeId} (hx : ev1 s x = .aref h v) (hm : lookM s.ms h = some (.arr v sz T (l.map enc))) (hy : ev1 s y = lit (.int k m)) (und : Y.underlying t = some (.slice e)) (hs : szT Y e = some sz)
  (hn : m = (n : Int)) (hlt : n < l.length) : Body P Y nb s ⟨dst, .indexAddr t x y, ty, pos, af, gd⟩ (.eref h v n 0) [] [h] := by
 refine .inr (SBody.of fun σ G a w hv hl I => ?_)
 have hX := hv x (by simp [Op.operands])
 have hY := hv y (by simp [Op.operands])
 rw [hx] at hX; rw [hy] at hY
 have hlk : lookM σ.ms h = some (.arr v sz T (l.map enc)) := by rw [hl h (.inl (by simp))]; exact hm
 have hq : indexAddrW Y t (lookM σ.ms) (.aref h v) (lit (.int k m)) = some (true, .eref h v n 0) := by
  show indexAddrQ Y t (lookM σ.ms) (.aref h v) (lit (.int k m)) = _
  unfold indexAddrQ lit
  subst hn
  have : decide ((0 : Int) ≤ (n : Int) ∧ (n : Int) < ((l.map enc).length : Int)) = true := decide_eq_true ⟨by omega, by rw [List.length_map]; omega⟩
  simp only [und, hs, hlk, and_self, if_true, this, Int.toNat_natCast]
 obtain ⟨r, h1, h2⟩ := indexAddrW_sound (P := P) I.ctxS.sees hq hX hY
 refine ⟨r, w, G, .inl ?_, stepped_same I.ctxS h2 (fun k hk => ?_)⟩
 ·simp only [execOp, Sem.run_bind, h1, Result.andThen_ok, Sem.run_pure]
 ·simp only [DV.refs, List.mem_singleton] at hk; subst hk; exact ⟨_, hlk⟩
theorem Body.setE {α : Type} {enc : α → List PV} {l : List α} {z0 : α} {p : PV} {h v n : Nat} {T : TypeId} (hx : ev1 s x = .eref h v n 0) (hm : lookM s.ms h = some (.arr v 1 T (l.map enc))) (hy : ev1 s y = .pv p) (hz : enc z0 = [p]) (hc : cellsPV p = [p])
  (hs : szT Y t = some 1) (hlt : n < l.length) (hsz : ∀ a, (enc a).length = 1) : Body P Y nb s ⟨dst, .store t x y, ty, pos, af, gd⟩ .dead [(h, .arr v 1 T ((l.set n z0).map enc))] [h] := by
 refine .inr (SBody.of fun σ G a w hv hl I => ?_)
 have hX := hv x (by simp [Op.operands])
 have hY := hv y (by simp [Op.operands])
 rw [hx] at hX; rw [hy] at hY
 have hlk : lookM σ.ms h = some (.arr v 1 T (l.map enc)) := by rw [hl h (.inl (by simp))]; exact hm
 have C : Ctx G w (fun z => match z with | .tmp 0 => a.eval x | .tmp 1 => a.eval y | _ => undef) (fun z => match z with | .tmp 0 => .eref h v n 0 | .tmp 1 => .pv p | _ => .dead) (lookM σ.ms) (lookM σ.ms) := by
  refine I.mem.ctx2 (fun z => ?_) (fun z k hk => ?_)
  ·split
   ·exact hX
   ·exact hY
   ·simp only [RelDV]
  ·split at hk
   ·simp only [DV.refs, List.mem_singleton] at hk; subst hk; exact ⟨_, hlk⟩
   ·simp [DV.refs] at hk
   ·simp [DV.refs] at hk
 have hcv : storeV Y t (.eref h v n 0) (.pv p) (lookM σ.ms) = some ⟨true, .dead, [(h, .arr v 1 T ((l.set n z0).map enc))]⟩ := by
  unfold storeV
  have hp : pvOf (lookM σ.ms) (.pv p) = some p := rfl
  have hg : (l.map enc).getD n [] = enc (l[n]'hlt) := by rw [List.getD_eq_getElem?_getD, List.getElem?_map, List.getElem?_eq_getElem hlt]; rfl
  have hd : (enc (l[n]'hlt)).drop 1 = [] := List.drop_eq_nil_of_le (by rw [hsz]; omega)
  have hdec : decide (n < (l.map enc).length ∧ 0 + 1 ≤ 1) = true := decide_eq_true ⟨by rw [List.length_map]; exact hlt, by omega⟩
  simp only [hs, hlk, hp, hc, List.length_cons, List.length_nil, and_self, if_true, hg, List.take_zero, List.nil_append, Nat.zero_add, hd, List.append_nil, List.map_set, hz]
  have hdec2 : decide (n < (l.map enc).length ∧ 1 ≤ 1) = true := hdec
  simp only [List.length_map] at hdec2
  simp [hlt]
 obtain ⟨w', G', h1, h2⟩ := storeV_sound (P := P) C (t := t) (a := .tmp 0) (x := .tmp 1) hcv rfl
 refine ⟨undef, w', G', .inr ⟨?_, rfl⟩, h2⟩
 have lift : ∀ {q : Sem Unit} {w' : World}, q.run P w = .ok () w' → (do q; Pure.pure Next.skip : Sem Next).run P w = .ok .skip w' := by
  intro q w' h
  simp only [Sem.run_bind, h, Result.andThen_ok, Sem.run_pure]
 exact lift (q := Instr.storeAt _ _ _) h1
end
end Go.Lens
end
section
namespace Go.Lens.Tm
open Go.Lens.Tb Go.Proofs
set_option linter.unusedSectionVars false
variable [Lz]
def cut3 (s : List UInt8) (c : UInt8) : List UInt8 × List UInt8 × Bool := if Lib.indexByte s c < 0 then (s, [], false) else (s.take (Lib.indexByte s c).toNat, s.drop ((Lib.indexByte s c).toNat + 1), true)
def GsI (s : List UInt8) (n2 i : Nat) (a : List (List UInt8)) (q : List UInt8) : Prop := a.length = n2 ∧ q.length ≤ s.length ∧ i + List.count 32 q + 1 = n2 ∧ splS s = a.take i ++ splS q
end Go.Lens.Tm
end
section
namespace Go.Lens.Tm
open Go.Lens.Tb Go.Proofs
variable [Lz]
set_option linter.unusedSectionVars false
set_option maxRecDepth 100000
attribute [local irreducible] TK PK T RG EfR Body
end Go.Lens.Tm
end
section
namespace Go.Lens.Tm
open Go.Lens.Tb Go.Proofs
set_option linter.unusedSectionVars false
variable [Lz]
end Go.Lens.Tm
end
section
namespace Go.Lens.Tm
open Go.Lens.Tb Go.Proofs
variable [Lz]
set_option linter.unusedSectionVars false
set_option maxRecDepth 100000
attribute [local irreducible] TK PK T RG EfR Body
end Go.Lens.Tm
end
section
namespace Go.Lens.Tb
set_option linter.unusedSectionVars false
def badB (start : Int) (W : List Int) (t : Tgt) (e : Int) : Int := firstF [chkNightF start W, chkTgtsF [t], withinF e 0 1440]
def begT (start : Int) (W : List Int) (t : Tgt) (e : Int) : Int := if badB start W t e ≠ 0 then 0 else if begF W t e < 0 then 0 else begF W t e
def begE (start : Int) (W : List Int) (t : Tgt) (e : Int) : Int := if badB start W t e ≠ 0 then badB start W t e else if begF W t e < 0 then 7 else 0
def badT (start : Int) (W : List Int) (l : List Tgt) (o : List Int) : Int := firstF [chkNightF start W, chkTgtsF l, chkOrdF l.length o]
def tlT (start : Int) (W : List Int) (l : List Tgt) (o : List Int) : List Int := if badT start W l o ≠ 0 then [] else (tlF start W l o).getD []
def tlE (start : Int) (W : List Int) (l : List Tgt) (o : List Int) : Int := if badT start W l o ≠ 0 then badT start W l o else (bif (tlF start W l o).isSome then 0 else 23)
def afterF (start : Int) (l : List Tgt) (o : List Int) (b : Int) (t : Tgt) : Int := if o.length = 0 then start else b + (l.getD (o.getD (o.length - 1) 0).toNat default).length + apartF (l.getD (o.getD (o.length - 1) 0).toNat default).place t.place
end Go.Lens.Tb
end
section
namespace Go.Lens.Tb
open Go.Proofs
variable [Lz]
set_option linter.unusedSectionVars false
set_option maxRecDepth 100000
attribute [local irreducible] TK PK T RG EfR Body
end Go.Lens.Tb
end
section
namespace Go.Lens.Tb
set_option linter.unusedSectionVars false
def atB (start : Int) (l : List Tgt) (o : List Int) (i : Nat) (b : Int) : Int := if i = 0 then start else b + (l.getD (o.getD (i - 1) 0).toNat default).length
theorem bad1 {a b c : Int} (h : firstF [a, b] ≠ 0) : firstF [a, b, c] = firstF [a, b] := by
  simp only [firstF] at h ⊢
  split
  · rename_i ha
    rw [if_pos ha] at h
    split
    · rename_i hb; rw [if_pos hb] at h; exact absurd rfl h
    · rfl
  · rfl
theorem bad2 {a b c : Int} (h : firstF [a, b] = 0) : firstF [a, b, c] = c := by
  simp only [firstF] at h ⊢
  split
  · rename_i ha
    rw [if_pos ha] at h
    split
    · split
      · rename_i hc; exact hc.symm
      · rfl
    · rename_i hb; rw [if_neg hb] at h; exact absurd h hb
  · rename_i ha; rw [if_neg ha] at h; exact absurd h ha
theorem tl_ok {start : Int} {W : List Int} {l : List Tgt} {o : List Int} (h : firstF [chkNightF start W, chkTgtsF l] = 0) (h2 : chkOrdF l.length o = 0) : tlT start W l o = (tlF start W l o).getD [] ∧ tlE start W l o = bif (tlF start W l o).isSome then 0 else 23 := by
  have e : badT start W l o = 0 := (bad2 h).trans h2
  unfold tlT tlE
  rw [e, if_neg (by simp), if_neg (by simp)]; exact ⟨rfl, rfl⟩
end Go.Lens.Tb
end
section
namespace Go.Lens.Tb
open Go.Proofs
variable [Lz]
set_option linter.unusedSectionVars false
set_option maxRecDepth 100000
attribute [local irreducible] TK PK T RG EfR Body
end Go.Lens.Tb
end
section
namespace Go.Lens.Tb
set_option linter.unusedSectionVars false
section
variable {start : Int} {W : List Int} {l : List Tgt} {o : List Int} {t : Tgt} {e : Int}
theorem bt_of (h : firstF [chkNightF start W, chkTgtsF l, chkOrdF ((l.length : Nat) : Int) o] = 0) : firstF [chkNightF start W, chkTgtsF l] = 0 ∧ chkOrdF l.length o = 0 := by
  by_cases h1 : firstF [chkNightF start W, chkTgtsF l] = 0
  · exact ⟨h1, (bad2 h1).symm.trans h⟩
  · exact absurd ((bad1 h1).symm.trans h) h1
theorem g1 (h0 : firstF [chkNightF start W, chkTgtsF l, chkOrdF ((l.length : Nat) : Int) o] = 0)
    (h : (bif decide (tlE start W l o ≠ whenF (!(tlF start W l o).isSome) 23) then true else !(decide (tlT start W l o = (tlF start W l o).getD []))) = true) : false = true := by
  obtain ⟨h1, h2⟩ := bt_of h0
  obtain ⟨e1, e2⟩ := tl_ok h1 h2
  rw [e1, e2] at h
  unfold whenF at h
  cases hs : (tlF start W l o).isSome <;> rw [hs] at h <;> simp at h
theorem g2 (h0 : ¬ firstF [chkNightF start W, chkTgtsF l, chkOrdF ((l.length : Nat) : Int) o] = 0)
    (h : (bif decide (tlE start W l o ≠ firstF [chkNightF start W, chkTgtsF l, chkOrdF ((l.length : Nat) : Int) o]) then true else !(decide (tlT start W l o = []))) = true) : false = true := by
  have e1 : tlT start W l o = [] := by unfold tlT badT; rw [if_pos h0]
  have e2 : tlE start W l o = firstF [chkNightF start W, chkTgtsF l, chkOrdF ((l.length : Nat) : Int) o] := by unfold tlE badT; rw [if_pos h0]
  rw [e1, e2] at h
  simp at h
theorem f1 (h : ¬ badB start W t e = 0) : (bif (bif decide (begE start W t e = badB start W t e) then decide (begT start W t e = 0) else false) then true else false) = true := by
  unfold begE begT; rw [if_pos h, if_pos h]; simp
theorem f2 (h : badB start W t e = 0) (h2 : begF W t e < 0) : (bif (bif decide (begE start W t e = 7) then decide (begT start W t e = 0) else false) then true else false) = true := by
  unfold begE begT; simp [h, h2]
theorem f3 (h : badB start W t e = 0) (h2 : ¬ begF W t e < 0) : (bif (bif decide (begE start W t e = badB start W t e) then decide (begT start W t e = begF W t e) else false) then true else false) = true := by
  unfold begE begT; simp [h, h2]
end
end Go.Lens.Tb
end
section
namespace Go.Lens.Tb
open Go.Proofs
structure Ch where
 order : List Int
 bright : Int
 end_ : Int
section
variable (S : Int) (W : List Int) (l : List Tgt)
def endF (o : List Int) (b : Int) : Int := if o.length = 0 then S else b + (l.getD (o.getD (o.length - 1) 0).toNat default).length
def betC (a c : Ch) : Bool := decide (c.bright < a.bright) || (decide (a.bright = c.bright) && decide (a.end_ < c.end_))
def updC (o : List Int) (b br : Int) (c : Ch) : Ch := bif betC ⟨o, br, endF S l o b⟩ c then ⟨o, br, endF S l o b⟩ else c
def nxtB (o : List Int) (b : Int) (i : Nat) : Int := begF W (l.getD i default) (afterF S l o b (l.getD i default))
def stepC (R : List Int → Int → Int → Ch → Ch) (o : List Int) (b br : Int) (i : Nat) (c : Ch) : Ch :=
 bif o.any (fun j => decide (j = (i : Int))) then c else if nxtB S W l o b i < 0 then c else R (o ++ [(i : Int)]) (nxtB S W l o b i) (br + (l.getD i default).bright) c
def loopC (R : List Int → Int → Int → Ch → Ch) (o : List Int) (b br : Int) (c : Ch) : Nat → Ch
 | 0 => c
 | k + 1 => stepC S W l R o b br k (loopC R o b br c k)
def recC : Nat → List Int → Int → Int → Ch → Ch
 | 0, _, _, _, c => c
 | n + 1, o, b, br, c => loopC S W l (recC n) o b br (updC S l o b br c) l.length
def lastD (r : List Int) : Int := r.getD (r.length - 1) 0
def brightS : List Int → Int
 | [] => 0
 | j :: o => (l.getD j.toNat default).bright + brightS o
def refC (n : Nat) (o : List Int) (c : Ch) : Ch := match tlF S W l o with
 | none => c
 | some r => recC S W l n o (lastD r) (brightS l o) c
def gdO (o : List Int) : Prop := o.Nodup ∧ ∀ i ∈ o, 0 ≤ i ∧ i < (l.length : Int)
end
def lastP (l : List Tgt) (prev : Option Tgt) (o : List Int) : Option Tgt := if o.length = 0 then prev else some (l.getD (o.getD (o.length - 1) 0).toNat default)
def lastA (l : List Tgt) (a : Int) (o r : List Int) : Int := if o.length = 0 then a else lastD r + (l.getD (o.getD (o.length - 1) 0).toNat default).length
def badP (S : Int) (W : List Int) (l : List Tgt) : Int := firstF [chkNightF S W, chkTgtsF l, whenF (decide (8 < (l.length : Int))) 22]
def planC (S : Int) (W : List Int) (l : List Tgt) : Ch := recC S W l (l.length + 1) [] 0 0 ⟨[], 0, S⟩
end Go.Lens.Tb
end
section
namespace Go.Lens.Tb
open Go.Proofs
set_option linter.unusedSectionVars false
theorem PK.nil [Lz] {P : Program} {n nb : Nat} {Q : Exit → St → Prop} {s : St} (h : Q .normal s) : PK P n nb Q [] .normal s := h
theorem TK.condJ [Lz] {P : Program} {n nb : Nat} {Q : Exit → St → Prop} {s : St} {x x' y : Code} {K M : List Fr} {o : Operand} {b : Bool} (S : St) (hc : evS s o = lit (.bool b)) (e : adv 40 (.p K) = .t y M)
  (hx : b = true → TK P n nb Q x (.lp (fun s' => Sub nb s' S) :: K) s) (hy : b = false → TK P n nb Q x' (.lp (fun s' => Sub nb s' S) :: K) s) (k : TK P n nb Q y M S) : TK P n nb Q (.cond o x x') K s := by
 have conv : ∀ e s', PK P n nb Q (.lp (fun s' => Sub nb s' S) :: K) e s' → PK P n nb Q K e s' := by
  intro e1 s' h
  cases e1 with
  | normal =>
   have h' : Sub nb s' S := h
   exact Ap e (TK.norm S h' k)
  | _ => exact h
 exact T.cond hc (fun h => T.mono (hx h) conv) (fun h => T.mono (hy h) conv)
section
variable {S : Int} {W : List Int} {l : List Tgt} {R : List Int → Int → Int → Ch → Ch} {o : List Int} {b br : Int} {i : Nat} {c : Ch}
end
def endK (S : Int) (l : List Tgt) (o r : List Int) (k : Nat) : Int := if k = 0 then S else r.getD (k - 1) 0 + (l.getD (o.getD (k - 1) 0).toNat default).length
end Go.Lens.Tb
end
section
namespace Go.Lens.Tm
open Go.Lens.Tb Go.Proofs
set_option linter.unusedSectionVars false
variable [Lz]
def joinF : List (List UInt8) → List UInt8
 | [] => []
 | w :: r => w ++ r.flatMap fun x => 32 :: x
def JoinOk : Prop := ∀ ws : List (List UInt8), ws.length ≤ 1000 → (∀ w ∈ ws, w.length ≤ 1000) → CallOk Tryz.prog 169 [vL eN ws, vS (bsO [32])] (lookM []) (vS (bsO (joinF ws))) []
def prtX (l : List Fld) : List UInt8 := if chkFl l = 0 then prtF l else []
end Go.Lens.Tm
end
section
namespace Go.Lens.Tm
open Go.Lens.Tb Go.Proofs
set_option linter.unusedSectionVars false
variable [Lz]
end Go.Lens.Tm
end
section
namespace Go.Lens.Tm
open Go.Lens.Tb Go.Proofs
set_option linter.unusedSectionVars false
variable [Lz]
end Go.Lens.Tm
end
section
namespace Go.Lens.Tm
open Go.Lens.Tb Go.Proofs
set_option linter.unusedSectionVars false
variable [Lz]
def reb (g : List UInt8 → Option (List UInt8)) : List (List UInt8) → List Fld
 | [] => []
 | x :: N => if (g x).isSome then (x, (g x).getD []) :: reb g N else reb g N
end Go.Lens.Tm
end
section
namespace Go.Lens.Tm
open Go.Lens.Tb Go.Proofs
set_option linter.unusedSectionVars false
variable [Lz]
def chF (B M T : List Fld) (x : List UInt8) : Option (List UInt8) := if getF x M = getF x T then getF x M else if getF x M = getF x B then getF x T else getF x M
def okF (B M T : List Fld) (x : List UInt8) : Prop := getF x M = getF x T ∨ getF x M = getF x B ∨ getF x T = getF x B
instance (B M T : List Fld) (x : List UInt8) : Decidable (okF B M T x) := inferInstanceAs (Decidable (_ ∨ _ ∨ _))
end Go.Lens.Tm
end
section
namespace Go.Lens.Tm
open Go.Lens.Tb Go.Proofs
set_option linter.unusedSectionVars false
variable [Lz]
def mgK (r : List Fld × List (List UInt8)) : List Fld × List (List UInt8) × Int := if 0 < r.2.length then ([], r.2, 29) else (r.1, [], 0)
end Go.Lens.Tm
end
section
namespace Go.Lens.Tm
open Go.Lens.Tb Go.Proofs
variable [Lz]
set_option linter.unusedSectionVars false
set_option maxRecDepth 100000
attribute [local irreducible] TK PK T RG EfR Body
end Go.Lens.Tm
end
section
namespace Go.Lens
set_option linter.unusedSectionVars false
variable [Lz]
section
variable {P : Program} {Y : Tab} [TabOk P Y] {nb : Nat} {s : St} {dst : Option Tmp} {ty u : TypeId} {pos : String} {af : Array Edge} {gd : Option (Nat × Bool)} {t : TypeId} {x y : Operand}
end
end Go.Lens
namespace Go.Lens.Tm
open Go.Lens.Tb Go.Proofs
set_option linter.unusedSectionVars false
variable [Lz]
abbrev Fit (l : List Fld) : Prop := l.length ≤ 26 ∧ ∀ f ∈ l, f.1.length ≤ 60 ∧ f.2.length ≤ 100
def Ck (l : List Fld) : Prop := Fit l ∧ chkFl l = 0 ∧ l.length ≤ 8
end Go.Lens.Tm
end
section
namespace Go.Lens.Tm
open Go.Lens.Tb Go.Proofs
set_option linter.unusedSectionVars false
abbrev Cmd := List UInt8 × List UInt8 × Int
def eC (c : Cmd) : List PV := [.lit (.string (bsO (Prod.fst c))), .lit (.string (bsO (Prod.fst (Prod.snd c)))), .lit (.int .i64 (Prod.snd (Prod.snd c)))]
abbrev gC (c : Cmd) : PV := .agg [pS (bsO c.1), pS (bsO c.2.1), pI c.2.2]
abbrev bC (t : TypeId) (c : Cmd) : MO := .box t [vS (bsO c.1), vS (bsO c.2.1), vI c.2.2]
abbrev z3 : Cmd := ([], [], 0)
abbrev kAct : List UInt8 := [97, 99, 116]
abbrev kEnd : List UInt8 := [101, 110, 100]
abbrev kWait : List UInt8 := [119, 97, 105, 116]
abbrev kRep : List UInt8 := [114, 101, 112, 101, 97, 116]
def wordsF (o : List UInt8) : Int := if o = kAct then 2 else if o = kWait then 2 else if o = kRep then 2 else if o = kEnd then 1 else 0
def chkC (c : Cmd) : Int :=
 if c.1 = kAct then firstF [whenF (!(isNameF (bsO c.2.1))) 8, withinF c.2.2 0 0]
 else if c.1 = kEnd then firstF [whenF (decide (c.2.1 ≠ [])) 1, withinF c.2.2 0 0]
 else if c.1 = kWait then firstF [whenF (decide (c.2.1 ≠ [])) 1, withinF c.2.2 1 100000]
 else if c.1 = kRep then firstF [whenF (decide (c.2.1 ≠ [])) 1, withinF c.2.2 1 100]
 else 13
def badC : List Cmd → Int
 | [] => 0
 | c :: l => if chkC c = 0 then badC l else chkC c
def depC : Nat → List Cmd → Int
 | d, [] => if 0 < d then 2 else 0
 | d, c :: l => if c.1 = kRep then (if d = 4 then 22 else depC (d + 1) l) else if c.1 = kEnd then (if d = 0 then 2 else depC (d - 1) l) else depC d l
def lenGo : Int → List (Int × Int) → List Cmd → Int
 | s, _, [] => s
 | s, st, c :: l => if c.1 = kRep then lenGo 1 ((s, c.2.2) :: st) l else if c.1 = kEnd then (match st with
   | [] => s
   | p :: st => lenGo (p.1 + p.2 * s) st l) else lenGo (s + 1) st l
theorem lenGo_cons (s : Int) (st : List (Int × Int)) (c : Cmd) (l : List Cmd) : lenGo s st (c :: l) = if c.1 = kRep then lenGo 1 ((s, c.2.2) :: st) l else if c.1 = kEnd then (match st with
   | [] => s
   | p :: st => lenGo (p.1 + p.2 * s) st l) else lenGo (s + 1) st l := by cases st <;> rfl
def lenP (l : List Cmd) : Int := lenGo 0 [] l
def chkS (l : List Cmd) : Int := if 64 < l.length then 5 else if badC l ≠ 0 then badC l else if depC 0 l ≠ 0 then depC 0 l else whenF (decide (10000 < lenP l)) 22
def matGo : Int → Nat → List Cmd → Nat
 | _, i, [] => i
 | d, i, c :: l => if c.1 = kRep then matGo (d + 1) (i + 1) l else if c.1 = kEnd then (if d - 1 = 0 then i else matGo (d - 1) (i + 1) l) else matGo d (i + 1) l
def smL : List (Int × Int) → Int → List Int
 | [], s => [s]
 | p :: st, s => smL st p.1 ++ [s]
def cnL : List (Int × Int) → List Int
 | [] => []
 | p :: st => cnL st ++ [p.2]
theorem dropC {l : List Cmd} {k : Nat} (h : k < l.length) : l.drop k = l.getD k z3 :: l.drop (k + 1) := by
 rw [List.getD_eq_getElem?_getD, List.getElem?_eq_getElem h, Option.getD_some]
 exact List.drop_eq_getElem_cons h
theorem badC_ok {l : List Cmd} {k : Nat} (h : k < l.length) (h0 : chkC (l.getD k z3) = 0) : badC (l.drop k) = badC (l.drop (k + 1)) := by
 rw [dropC h, badC, if_pos h0]
theorem badC_no {l : List Cmd} {k : Nat} (h : k < l.length) (h0 : chkC (l.getD k z3) ≠ 0) : badC (l.drop k) = chkC (l.getD k z3) := by
 rw [dropC h, badC, if_neg h0]
theorem badC_all : ∀ {l : List Cmd}, badC l = 0 → ∀ c ∈ l, chkC c = 0
 | [], _, c, hc => by cases hc
 | a :: l, h, c, hc => by
  rw [badC] at h
  by_cases ha : chkC a = 0
  ·rw [if_pos ha] at h
   rcases List.mem_cons.1 hc with rfl | hc
   ·exact ha
   ·exact badC_all h c hc
  ·rw [if_neg ha] at h; exact absurd h ha
theorem rep_end : kRep ≠ kEnd := by decide
theorem dep_rep {l : List Cmd} {k d : Nat} (h : k < l.length) (h0 : (l.getD k z3).1 = kRep) : depC d (l.drop k) = if d = 4 then 22 else depC (d + 1) (l.drop (k + 1)) := by
 rw [dropC h, depC, if_pos h0]
theorem dep_end {l : List Cmd} {k d : Nat} (h : k < l.length) (h0 : (l.getD k z3).1 = kEnd) : depC d (l.drop k) = if d = 0 then 2 else depC (d - 1) (l.drop (k + 1)) := by
 rw [dropC h, depC, if_neg (by rw [h0]; exact Ne.symm rep_end), if_pos h0]
theorem dep_one {l : List Cmd} {k d : Nat} (h : k < l.length) (h0 : (l.getD k z3).1 ≠ kRep) (h1 : (l.getD k z3).1 ≠ kEnd) : depC d (l.drop k) = depC d (l.drop (k + 1)) := by
 rw [dropC h, depC, if_neg h0, if_neg h1]
theorem len_rep {l : List Cmd} {k : Nat} {s : Int} {st : List (Int × Int)} (h : k < l.length) (h0 : (l.getD k z3).1 = kRep) : lenGo s st (l.drop k) = lenGo 1 ((s, (l.getD k z3).2.2) :: st) (l.drop (k + 1)) := by
 rw [dropC h, lenGo_cons, if_pos h0]
theorem len_end {l : List Cmd} {k : Nat} {s : Int} {p : Int × Int} {st : List (Int × Int)} (h : k < l.length) (h0 : (l.getD k z3).1 = kEnd) : lenGo s (p :: st) (l.drop k) = lenGo (p.1 + p.2 * s) st (l.drop (k + 1)) := by
 rw [dropC h, lenGo_cons, if_neg (by rw [h0]; exact Ne.symm rep_end), if_pos h0]
theorem len_one {l : List Cmd} {k : Nat} {s : Int} {st : List (Int × Int)} (h : k < l.length) (h0 : (l.getD k z3).1 ≠ kRep) (h1 : (l.getD k z3).1 ≠ kEnd) : lenGo s st (l.drop k) = lenGo (s + 1) st (l.drop (k + 1)) := by
 rw [dropC h, lenGo_cons, if_neg h0, if_neg h1]
theorem mat_rep {l : List Cmd} {k : Nat} {d : Int} (h : k < l.length) (h0 : (l.getD k z3).1 = kRep) : matGo d k (l.drop k) = matGo (d + 1) (k + 1) (l.drop (k + 1)) := by
 rw [dropC h, matGo, if_pos h0]
theorem mat_end {l : List Cmd} {k : Nat} {d : Int} (h : k < l.length) (h0 : (l.getD k z3).1 = kEnd) : matGo d k (l.drop k) = if d - 1 = 0 then k else matGo (d - 1) (k + 1) (l.drop (k + 1)) := by
 rw [dropC h, matGo, if_neg (by rw [h0]; exact Ne.symm rep_end), if_pos h0]
theorem mat_one {l : List Cmd} {k : Nat} {d : Int} (h : k < l.length) (h0 : (l.getD k z3).1 ≠ kRep) (h1 : (l.getD k z3).1 ≠ kEnd) : matGo d k (l.drop k) = matGo d (k + 1) (l.drop (k + 1)) := by
 rw [dropC h, matGo, if_neg h0, if_neg h1]
theorem mat_nil {l : List Cmd} {k : Nat} {d : Int} (h : k = l.length) : matGo d k (l.drop k) = k := by
 rw [List.drop_of_length_le (by omega)]; rfl
theorem smL_len : ∀ (st : List (Int × Int)) (s : Int), (smL st s).length = st.length + 1
 | [], _ => rfl
 | p :: st, s => by rw [smL, List.length_append, smL_len st]; rfl
theorem cnL_len : ∀ (st : List (Int × Int)), (cnL st).length = st.length
 | [] => rfl
 | p :: st => by rw [cnL, List.length_append, cnL_len st]; rfl
theorem smL_get : ∀ (st : List (Int × Int)) (s : Int), (smL st s).getD st.length 0 = s
 | [], _ => rfl
 | p :: st, s => by
  rw [smL, List.getD_eq_getElem?_getD, List.getElem?_append_right (by rw [smL_len]; simp), smL_len]
  simp
theorem smL_get2 (p : Int × Int) (st : List (Int × Int)) (s : Int) : (smL (p :: st) s).getD st.length 0 = p.1 := by
 rw [smL, List.getD_eq_getElem?_getD, List.getElem?_append_left (by rw [smL_len]; omega), ← List.getD_eq_getElem?_getD]
 exact smL_get st p.1
theorem cnL_get (p : Int × Int) (st : List (Int × Int)) : (cnL (p :: st)).getD st.length 0 = p.2 := by
 rw [cnL, List.getD_eq_getElem?_getD, List.getElem?_append_right (by rw [cnL_len]; omega), cnL_len]
 simp
theorem smL_set : ∀ (st : List (Int × Int)) (s v : Int), (smL st s).set st.length v = smL st v
 | [], _, _ => rfl
 | p :: st, s, v => by
  rw [smL, List.set_append_right _ _ (by rw [smL_len]; simp), smL_len]
  simp [smL]
theorem smL_pop (p : Int × Int) (st : List (Int × Int)) (s v : Int) : ((smL (p :: st) s).set st.length v).take (st.length + 1) = smL st v := by
 rw [smL, List.set_append_left _ _ (by rw [smL_len]; omega), smL_set, List.take_append_of_le_length (by rw [smL_len]; omega), List.take_of_length_le (by rw [smL_len]; omega)]
theorem cnL_pop (p : Int × Int) (st : List (Int × Int)) : (cnL (p :: st)).take st.length = cnL st := by
 rw [cnL, List.take_append_of_le_length (by rw [cnL_len]; omega), List.take_of_length_le (by rw [cnL_len]; omega)]
theorem with_rng {n a b : Int} (h : withinF n a b = 0) : a ≤ n ∧ n ≤ b := by
 unfold withinF whenF outF at h
 by_cases h1 : n < a
 ·simp [h1] at h
 ·by_cases h2 : b < n
  ·simp [h2] at h
  ·omega
theorem first2 {a b : Int} (h : firstF [a, b] = 0) : a = 0 ∧ b = 0 := by
 simp only [firstF] at h
 split at h
 ·rename_i ha
  split at h
  ·rename_i hb; exact ⟨ha, hb⟩
  ·rename_i hb; exact absurd h hb
 ·rename_i ha; exact absurd h ha
theorem cnt_rep {c : Cmd} (h : chkC c = 0) (h0 : c.1 = kRep) : 1 ≤ c.2.2 ∧ c.2.2 ≤ 100 := by
 unfold chkC at h
 rw [h0] at h
 rw [if_neg (by decide), if_neg (by decide), if_neg (by decide), if_pos rfl] at h
 exact with_rng (first2 h).2
theorem cnt_wait {c : Cmd} (h : chkC c = 0) (h0 : c.1 = kWait) : 1 ≤ c.2.2 ∧ c.2.2 ≤ 100000 := by
 unfold chkC at h
 rw [h0] at h
 rw [if_neg (by decide), if_neg (by decide), if_pos rfl] at h
 exact with_rng (first2 h).2
theorem len_ge : ∀ {l : List Cmd} {s : Int} {st : List (Int × Int)}, depC st.length l = 0 → (∀ c ∈ l, chkC c = 0) → 0 ≤ s → (∀ p ∈ st, 0 ≤ p.1 ∧ 1 ≤ p.2) → s ≤ lenGo s st l ∧ ∀ p ∈ st, p.1 ≤ lenGo s st l
 | [], s, st, hd, _, _, _ => by
  rw [depC] at hd
  have : st.length = 0 := by
   split at hd
   ·cases hd
   ·omega
  obtain rfl := List.eq_nil_of_length_eq_zero this
  exact ⟨Int.le_refl _, fun p hp => by cases hp⟩
 | c :: l, s, st, hd, hc, hs, hst => by
  have hcl : ∀ c ∈ l, chkC c = 0 := fun x hx => hc x (List.mem_cons_of_mem _ hx)
  rw [depC] at hd
  rw [lenGo_cons]
  by_cases h1 : c.1 = kRep
  ·rw [if_pos h1] at hd ⊢
   have hr := cnt_rep (hc c (List.mem_cons_self ..)) h1
   split at hd
   ·cases hd
   ·have := len_ge (s := 1) (st := (s, c.2.2) :: st) hd hcl (by omega) (by
     intro p hp
     rcases List.mem_cons.1 hp with rfl | hp
     ·exact ⟨hs, hr.1⟩
     ·exact hst p hp)
    exact ⟨this.2 _ (List.mem_cons_self ..), fun p hp => this.2 p (List.mem_cons_of_mem _ hp)⟩
  ·rw [if_neg h1] at hd ⊢
   by_cases h2 : c.1 = kEnd
   ·rw [if_pos h2] at hd ⊢
    match st, hd, hst with
    | [], hd, _ => simp at hd
    | p :: st, hd, hst =>
     simp only [List.length_cons, Nat.add_sub_cancel] at hd
     rw [if_neg (by omega)] at hd
     have hp := hst p (List.mem_cons_self ..)
     have hm : s ≤ p.2 * s := by
      have := Int.mul_le_mul_of_nonneg_right hp.2 hs
      omega
     have := len_ge (s := p.1 + p.2 * s) (st := st) hd hcl (by omega) (fun q hq => hst q (List.mem_cons_of_mem _ hq))
     refine ⟨by show s ≤ lenGo (p.1 + p.2 * s) st l; omega, fun q hq => ?_⟩
     rcases List.mem_cons.1 hq with rfl | hq
     ·show q.1 ≤ lenGo (q.1 + q.2 * s) st l; omega
     ·exact this.2 q hq
   ·rw [if_neg h2] at hd ⊢
    have := len_ge (s := s + 1) (st := st) hd hcl (by omega) hst
    exact ⟨by omega, this.2⟩
end Go.Lens.Tm
end
section
namespace Go.Lens.Tm
open Go.Lens.Tb Go.Proofs
set_option linter.unusedSectionVars false
inductive Wf : Nat → List Cmd → Prop
 | nil (d : Nat) : Wf d []
 | one {d : Nat} {c : Cmd} {l : List Cmd} : c.1 ≠ kRep → c.1 ≠ kEnd → Wf d l → Wf d (c :: l)
 | rep {d : Nat} {c e : Cmd} {b l : List Cmd} : c.1 = kRep → e.1 = kEnd → Wf d b → Wf (d + 1) l → Wf (d + 1) (c :: (b ++ e :: l))
theorem wf_len {d : Nat} {l : List Cmd} (h : Wf d l) : ∀ (s : Int) (st : List (Int × Int)) (r : List Cmd), lenGo s st (l ++ r) = lenGo (s + lenP l) st r := by
 induction h with
 | nil d => intro s st r; rw [List.nil_append]; simp [lenP, lenGo]
 | @one d c l h1 h2 h ih =>
  intro s st r
  have e : lenP (c :: l) = 1 + lenP l := by
   have := ih 1 [] []
   rw [List.append_nil] at this
   rw [lenP, lenGo_cons, if_neg h1, if_neg h2, Int.zero_add, this]; rfl
  rw [List.cons_append, lenGo_cons, if_neg h1, if_neg h2, ih, e, Int.add_assoc]
 | @rep d c e b l h1 h2 hb hl ihb ihl =>
  have key : ∀ (s : Int) (st : List (Int × Int)) (r : List Cmd), lenGo s st ((c :: (b ++ e :: l)) ++ r) = lenGo (s + (c.2.2 * (1 + lenP b) + lenP l)) st r := by
   intro s st r
   rw [List.cons_append, lenGo_cons, if_pos h1, List.append_assoc, ihb, List.cons_append, lenGo_cons, if_neg (by rw [h2]; exact Ne.symm rep_end), if_pos h2]
   show lenGo (s + c.2.2 * (1 + lenP b)) st (l ++ r) = _
   rw [ihl, Int.add_assoc]
  have e0 : lenP (c :: (b ++ e :: l)) = c.2.2 * (1 + lenP b) + lenP l := by
   have := key 0 [] []
   rw [List.append_nil, Int.zero_add] at this
   exact this
  intro s st r
  rw [key, e0]
theorem wf_one_len {d : Nat} {c : Cmd} {l : List Cmd} (h1 : c.1 ≠ kRep) (h2 : c.1 ≠ kEnd) (h : Wf d l) : lenP (c :: l) = 1 + lenP l := by
 have := wf_len h 1 [] []
 rw [List.append_nil] at this
 rw [lenP, lenGo_cons, if_neg h1, if_neg h2, Int.zero_add, this]; rfl
theorem wf_rep_len {d : Nat} {c e : Cmd} {b l : List Cmd} (h1 : c.1 = kRep) (h2 : e.1 = kEnd) (hb : Wf d b) (hl : Wf (d + 1) l) : lenP (c :: (b ++ e :: l)) = c.2.2 * (1 + lenP b) + lenP l := by
 have h3 := wf_len hl (c.2.2 * (1 + lenP b)) [] []
 rw [List.append_nil] at h3
 rw [lenP, lenGo_cons, if_pos h1, wf_len hb, lenGo_cons, if_neg (by rw [h2]; exact Ne.symm rep_end), if_pos h2]
 show lenGo (0 + c.2.2 * (1 + lenP b)) [] l = _
 rw [Int.zero_add, h3]; rfl
theorem wf_mat {d : Nat} {l : List Cmd} (h : Wf d l) : ∀ (q : Int) (i : Nat) (r : List Cmd), 1 ≤ q → matGo q i (l ++ r) = matGo q (i + l.length) r := by
 induction h with
 | nil d => intro q i r _; rfl
 | @one d c l h1 h2 h ih =>
  intro q i r hq
  rw [List.cons_append, matGo, if_neg h1, if_neg h2, ih _ _ _ hq, List.length_cons]
  congr 1; omega
 | @rep d c e b l h1 h2 hb hl ihb ihl =>
  intro q i r hq
  rw [List.cons_append, matGo, if_pos h1, List.append_assoc, ihb _ _ _ (by omega), List.cons_append, matGo, if_neg (by rw [h2]; exact Ne.symm rep_end), if_pos h2, if_neg (by omega), show q + 1 - 1 = q by omega, ihl _ _ _ hq]
  congr 1
  simp only [List.length_cons, List.length_append]; omega
def Op : Nat → List Cmd → Prop
 | 0, l => Wf 4 l
 | k + 1, l => ∃ b e r, l = b ++ e :: r ∧ e.1 = kEnd ∧ Wf (4 - (k + 1)) b ∧ Op k r
theorem op_of : ∀ {l : List Cmd} {k : Nat}, k ≤ 4 → depC k l = 0 → Op k l
 | [], k, _, h => by
  rw [depC] at h
  have : k = 0 := by
   split at h
   ·cases h
   ·omega
  subst this
  exact Wf.nil 4
 | c :: l, k, hk, h => by
  rw [depC] at h
  by_cases h1 : c.1 = kRep
  ·rw [if_pos h1] at h
   split at h
   ·cases h
   ·rename_i h4
    obtain ⟨b, e, r, rfl, he, hb, hr⟩ := op_of (k := k + 1) (by omega) h
    cases k with
    | zero => exact Wf.rep h1 he hb hr
    | succ j =>
     obtain ⟨b2, e2, r2, rfl, he2, hb2, hr2⟩ := hr
     refine ⟨c :: (b ++ e :: b2), e2, r2, by simp, he2, ?_, hr2⟩
     have : 4 - (j + 1) = (4 - (j + 1 + 1)) + 1 := by omega
     rw [this] at hb2 ⊢
     exact Wf.rep h1 he hb hb2
  ·rw [if_neg h1] at h
   by_cases h2 : c.1 = kEnd
   ·rw [if_pos h2] at h
    split at h
    ·cases h
    ·rename_i h0
     cases k with
     | zero => exact absurd rfl h0
     | succ j => exact ⟨[], c, l, rfl, h2, Wf.nil _, op_of (k := j) (by omega) h⟩
   ·rw [if_neg h2] at h
    have ih := op_of hk h
    cases k with
    | zero => exact Wf.one h1 h2 ih
    | succ j =>
     obtain ⟨b, e, r, rfl, he, hb, hr⟩ := ih
     exact ⟨c :: b, e, r, rfl, he, Wf.one h1 h2 hb, hr⟩
theorem wf_of {l : List Cmd} (h : depC 0 l = 0) : Wf 4 l := op_of (k := 0) (by omega) h
theorem one_le_101 (d : Nat) : (1 : Int) ≤ 101 ^ d := by
 have h : (1 : Nat) ≤ 101 ^ d := Nat.one_le_pow _ _ (by decide)
 have e : ((101 : Int) ^ d) = (((101 : Nat) ^ d : Nat) : Int) := by simp
 rw [e]; omega
theorem wf_nn {d : Nat} {l : List Cmd} (h : Wf d l) (hc : ∀ c ∈ l, chkC c = 0) : 0 ≤ lenP l ∧ lenP l ≤ l.length * 101 ^ d := by
 induction h with
 | nil d => simp [lenP, lenGo]
 | @one d c l h1 h2 h ih =>
  have := ih fun x hx => hc x (List.mem_cons_of_mem _ hx)
  rw [wf_one_len h1 h2 h]
  have hp : (1 : Int) ≤ 101 ^ d := one_le_101 _
  have : ((c :: l).length : Int) * 101 ^ d = (l.length : Int) * 101 ^ d + 101 ^ d := by
   rw [List.length_cons, Int.natCast_add, Int.add_mul]; simp
  omega
 | @rep d c e b l h1 h2 hb hl ihb ihl =>
  have kb := ihb fun x hx => hc x (by simp [hx])
  have kl := ihl fun x hx => hc x (by simp [hx])
  have hr := cnt_rep (hc c (List.mem_cons_self ..)) h1
  rw [wf_rep_len h1 h2 hb hl]
  have hp : (1 : Int) ≤ 101 ^ d := one_le_101 _
  have n0 : 0 ≤ c.2.2 * (1 + lenP b) := Int.mul_nonneg (by omega) (by omega)
  have n1 : c.2.2 * (1 + lenP b) ≤ 101 * ((1 + b.length) * 101 ^ d) := by
   have a1 : c.2.2 * (1 + lenP b) ≤ 101 * (1 + lenP b) := Int.mul_le_mul_of_nonneg_right (by omega) (by omega)
   have a2 : 101 * (1 + lenP b) ≤ 101 * ((1 + b.length) * 101 ^ d) := Int.mul_le_mul_of_nonneg_left (by rw [Int.add_mul]; omega) (by decide)
   omega
  have e1 : 101 * ((1 + (b.length : Int)) * 101 ^ d) = (1 + b.length) * 101 ^ (d + 1) := by
   rw [Int.pow_succ]; rw [Int.mul_comm 101, Int.mul_assoc]
  have e2 : ((c :: (b ++ e :: l)).length : Int) * 101 ^ (d + 1) = (1 + b.length) * 101 ^ (d + 1) + l.length * 101 ^ (d + 1) + 101 ^ (d + 1) := by
   have : ((c :: (b ++ e :: l)).length : Int) = (1 + b.length) + l.length + 1 := by simp only [List.length_cons, List.length_append]; omega
   rw [this, Int.add_mul, Int.add_mul]; simp
  have hp2 : (1 : Int) ≤ 101 ^ (d + 1) := one_le_101 _
  omega
theorem wf_small {d : Nat} {l : List Cmd} (h : Wf d l) (hd : d ≤ 4) (hc : ∀ c ∈ l, chkC c = 0) (hl : l.length ≤ 64) : 0 ≤ lenP l ∧ lenP l ≤ 7000000000 := by
 obtain ⟨h1, h2⟩ := wf_nn h hc
 refine ⟨h1, ?_⟩
 have hp : (101 : Int) ^ d ≤ 101 ^ 4 := by
  have : d = 0 ∨ d = 1 ∨ d = 2 ∨ d = 3 ∨ d = 4 := by omega
  rcases this with rfl | rfl | rfl | rfl | rfl <;> decide
 have h3 : (l.length : Int) * 101 ^ d ≤ 64 * 101 ^ 4 := by
  have a1 : (l.length : Int) * 101 ^ d ≤ l.length * 101 ^ 4 := Int.mul_le_mul_of_nonneg_left hp (by omega)
  have a2 : (l.length : Int) * 101 ^ 4 ≤ 64 * 101 ^ 4 := Int.mul_le_mul_of_nonneg_right (by omega) (by decide)
  omega
 have : (64 : Int) * 101 ^ 4 = 6659865664 := by decide
 omega
theorem wf_at {d : Nat} {l : List Cmd} {i : Nat} (hw : Wf d (l.drop i)) (hi : i < l.length) (h0 : (l.getD i z3).1 = kRep) :
  ∃ (d' n : Nat), d = d' + 1 ∧ n = matGo 0 i (l.drop i) ∧ i + 1 ≤ n ∧ n < l.length ∧ Wf d' ((l.take n).drop (i + 1)) ∧ Wf d (l.drop (n + 1)) ∧ lenP (l.drop i) = (l.getD i z3).2.2 * (1 + lenP ((l.take n).drop (i + 1))) + lenP (l.drop (n + 1)) := by
 have hd := dropC hi
 generalize hq : l.drop i = q at hw hd
 cases hw with
 | nil d => cases hd
 | one h1 h2 h => cases hd; exact absurd h0 h1
 | @rep d' c e b r h1 h2 hb hr =>
  injection hd with k1 k2
  have hm : matGo 0 i (c :: (b ++ e :: r)) = i + 1 + b.length := by
   rw [matGo, if_pos h1, wf_mat hb _ _ _ (by omega), matGo, if_neg (by rw [h2]; exact Ne.symm rep_end), if_pos h2, if_pos (by omega)]
  have hlen : l.length = i + 1 + b.length + 1 + r.length := by
   have := congrArg List.length hq
   simp only [List.length_drop, List.length_cons, List.length_append] at this
   omega
  have htb : (l.take (i + 1 + b.length)).drop (i + 1) = b := by
   rw [List.drop_take, ← k2, show i + 1 + b.length - (i + 1) = b.length by omega, List.take_left]
  have hdr : l.drop (i + 1 + b.length + 1) = r := by
   rw [show i + 1 + b.length + 1 = (i + 1) + (b.length + 1) by omega, ← List.drop_drop, ← k2, ← List.drop_drop, List.drop_left]; rfl
  refine ⟨d', i + 1 + b.length, rfl, hm.symm, by omega, by omega, by rw [htb]; exact hb, by rw [hdr]; exact hr, ?_⟩
  rw [htb, hdr, ← k1]
  exact wf_rep_len h1 h2 hb hr
theorem wf_next {d : Nat} {l : List Cmd} {i : Nat} (hw : Wf d (l.drop i)) (hi : i < l.length) (h0 : (l.getD i z3).1 ≠ kRep) : (l.getD i z3).1 ≠ kEnd ∧ Wf d (l.drop (i + 1)) ∧ lenP (l.drop i) = 1 + lenP (l.drop (i + 1)) := by
 have hd := dropC hi
 generalize hq : l.drop i = q at hw hd
 cases hw with
 | nil d => cases hd
 | one h1 h2 h =>
  injection hd with k1 k2
  rw [← k1, ← k2]
  exact ⟨h2, h, wf_one_len h1 h2 h⟩
 | rep h1 h2 hb hr => injection hd with k1 k2; rw [k1] at h1; exact absurd h1 h0
end Go.Lens.Tm
end
section
namespace Go.Lens
set_option linter.unusedSectionVars false
variable [Lz]
section
variable {P : Program} {Y : Tab} [TabOk P Y] {nb : Nat} {s : St} {dst : Option Tmp} {ty u : TypeId} {pos : String} {af : Array Edge} {gd : Option (Nat × Bool)} {t : TypeId} {x y z : Operand}
theorem Body.loadE {α : Type} {enc : α → List PV} {l : List α} {z0 : α} {p : PV} {h v sz n : Nat} {T : TypeId} (hx : ev1 s x = .eref h v n 0) (hm : lookM s.ms h = some (.arr v sz T (l.map enc))) (ha : aggT Y t = some false) (hs : szT Y t = some 1)
  (hlt : n < l.length) (hz : enc (l.getD n z0) = [p]) : Body P Y nb s ⟨dst, .load t x, ty, pos, af, gd⟩ (.pv p) [] [h] := by
 refine .inr (SBody.of fun σ G a w hv hl I => ?_)
 have hX := hv x (by simp [Op.operands])
 rw [hx] at hX
 have hlk : lookM σ.ms h = some (.arr v sz T (l.map enc)) := by rw [hl h (.inl (by simp))]; exact hm
 have hq : loadQ Y t (lookM σ.ms) (.eref h v n 0) = some (true, .pv p) := by
  have hg : (l.map enc).getD n [] = [p] := by
   rw [← hz, List.getD_eq_getElem?_getD, List.getElem?_map, List.getD_eq_getElem?_getD, List.getElem?_eq_getElem hlt]; rfl
  unfold loadQ
  simp only [ha, hs, hlk, if_true, hg, Bool.false_eq_true, if_false, List.length_map]
  simp [hlt]
 obtain ⟨r, h1, h2⟩ := loadQ_sound (P := P) I.ctxS.sees hq hX
 refine ⟨r, w, G, .inl ?_, stepped_same I.ctxS h2 (fun k hk => by simp [DV.refs] at hk)⟩
 simp only [execOp, Sem.run_bind, h1, Result.andThen_ok, Sem.run_pure]
theorem Body.slA {α : Type} {enc : α → List PV} {l : List α} {h v sz n : Nat} {k : IntKind} {m : Int} {e T : TypeId} (hx : ev1 s x = .aref h v) (hm : lookM s.ms h = some (.arr v sz T (l.map enc))) (hy : ev1 s y = lit (.int k m)) (und : Y.underlying t = some (.slice e)) (hs : szT Y e = some sz)
  (hn : m = (n : Int)) (hle : n ≤ l.length) : Body P Y nb s ⟨dst, .slice t x none (some y) none, ty, pos, af, gd⟩ (.atrunc h v n) [] [h] := by
 refine .inr (SBody.of fun σ G a w hv hl I => ?_)
 have hX := hv x (by simp [Op.operands])
 have hY := hv y (by simp [Op.operands])
 rw [hx] at hX; rw [hy] at hY
 have hlk : lookM σ.ms h = some (.arr v sz T (l.map enc)) := by rw [hl h (.inl (by simp))]; exact hm
 have hq : sliceW Y t (lookM σ.ms) (.aref h v) none (some (lit (.int k m))) none = some (true, .atrunc h v n) := by
  show sliceQ Y t (lookM σ.ms) (.aref h v) none (some (lit (.int k m))) none = _
  unfold sliceQ lit
  subst hn
  have : decide ((0 : Int) ≤ (n : Int) ∧ (n : Int) ≤ ((l.map enc).length : Int)) = true := decide_eq_true ⟨by omega, by rw [List.length_map]; omega⟩
  simp only [und, bound, hs, hlk, if_true, this, Int.toNat_natCast]
 obtain ⟨r, h1, h2⟩ := sliceW_sound (P := P) I.ctxS.sees hq hX (vlo := none) (vhi := some (a.eval y)) (vmx := none) trivial hY trivial
 refine ⟨r, w, G, .inl ?_, stepped_same I.ctxS h2 (fun k hk => ?_)⟩
 ·simp only [execOp, Option.map_none, Option.map_some, Sem.run_bind, h1, Result.andThen_ok, Sem.run_pure]
 ·simp only [DV.refs, List.mem_singleton] at hk; subst hk; exact ⟨_, hlk⟩
end
theorem wk_trunc {nb : Nat} {s : St} {t h v k sz : Nat} {T0 : TypeId} {es : List (List PV)} (ht : getT s.tm t = .atrunc h v k) (hm : lookM s.ms h = some (.arr v sz T0 es)) : Wk nb s ⟨(t, .aref h (v + 1)) :: s.tm, (h, .arr (v + 1) sz T0 (es.take k)) :: s.ms⟩ := by
 intro G a w I
 have hv0 : RelDV G (G.rd w) (.atrunc h v k) (a.tmps.getD t undef) := by
  have := I.ts t
  have e : s.vw.get t = .atrunc h v k := ht
  rw [e] at this; exact this
 have ht2 : truncU (lookM s.ms) (.atrunc h v k) = some (.aref h (v + 1), h, .arr (v + 1) sz T0 (es.take k)) := by simp only [truncU, hm, if_true]
 obtain ⟨G1, S1⟩ := trunc_stepped I.mem hv0 ht2
 obtain ⟨I1, Sn1⟩ := I.eff (K := nb) S1 none (by simp)
 have I2 : Inv G1 (St.vw ⟨s.tm, (h, .arr (v + 1) sz T0 (es.take k)) :: s.ms⟩) a w := I1
 refine ⟨G1, ?_, Sn1⟩
 have hts : t < a.tmps.size := by
  rcases Nat.lt_or_ge t a.tmps.size with h | h
  ·exact h
  ·exact absurd (ht.symm.trans (I.size t h)) (by simp)
 refine ⟨fun u => ?_, fun u hu => ?_, I2.ms, I2.fresh, I2.own, fun u k hk => ?_, I2.refsM, I2.r0, I2.r0m, I2.baseLe, I2.laid⟩
 ·show RelDV _ _ (getT ((t, .aref h (v + 1)) :: s.tm) u) _
  rw [getT_cons]
  split
  ·rename_i e; subst e; exact S1.hval
  ·exact I2.ts u
 ·show getT ((t, .aref h (v + 1)) :: s.tm) u = .dead
  rw [getT_cons, if_neg (by omega)]
  exact I2.size u hu
 ·have hk' : k ∈ (getT ((t, .aref h (v + 1)) :: s.tm) u).refs := hk
  rw [getT_cons] at hk'
  split at hk'
  ·simp only [DV.refs, List.mem_singleton] at hk'
   subst hk'
   exact ⟨_, by show lookM ((k, _) :: s.ms) k = _; rw [lookM_cons, if_pos rfl]⟩
  ·exact I2.refsT u k hk'
section
variable {P : Program} {Y : Tab} {n nb : Nat} {Q : Exit → St → Prop} {K : List Fr} {c : Code} {s : St}
theorem TK.trunc {t h v k sz : Nat} {T0 : TypeId} {α : Type} {enc : α → List PV} {l : List α} (ht : getT s.tm t = .atrunc h v k) (hm : lookM s.ms h = some (.arr v sz T0 (l.map enc))) (q : TK P n nb Q c K ⟨(t, .aref h (v + 1)) :: s.tm, (h, .arr (v + 1) sz T0 ((l.take k).map enc)) :: s.ms⟩) : TK P n nb Q c K s := by
 refine T.weak (wk_trunc ht hm) ?_
 rw [← List.map_take]
 exact q
end
theorem relDVs_adopt {G1 G2 : Gh} {R : Rd} {h : Nat} (hq : ∀ v, RelDV G1 R .nils v → RelDV G2 R (.aref h 0) v) : ∀ {ps : List PV} {vs : List Value}, RelDVs G1 R (ps.map .pv ++ [.nils]) vs → RelDVs G2 R (ps.map .pv ++ [.aref h 0]) vs
 | [], vs, H => by
  simp only [List.map_nil, List.nil_append, RelDVs] at H ⊢
  obtain ⟨v, vs', rfl, k1, k2⟩ := H
  exact ⟨v, vs', rfl, hq v k1, k2⟩
 | p :: ps, vs, H => by
  simp only [List.map_cons, List.cons_append, RelDVs] at H ⊢
  obtain ⟨v, vs', rfl, k1, k2⟩ := H
  exact ⟨v, vs', rfl, by simpa only [RelDV] using k1, relDVs_adopt hq k2⟩
theorem Frz.aggNil {l : List (Nat × MO)} {h sz : Nat} {T : TypeId} (ps : List PV) (hl : lookM l h = none) : Frz l (.agg (ps.map .pv ++ [.nils])) [] (.agg (ps.map .pv ++ [.aref h 0])) [(h, .arr 0 sz T [])] := by
 intro G w G1 w1 r M S
 have hv := S.hval
 simp only [RelDV] at hv
 obtain ⟨vs, rfl, ho, hvs⟩ := hv
 refine ⟨G1.turn h ⟨none, 0, 0, sz, 0, 0, true⟩, ⟨⟨S.later.base, S.later.R0, S.later.R0c, S.later.R0m, S.later.os, S.later.tape, S.later.output, S.later.size, S.later.cold⟩, ?_, ?_, ?_, ?_, S.fresh, ?_, ?_, ?_, S.newb, S.r0, S.r0m⟩⟩
 ·simp only [RelDV]
  refine ⟨vs, rfl, ho, relDVs_adopt (G1 := G1) (fun v hv => ?_) hvs⟩
  simp only [RelDV] at hv
  simp only [RelDV, Gh.turn, if_true]
  exact ⟨Nat.le_refl _, fun _ => hv⟩
 ·intro k o hk
  simp only [List.mem_singleton, Prod.mk.injEq] at hk
  obtain ⟨rfl, rfl⟩ := hk
  simp only [RelMO, Gh.turn, if_true]
  exact ⟨trivial, trivial, trivial, rfl, Nat.le_refl _, (by simp), .inl ⟨trivial, trivial⟩⟩
 ·intro k o hk
  have hne : k ≠ h := by rintro rfl; rw [hl] at hk; cases hk
  have := S.keeps k o hk
  unfold Gh.keeps at this ⊢
  simp only [Gh.turn, hne, if_false]; exact this
 ·intro k hk
  simp only [List.map_cons, List.map_nil, List.mem_singleton] at hk
  have := S.old k (by simp)
  simp only [Gh.turn, hk, if_false]; exact this
 ·intro b k hk
  rcases S.own b k hk with e | e
  ·simp at e
  ·exact .inr e
 ·intro k hk
  have : ∀ (ps : List PV), DV.refsL (ps.map .pv ++ [.aref h 0]) = [h] := by
   intro ps
   induction ps with
   | nil => rfl
   | cons p ps ih => simp only [List.map_cons, List.cons_append, DV.refsL, DV.refs, List.nil_append]; exact ih
  simp only [DV.refs, this, List.mem_singleton] at hk
  exact .inl (by simp [hk])
 ·intro k o hk k2 hh
  simp only [List.mem_singleton, Prod.mk.injEq] at hk
  obtain ⟨rfl, rfl⟩ := hk
  simp [MO.refs] at hh
theorem eqv_i {k : IntKind} {a b : Int} : eqV (.int k) (.lit (.int .i64 a)) (.lit (.int .i64 b)) = some (decide (a = b)) := by
 have : (a == b) = decide (a = b) := rfl
 simp [eqV, this]
theorem eqv_s {a b : List UInt8} : eqV .string (.lit (.string (bsO a))) (.lit (.string (bsO b))) = some (decide (a = b)) := by
 have : decide (a = b) = ((bsO a).toList == (bsO b).toList) := by rw [Bool.eq_iff_iff]; simp [toList_inj, bsO_inj]
 rw [this]; rfl
theorem eqv_b {p q : Bool} : eqV .bool (.lit (.bool p)) (.lit (.bool q)) = some (p == q) := rfl
theorem eqv_cons {d : TypeDesc} {ds : List TypeDesc} {x y : PV} {xs ys : List PV} {a b : Bool} (h1 : eqV d x y = some a) (h2 : eqVs ds xs ys = some b) : eqVs (d :: ds) (x :: xs) (y :: ys) = some (a && b) := by simp only [eqVs, h1, h2]
theorem eqv_last {d : TypeDesc} {x y : PV} {a : Bool} (h1 : eqV d x y = some a) : eqVs [d] [x] [y] = some a := by simp only [eqVs, h1, Bool.and_true]
section
variable {P : Program} {Y : Tab} [TabOk P Y] {nb : Nat} {s : St} {dst : Option Tmp} {ty u : TypeId} {pos : String} {af : Array Edge} {gd : Option (Nat × Bool)} {t : TypeId} {x y : Operand}
theorem Body.stqE {ds : List TypeDesc} {xs ys : List PV} {r : Bool} (hx : ev1 s x = .pv (.agg xs)) (hy : ev1 s y = .pv (.agg ys)) (hf : flatEq Y t = some ds) (he : eqVs ds xs ys = some r) : Body P Y nb s ⟨dst, .binOp .eql t x y u, ty, pos, af, gd⟩ (lit (.bool r)) [] [] := by
 refine Body.bin hx hy ?_
 have h2 : binQ Y .eql t (.pv (.agg xs)) (.pv (.agg ys)) = some (true, lit (.bool r)) := by
  simp only [binQ, hf, he]
 show qE (binW Y .eql t (lookM []) (isNilC y) _ _) = _
 have h3 : binW Y .eql t (lookM []) (isNilC y) (.pv (.agg xs)) (.pv (.agg ys)) = some (true, lit (.bool r)) := by
  unfold binW
  simp only [nilQ, nilKind, samePQ, h2]
 rw [h3]; rfl
theorem Body.stqN {ds : List TypeDesc} {xs ys : List PV} {r : Bool} (hx : ev1 s x = .pv (.agg xs)) (hy : ev1 s y = .pv (.agg ys)) (hf : flatEq Y t = some ds) (he : eqVs ds xs ys = some r) : Body P Y nb s ⟨dst, .binOp .neq t x y u, ty, pos, af, gd⟩ (lit (.bool (!r))) [] [] := by
 refine Body.bin hx hy ?_
 have h2 : binQ Y .neq t (.pv (.agg xs)) (.pv (.agg ys)) = some (true, lit (.bool (!r))) := by
  simp only [binQ, hf, he]
 show qE (binW Y .neq t (lookM []) (isNilC y) _ _) = _
 have h3 : binW Y .neq t (lookM []) (isNilC y) (.pv (.agg xs)) (.pv (.agg ys)) = some (true, lit (.bool (!r))) := by
  unfold binW
  simp only [nilQ, nilKind, samePQ, h2]
 rw [h3]; rfl
end
section
variable {P : Program} {n nb : Nat} {Q : Exit → St → Prop} {c : Code} {s : St}
theorem pk_goto (hq : ∀ l s, ¬ Q (.goto l) s) : ∀ {K : List Fr} {l : Nat} {s : St}, ¬ PK P n nb Q K (.goto l) s
 | [], l, s, h => hq l s h
 | .seq y :: K, l, s, h => pk_goto hq (K := K) h
 | .blk id :: K, l, s, h => pk_goto hq (K := K) h
 | .lp C :: K, l, s, h => pk_goto hq (K := K) h
theorem TK.scope {K : List Fr} (hq : ∀ l s, ¬ Q (.goto l) s) (h : TK P n nb Q c K s) : TK P n nb Q (.scope c) K s := by
 intro G a w R I hn hK
 refine wp_scope_straight (h G a w _ I hn ?_)
 intro e s' G1 a1 w1 q I1 Sn1 hn1 hd1
 have := hK e s' G1 a1 w1 q I1 Sn1 hn1 hd1
 cases e with
 | goto l => exact absurd q (pk_goto hq)
 | _ => exact this
theorem TK.label {K : List Fr} {l : Nat} (h : PK P n nb Q K .normal s) : TK P n nb Q (.label l) K s := by
 intro G a w R I hn hK
 exact wp_label (hK _ s G a w h I (Since.refl _ _ _ _) hn rfl)
end
theorem wk_boxpv {nb : Nat} {s : St} {h : Nat} {T0 : TypeId} {ds : List DV} {cs : List PV} (hm : lookM s.ms h = some (.box T0 ds)) (hp : pvOfL (lookM s.ms) ds = some cs) : Wk nb s ⟨s.tm, (h, .box T0 (cs.map .pv)) :: s.ms⟩ := by
 intro G a w I
 have M := I.mem
 have hb := M.ms _ _ hm
 have S1 : Stepped G w (lookM s.ms) .dead [(h, .box T0 (cs.map .pv))] G w undef := by
  refine ⟨Later.refl _ _, by simp only [RelDV], ?_, fun _ _ _ => .inl rfl, fun _ _ => ⟨rfl, fun _ hb => ⟨hb, rfl⟩⟩, M.fresh, fun _ _ hb => .inr hb, fun h hh => by simp [DV.refs] at hh, ?_, fun _ _ hb => .inl hb, fun _ _ _ _ h => .inl h, fun _ _ _ h => .inl h⟩
  ·intro k o hk
   simp only [List.mem_singleton, Prod.mk.injEq] at hk
   obtain ⟨rfl, rfl⟩ := hk
   simp only [RelMO] at hb ⊢
   obtain ⟨e1, b, c, e2, e3, e4, e5, e6⟩ := hb
   exact ⟨e1, b, c, e2, e3, e4, e5, relDVs_pv (pvOfL_sound M.ms hp e6)⟩
  ·intro k o hk h' hh
   simp only [List.mem_singleton, Prod.mk.injEq] at hk
   obtain ⟨rfl, rfl⟩ := hk
   simp only [MO.refs, refsL_pv] at hh
   cases hh
 obtain ⟨I1, Sn1⟩ := I.eff (K := nb) S1 none (by simp)
 exact ⟨G, I1, Sn1⟩
theorem wk_frz0 {nb : Nat} {s : St} {h : Nat} {o : MO} (hf : frzStep (lookM s.ms) h = some o) : Wk nb s ⟨s.tm, (h, o) :: s.ms⟩ := by
 intro G a w I
 obtain ⟨G1, S1⟩ := frz_stepped I.mem hf
 obtain ⟨I1, Sn1⟩ := I.eff (K := nb) S1 none (by simp)
 exact ⟨G1, I1, Sn1⟩
theorem TK.frzC {P : Program} {n nb : Nat} {Q : Exit → St → Prop} {K : List Fr} {c : Code} {s : St} {h h2 v sz : Nat} {T0 T1 : TypeId} {ds : List DV} {cs : List PV} {es : List (List PV)} (hm2 : lookM s.ms h2 = some (.arr v sz T1 es)) (hm : lookM ((h2, .farr v es) :: s.ms) h = some (.box T0 ds))
  (hp : pvOfL (lookM ((h2, .farr v es) :: s.ms)) ds = some cs) (k : TK P n nb Q c K ⟨s.tm, (h, .box T0 (cs.map .pv)) :: (h2, .farr v es) :: s.ms⟩) : TK P n nb Q c K s :=
 T.weak (wk_frz0 (by unfold frzStep; rw [hm2])) (T.weak (wk_boxpv hm hp) k)
end Go.Lens
end
section
namespace Go.Lens.Tm
open Go.Lens.Tb Go.Proofs
set_option linter.unusedSectionVars false
theorem eqf {b : Bool} (h : (b == false) = true) : b = false := by cases b <;> simp_all
theorem lenP_nil : lenP [] = 0 := rfl
theorem words_zero {o : List UInt8} (h : wordsF o = 0) : o ≠ kAct ∧ o ≠ kWait ∧ o ≠ kRep ∧ o ≠ kEnd := by
 unfold wordsF at h
 refine ⟨fun e => ?_, fun e => ?_, fun e => ?_, fun e => ?_⟩ <;> (rw [e] at h; exact absurd h (by decide))
theorem words_some {o : List UInt8} (h : wordsF o ≠ 0) : o = kAct ∨ o = kWait ∨ o = kRep ∨ o = kEnd := by
 unfold wordsF at h
 by_cases h1 : o = kAct
 ·exact .inl h1
 ·by_cases h2 : o = kWait
  ·exact .inr (.inl h2)
  ·by_cases h3 : o = kRep
   ·exact .inr (.inr (.inl h3))
   ·by_cases h4 : o = kEnd
    ·exact .inr (.inr (.inr h4))
    ·rw [if_neg h1, if_neg h2, if_neg h3, if_neg h4] at h; exact absurd rfl h
theorem chk_kind {c : Cmd} (h : wordsF c.1 = 0) : chkC c = 13 := by
 obtain ⟨h1, h2, h3, h4⟩ := words_zero h
 unfold chkC
 rw [if_neg h1, if_neg h4, if_neg h2, if_neg h3]
theorem first_when {b : Bool} {e x : Int} (he : e ≠ 0) : firstF [whenF b e, x] = bif b then e else firstF [x] := by
 cases b
 ·rfl
 ·simp [whenF, firstF, he]
theorem first_one (x : Int) : firstF [x] = x := by
 by_cases h : x = 0 <;> simp [firstF, h]
theorem chk_name {c : Cmd} (h : (bif (decide (c.1 = [97, 99, 116])) then (!(isNameF (bsO c.2.1))) else false) = true) : chkC c = 8 := by
 rw [bif_and, Bool.and_eq_true] at h
 unfold chkC
 rw [if_pos (of_decide_eq_true h.1), first_when (by decide), h.2]; rfl
theorem chk_form {c : Cmd} (h0 : wordsF c.1 ≠ 0) (h : (bif (decide (c.1 ≠ [97, 99, 116])) then (decide (c.2.1 ≠ [])) else false) = true) : chkC c = 1 := by
 rw [bif_and, Bool.and_eq_true] at h
 have h1 : c.1 ≠ kAct := of_decide_eq_true h.1
 unfold chkC
 rw [if_neg h1]
 rcases words_some h0 with e | e | e | e
 ·exact absurd e h1
 ·rw [e, if_neg (by decide), if_pos rfl, first_when (by decide), h.2]; rfl
 ·rw [e, if_neg (by decide), if_neg (by decide), if_pos rfl, first_when (by decide), h.2]; rfl
 ·rw [e, if_pos rfl, first_when (by decide), h.2]; rfl
theorem chk_rest {c : Cmd} (h0 : wordsF c.1 ≠ 0) (h1 : (bif (decide (c.1 = [97, 99, 116])) then (!(isNameF (bsO c.2.1))) else false) = false) (h2 : (bif (decide (c.1 ≠ [97, 99, 116])) then (decide (c.2.1 ≠ [])) else false) = false) :
  chkC c = if c.1 = kWait then withinF c.2.2 1 100000 else if c.1 = kRep then withinF c.2.2 1 100 else withinF c.2.2 0 0 := by
 unfold chkC
 rcases words_some h0 with e | e | e | e
 ·rw [e] at h1 ⊢
  rw [decide_eq_true rfl, cond_true] at h1
  rw [if_pos rfl, if_neg (by decide), if_neg (by decide), first_when (by decide), h1]
  exact first_one _
 ·rw [e] at h2 ⊢
  rw [decide_eq_true (by decide), cond_true] at h2
  rw [if_neg (by decide), if_neg (by decide), if_pos rfl, first_when (by decide), h2]
  exact first_one _
 ·rw [e] at h2 ⊢
  rw [decide_eq_true (by decide), cond_true] at h2
  rw [if_neg (by decide), if_neg (by decide), if_neg (by decide), if_pos rfl, if_neg (by decide), if_pos rfl, first_when (by decide), h2]
  exact first_one _
 ·rw [e] at h2 ⊢
  rw [decide_eq_true (by decide), cond_true] at h2
  rw [if_neg (by decide), if_pos rfl, if_neg (by decide), if_neg (by decide), first_when (by decide), h2]
  exact first_one _
theorem with_out {n a b : Int} (h : outF n a b = true) : withinF n a b = 3 := by unfold withinF whenF; rw [h]; rfl
theorem with_in {n a b : Int} (h : outF n a b = false) : withinF n a b = 0 := by unfold withinF whenF; rw [h]; rfl
theorem chkS_many {l : List Cmd} (h : 64 < ((List.length l : Nat) : Int)) : chkS l = 5 := by unfold chkS; exact if_pos (by omega)
theorem chkS_bad {l : List Cmd} {e : Int} (h : ¬ 64 < ((List.length l : Nat) : Int)) (hb : badC l = e) (he : e ≠ 0) : chkS l = e := by
 unfold chkS
 rw [if_neg (by omega), if_pos (by rw [hb]; exact he), hb]
theorem chkS_dep {l : List Cmd} {e : Int} (h : ¬ 64 < ((List.length l : Nat) : Int)) (hb : badC l = 0) (hd : depC 0 l = e) (he : e ≠ 0) : chkS l = e := by
 unfold chkS
 rw [if_neg (by omega), if_neg (by rw [hb]; simp), if_pos (by rw [hd]; exact he), hd]
theorem chkS_len {l : List Cmd} (h : ¬ 64 < ((List.length l : Nat) : Int)) (hb : badC l = 0) (hd : depC 0 l = 0) : chkS l = whenF (decide (10000 < lenP l)) 22 := by
 unfold chkS
 rw [if_neg (by omega), if_neg (by rw [hb]; simp), if_neg (by rw [hd]; simp)]
theorem chkS_ok {l : List Cmd} (h : chkS l = 0) : l.length ≤ 64 ∧ (∀ c ∈ l, chkC c = 0) ∧ depC 0 l = 0 ∧ lenP l ≤ 10000 := by
 unfold chkS at h
 split at h
 ·cases h
 ·split at h
  ·rename_i h2; exact absurd h h2
  ·split at h
   ·rename_i h3; exact absurd h h3
   ·rename_i h1 h2 h3
    refine ⟨by omega, badC_all (Decidable.not_not.1 h2), Decidable.not_not.1 h3, ?_⟩
    unfold whenF at h
    cases hq : decide (10000 < lenP l) with
    | true => rw [hq] at h; cases h
    | false => have := of_decide_eq_false hq; omega
theorem bad_end {l : List Cmd} {k : Nat} (h : ¬ k < l.length) : badC (l.drop k) = 0 := by rw [List.drop_of_length_le (by omega)]; rfl
theorem dep_nil {l : List Cmd} {k d : Nat} (h : ¬ k < l.length) : depC d (l.drop k) = if 0 < d then 2 else 0 := by rw [List.drop_of_length_le (by omega)]; rfl
def shortS (l : List Cmd) (n : Int) : Bool :=
 bif (decide (n < (l.length : Int)) && decide ((l.length : Int) ≤ 64)) || decide (66 < (l.length : Int)) then false
 else (l.all fun c => decide (c.1.length ≤ 40) && decide (c.2.1.length ≤ 40)) && (bif decide (chkS l ≠ 0) then true else decide (lenP l ≤ 400))
theorem take_cmd (l : List Cmd) (k : Nat) (h : k < l.length) : l.take (k + 1) = l.take k ++ [l.getD k z3] := by
 rw [List.take_add_one, List.getElem?_eq_getElem h, List.getD_eq_getElem?_getD, List.getElem?_eq_getElem h]; rfl
section
variable {l : List Cmd} {n : Int} {k : Nat}
theorem ss_many (h : (bif (bif (decide (n < ((List.length l : Nat) : Int))) then (decide (((List.length l : Nat) : Int) ≤ 64)) else false) then true else (decide (66 < ((List.length l : Nat) : Int)))) = true) : shortS l n = false := by
 unfold shortS; rw [bif_or, bif_and] at h; rw [h]; rfl
theorem ss_few (h : (bif (bif (decide (n < ((List.length l : Nat) : Int))) then (decide (((List.length l : Nat) : Int) ≤ 64)) else false) then true else (decide (66 < ((List.length l : Nat) : Int)))) = false) : shortS l n = ((l.all fun c => decide (c.1.length ≤ 40) && decide (c.2.1.length ≤ 40)) && (bif decide (chkS l ≠ 0) then true else decide (lenP l ≤ 400))) := by
 unfold shortS; rw [bif_or, bif_and] at h; rw [h]; rfl
theorem ss_q {b : Bool} {c : Cmd} (h : (bif (decide (40 < ((List.length (Prod.fst c) : Nat) : Int))) then true else (decide (40 < ((List.length (Prod.fst (Prod.snd c)) : Nat) : Int)))) = b) : (decide (c.1.length ≤ 40) && decide (c.2.1.length ≤ 40)) = !b := by
 rw [← h, bif_or, Bool.not_or]
 congr 1
 ·rw [Bool.eq_iff_iff]; simp; omega
 ·rw [Bool.eq_iff_iff]; simp; omega
theorem ss_no (h1 : (bif (bif (decide (n < ((List.length l : Nat) : Int))) then (decide (((List.length l : Nat) : Int) ≤ 64)) else false) then true else (decide (66 < ((List.length l : Nat) : Int)))) = false) (hk : k < l.length)
  (h : (bif (decide (40 < ((List.length (Prod.fst (List.getD l k z3)) : Nat) : Int))) then true else (decide (40 < ((List.length (Prod.fst (Prod.snd (List.getD l k z3))) : Nat) : Int)))) = true) : shortS l n = false := by
 rw [ss_few h1]
 have : (l.all fun c => decide (c.1.length ≤ 40) && decide (c.2.1.length ≤ 40)) = false := by
  rw [List.all_eq_false]
  exact ⟨l.getD k z3, getD_mem hk, by rw [ss_q h]; simp⟩
 rw [this]; rfl
theorem ss_yes (h1 : (bif (bif (decide (n < ((List.length l : Nat) : Int))) then (decide (((List.length l : Nat) : Int) ≤ 64)) else false) then true else (decide (66 < ((List.length l : Nat) : Int)))) = false)
  (h : ∀ j, j < l.length → (decide (List.length (List.getD l j z3).1 ≤ 40) && decide (List.length (List.getD l j z3).2.1 ≤ 40)) = true) : shortS l n = (bif decide (chkS l ≠ 0) then true else decide (lenP l ≤ 400)) := by
 rw [ss_few h1]
 have : (l.all fun c => decide (c.1.length ≤ 40) && decide (c.2.1.length ≤ 40)) = true := by
  rw [List.all_eq_true]
  intro f hf
  obtain ⟨j, hj, rfl⟩ := List.getElem_of_mem hf
  have := h j hj
  rwa [List.getD_eq_getElem?_getD, List.getElem?_eq_getElem hj] at this
 rw [this]; rfl
end
def LnI (l : List Cmd) (k : Nat) (s : Int) (st : List (Int × Int)) : Prop := (lenGo s st (l.drop k) = lenP l ∧ depC st.length (l.drop k) = 0 ∧ st.length ≤ k) ∧ 0 ≤ s ∧ ∀ p ∈ st, 0 ≤ p.1 ∧ 1 ≤ p.2
theorem ln_init {l : List Cmd} (h : depC 0 l = 0) : LnI l 0 0 [] := ⟨⟨rfl, h, Nat.le_refl _⟩, Int.le_refl _, fun p hp => by cases hp⟩
section
variable {l : List Cmd} {k : Nat} {s : Int} {st : List (Int × Int)}
theorem ln_le (h : LnI l k s st) (hc : ∀ c ∈ l, chkC c = 0) : s ≤ lenP l ∧ ∀ p ∈ st, p.1 ≤ lenP l := by
 obtain ⟨⟨h1, h2, _⟩, h3, h4⟩ := h
 rw [← h1]
 exact len_ge h2 (fun c hx => hc c (List.mem_of_mem_drop hx)) h3 h4
theorem ln_rep (h : LnI l k s st) (hc : ∀ c ∈ l, chkC c = 0) (hk : k < l.length) (h0 : (l.getD k z3).1 = kRep) : LnI l (k + 1) 1 ((s, (l.getD k z3).2.2) :: st) := by
 obtain ⟨⟨h1, h2, h5⟩, h3, h4⟩ := h
 rw [dep_rep hk h0] at h2
 have hr := cnt_rep (hc _ (getD_mem (z := z3) hk)) h0
 split at h2
 ·cases h2
 ·refine ⟨⟨(len_rep hk h0).symm.trans h1, h2, by simp only [List.length_cons]; omega⟩, by decide, fun p hp => ?_⟩
  rcases List.mem_cons.1 hp with rfl | hp
  ·exact ⟨h3, hr.1⟩
  ·exact h4 p hp
theorem ln_some (h : LnI l k s st) (hk : k < l.length) (h0 : (l.getD k z3).1 = kEnd) : ∃ p st2, st = p :: st2 := by
 obtain ⟨⟨_, h2, _⟩, _, _⟩ := h
 rw [dep_end hk h0] at h2
 cases st with
 | nil => cases h2
 | cons p st => exact ⟨p, st, rfl⟩
theorem ln_pop {p : Int × Int} (h : LnI l k s (p :: st)) (hk : k < l.length) (h0 : (l.getD k z3).1 = kEnd) : LnI l (k + 1) (p.1 + p.2 * s) st := by
 obtain ⟨⟨h1, h2, h5⟩, h3, h4⟩ := h
 rw [dep_end hk h0] at h2
 have hp := h4 p (List.mem_cons_self ..)
 refine ⟨⟨(len_end hk h0).symm.trans h1, ?_, by simp only [List.length_cons] at h5; omega⟩, ?_, fun q hq => h4 q (List.mem_cons_of_mem _ hq)⟩
 ·simpa using h2
 ·have := Int.mul_nonneg (show 0 ≤ p.2 by omega) h3
  omega
theorem ln_one (h : LnI l k s st) (hk : k < l.length) (h0 : (l.getD k z3).1 ≠ kRep) (h6 : (l.getD k z3).1 ≠ kEnd) : LnI l (k + 1) (s + 1) st := by
 obtain ⟨⟨h1, h2, h5⟩, h3, h4⟩ := h
 rw [dep_one hk h0 h6] at h2
 exact ⟨⟨(len_one hk h0 h6).symm.trans h1, h2, by omega⟩, by omega, h4⟩
theorem ln_end (h : LnI l k s st) (hk : ¬ k < l.length) : (smL st s).getD 0 0 = lenP l := by
 obtain ⟨⟨h1, h2, _⟩, _, _⟩ := h
 rw [dep_nil hk] at h2
 have : st = [] := by
  split at h2
  ·cases h2
  ·exact List.eq_nil_of_length_eq_zero (by omega)
 subst this
 rw [List.drop_of_length_le (by omega)] at h1
 exact h1
end
end Go.Lens.Tm
end
section
namespace Go.Lens.Tm
open Go.Lens.Tb Go.Proofs
set_option linter.unusedSectionVars false
def unrGo : List Cmd → List (List Cmd × Nat) → List Cmd → List Cmd
 | a, _, [] => a
 | a, st, c :: l => if c.1 = kRep then unrGo [] ((a, c.2.2.toNat) :: st) l else if c.1 = kEnd then (match st with
   | [] => a
   | p :: st => unrGo (p.1 ++ (List.replicate p.2 a).flatten) st l) else unrGo (a ++ [c]) st l
theorem unrGo_cons (a : List Cmd) (st : List (List Cmd × Nat)) (c : Cmd) (l : List Cmd) : unrGo a st (c :: l) = if c.1 = kRep then unrGo [] ((a, c.2.2.toNat) :: st) l else if c.1 = kEnd then (match st with
   | [] => a
   | p :: st => unrGo (p.1 ++ (List.replicate p.2 a).flatten) st l) else unrGo (a ++ [c]) st l := by cases st <;> rfl
def unrP (l : List Cmd) : List Cmd := unrGo [] [] l
def tms (n : Nat) (a : List Cmd) : List Cmd := (List.replicate n a).flatten
theorem tms_zero (a : List Cmd) : tms 0 a = [] := rfl
theorem tms_succ (n : Nat) (a : List Cmd) : tms (n + 1) a = tms n a ++ a := by
 unfold tms
 rw [List.replicate_succ', List.flatten_append]; simp
theorem wf_unr {d : Nat} {l : List Cmd} (h : Wf d l) : ∀ (a : List Cmd) (st : List (List Cmd × Nat)) (r : List Cmd), unrGo a st (l ++ r) = unrGo (a ++ unrP l) st r := by
 induction h with
 | nil d => intro a st r; rw [List.nil_append]; simp [unrP, unrGo]
 | @one d c l h1 h2 h ih =>
  intro a st r
  have e : unrP (c :: l) = [c] ++ unrP l := by
   have := ih [c] [] []
   rw [List.append_nil] at this
   rw [unrP, unrGo_cons, if_neg h1, if_neg h2, List.nil_append, this]; rfl
  rw [List.cons_append, unrGo_cons, if_neg h1, if_neg h2, ih, e, List.append_assoc]
 | @rep d c e b l h1 h2 hb hl ihb ihl =>
  have key : ∀ (a : List Cmd) (st : List (List Cmd × Nat)) (r : List Cmd), unrGo a st ((c :: (b ++ e :: l)) ++ r) = unrGo (a ++ (tms c.2.2.toNat (unrP b) ++ unrP l)) st r := by
   intro a st r
   rw [List.cons_append, unrGo_cons, if_pos h1, List.append_assoc, ihb, List.cons_append, unrGo_cons, if_neg (by rw [h2]; exact Ne.symm rep_end), if_pos h2]
   show unrGo (a ++ tms c.2.2.toNat ([] ++ unrP b)) st (l ++ r) = _
   rw [List.nil_append, ihl, List.append_assoc]
  have e0 : unrP (c :: (b ++ e :: l)) = tms c.2.2.toNat (unrP b) ++ unrP l := by
   have := key [] [] []
   rw [List.append_nil, List.nil_append] at this
   exact this
  intro a st r
  rw [key, e0]
theorem wf_one_unr {d : Nat} {c : Cmd} {l : List Cmd} (h1 : c.1 ≠ kRep) (h2 : c.1 ≠ kEnd) (h : Wf d l) : unrP (c :: l) = c :: unrP l := by
 have := wf_unr h [c] [] []
 rw [List.append_nil] at this
 rw [unrP, unrGo_cons, if_neg h1, if_neg h2, List.nil_append, this]; rfl
theorem wf_rep_unr {d : Nat} {c e : Cmd} {b l : List Cmd} (h1 : c.1 = kRep) (h2 : e.1 = kEnd) (hb : Wf d b) (hl : Wf (d + 1) l) : unrP (c :: (b ++ e :: l)) = tms c.2.2.toNat (unrP b) ++ unrP l := by
 have h3 := wf_unr hl (tms c.2.2.toNat (unrP b)) [] []
 rw [List.append_nil] at h3
 rw [unrP, unrGo_cons, if_pos h1, wf_unr hb, unrGo_cons, if_neg (by rw [h2]; exact Ne.symm rep_end), if_pos h2]
 show unrGo ([] ++ tms c.2.2.toNat ([] ++ unrP b)) [] l = _
 rw [List.nil_append, List.nil_append, h3]; rfl
theorem unrP_nil : unrP [] = [] := rfl
theorem tms_len (n : Nat) (a : List Cmd) : (tms n a).length = n * a.length := by
 induction n with
 | zero => simp [tms]
 | succ n ih => rw [tms_succ, List.length_append, ih, Nat.add_mul]; omega
theorem tms_mem {n : Nat} {a : List Cmd} {c : Cmd} (h : c ∈ tms n a) : c ∈ a := by
 unfold tms at h
 obtain ⟨l, hl, hc⟩ := List.mem_flatten.1 h
 rw [(List.mem_replicate.1 hl).2] at hc
 exact hc
theorem wf_unr_len {d : Nat} {l : List Cmd} (h : Wf d l) (hc : ∀ c ∈ l, chkC c = 0) : ((unrP l).length : Int) ≤ lenP l ∧ ∀ c ∈ unrP l, c ∈ l ∧ c.1 ≠ kRep ∧ c.1 ≠ kEnd := by
 induction h with
 | nil d => exact ⟨by simp [unrP_nil, lenP_nil], fun c h => by cases h⟩
 | @one d c l h1 h2 h ih =>
  have := ih fun x hx => hc x (List.mem_cons_of_mem _ hx)
  rw [wf_one_len h1 h2 h, wf_one_unr h1 h2 h]
  refine ⟨by simp only [List.length_cons]; omega, fun x hx => ?_⟩
  rcases List.mem_cons.1 hx with rfl | hx
  ·exact ⟨List.mem_cons_self .., h1, h2⟩
  ·have k := this.2 x hx; exact ⟨List.mem_cons_of_mem _ k.1, k.2⟩
 | @rep d c e b l h1 h2 hb hl ihb ihl =>
  have kb := ihb fun x hx => hc x (by simp [hx])
  have kl := ihl fun x hx => hc x (by simp [hx])
  have hr := cnt_rep (hc c (List.mem_cons_self ..)) h1
  rw [wf_rep_len h1 h2 hb hl, wf_rep_unr h1 h2 hb hl]
  refine ⟨?_, fun x hx => ?_⟩
  ·rw [List.length_append, tms_len]
   have h3 : c.2.2 * ((unrP b).length : Int) ≤ c.2.2 * (1 + lenP b) := Int.mul_le_mul_of_nonneg_left (by omega) (by omega)
   have h4 : ((c.2.2.toNat * (unrP b).length : Nat) : Int) = c.2.2 * ((unrP b).length : Int) := by
    rw [Int.natCast_mul, Int.toNat_of_nonneg (by omega)]
   omega
  ·rcases List.mem_append.1 hx with hx | hx
   ·have k := kb.2 x (tms_mem hx); exact ⟨by simp [k.1], k.2⟩
   ·have k := kl.2 x hx; exact ⟨by simp [k.1], k.2⟩
theorem wf_at_unr {d : Nat} {l : List Cmd} {i : Nat} (hw : Wf d (l.drop i)) (hi : i < l.length) (h0 : (l.getD i z3).1 = kRep) :
  unrP (l.drop i) = tms (l.getD i z3).2.2.toNat (unrP ((l.take (matGo 0 i (l.drop i))).drop (i + 1))) ++ unrP (l.drop (matGo 0 i (l.drop i) + 1)) := by
 have hd := dropC hi
 generalize hq : l.drop i = q at hw hd
 cases hw with
 | nil d => cases hd
 | one h1 h2 h => cases hd; exact absurd h0 h1
 | @rep d' c e b r h1 h2 hb hr =>
  injection hd with k1 k2
  have hm : matGo 0 i (c :: (b ++ e :: r)) = i + 1 + b.length := by
   rw [matGo, if_pos h1, wf_mat hb _ _ _ (by omega), matGo, if_neg (by rw [h2]; exact Ne.symm rep_end), if_pos h2, if_pos (by omega)]
  have htb : (l.take (i + 1 + b.length)).drop (i + 1) = b := by
   rw [List.drop_take, ← k2, show i + 1 + b.length - (i + 1) = b.length by omega, List.take_left]
  have hdr : l.drop (i + 1 + b.length + 1) = r := by
   rw [show i + 1 + b.length + 1 = (i + 1) + (b.length + 1) by omega, ← List.drop_drop, ← k2, ← List.drop_drop, List.drop_left]; rfl
  rw [hm, htb, hdr, ← k1]
  exact wf_rep_unr h1 h2 hb hr
theorem wf_next_unr {d : Nat} {l : List Cmd} {i : Nat} (hw : Wf d (l.drop i)) (hi : i < l.length) (h0 : (l.getD i z3).1 ≠ kRep) : unrP (l.drop i) = l.getD i z3 :: unrP (l.drop (i + 1)) := by
 have hd := dropC hi
 generalize hq : l.drop i = q at hw hd
 cases hw with
 | nil d => cases hd
 | one h1 h2 h =>
  injection hd with k1 k2
  rw [← k1, ← k2]
  exact wf_one_unr h1 h2 h
 | rep h1 h2 hb hr => injection hd with k1 k2; rw [k1] at h1; exact absurd h1 h0
end Go.Lens.Tm
end
section
namespace Go.Lens.Tm
open Go.Lens.Tb Go.Proofs
set_option linter.unusedSectionVars false
abbrev LSt := List UInt8 × Int × Bool × Bool
abbrev gS (s : LSt) : PV := .agg [pS (bsO s.1), pI s.2.1, pB s.2.2.1, pB s.2.2.2]
abbrev bS (s : LSt) : MO := .box 81 [vS (bsO s.1), vI s.2.1, vB s.2.2.1, vB s.2.2.2]
abbrev mIdle : List UInt8 := [105, 100, 108, 101]
abbrev mOpen : List UInt8 := [111, 112, 101, 110]
abbrev mClosed : List UInt8 := [99, 108, 111, 115, 101, 100]
abbrev mSafe : List UInt8 := [115, 97, 102, 101]
def stPV (s : LSt) : List PV := [.lit (.string (bsO s.1)), .lit (.int .i64 s.2.1), .lit (.bool s.2.2.1), .lit (.bool s.2.2.2)]
def knownB (m : List UInt8) : Bool := decide (m = mIdle) || (decide (m = mOpen) || (decide (m = mClosed) || decide (m = mSafe)))
def wrongB (s : LSt) : Bool := ((decide (0 < s.2.1) && decide (s.1 ≠ mClosed)) || (s.2.2.1 && decide (s.1 = mClosed))) || (s.2.2.2 && (decide (s.1 = mOpen) || decide (s.1 = mClosed)))
def chkSt (s : LSt) : Int := firstF [whenF (!knownB s.1) 13, withinF s.2.1 0 2, whenF (wrongB s) 18]
abbrev aStart : List UInt8 := [115, 116, 97, 114, 116]
abbrev aClose : List UInt8 := [99, 108, 111, 115, 101]
abbrev aOpen : List UInt8 := [111, 112, 101, 110]
abbrev aStop : List UInt8 := [115, 116, 111, 112]
abbrev aSat : List UInt8 := [115, 97, 116, 117, 114, 97, 116, 101]
abbrev aClear : List UInt8 := [99, 108, 101, 97, 114]
abbrev aLose : List UInt8 := [108, 111, 115, 101]
abbrev aFind : List UInt8 := [102, 105, 110, 100]
abbrev aGust : List UInt8 := [103, 117, 115, 116]
abbrev aCalm : List UInt8 := [99, 97, 108, 109]
abbrev aReset : List UInt8 := [114, 101, 115, 101, 116]
def actNs : List (List UInt8) := [aStart, aClose, aOpen, aStop, aSat, aClear, aLose, aFind, aGust, aCalm, aReset]
def toM (s : LSt) (m : List UInt8) : LSt := (m, if s.1 = m then s.2.1 else 0, s.2.2.1, s.2.2.2)
def permA (s : LSt) (a : List UInt8) : Bool :=
 if a = aStart then decide (s.1 = mIdle) && !s.2.2.2
 else if a = aClose then decide (s.1 = mOpen) && !s.2.2.1
 else if a = aOpen then decide (s.1 = mClosed)
 else if a = aStop then decide (s.1 = mOpen) || decide (s.1 = mClosed)
 else if a = aSat then decide (s.1 = mClosed)
 else if a = aClear then decide (s.1 = mClosed)
 else if a = aLose then !s.2.2.1
 else if a = aFind then s.2.2.1
 else if a = aGust then !s.2.2.2
 else if a = aCalm then s.2.2.2
 else decide (s.1 = mSafe) && !s.2.2.2
def effA (s : LSt) (a : List UInt8) : LSt :=
 if a = aStart then toM s mOpen
 else if a = aClose then toM s mClosed
 else if a = aOpen then toM s mOpen
 else if a = aStop then toM s mIdle
 else if a = aSat then (if s.2.1 + 1 = 3 then toM s mSafe else (s.1, s.2.1 + 1, s.2.2.1, s.2.2.2))
 else if a = aClear then (s.1, 0, s.2.2.1, s.2.2.2)
 else if a = aLose then (if s.1 = mClosed then toM (s.1, s.2.1, true, s.2.2.2) mSafe else (s.1, s.2.1, true, s.2.2.2))
 else if a = aFind then (s.1, s.2.1, false, s.2.2.2)
 else if a = aGust then (if s.1 = mOpen ∨ s.1 = mClosed then toM (s.1, s.2.1, s.2.2.1, true) mSafe else (s.1, s.2.1, s.2.2.1, true))
 else if a = aCalm then (s.1, s.2.1, s.2.2.1, false)
 else toM s mIdle
def zSt : LSt := ([], 0, false, false)
def actP (s : LSt) (a : List UInt8) : LSt × Int := if a ∈ actNs then (if permA s a then (effA s a, 0) else (zSt, 18)) else (zSt, 13)
def bools : List Bool := [false, true]
def sts : List LSt :=
 [(mIdle, 0, false, false), (mIdle, 0, false, true), (mIdle, 0, true, false), (mIdle, 0, true, true), (mOpen, 0, false, false), (mOpen, 0, true, false), (mClosed, 0, false, false), (mClosed, 1, false, false), (mClosed, 2, false, false),
  (mSafe, 0, false, false), (mSafe, 0, false, true), (mSafe, 0, true, false), (mSafe, 0, true, true)]
theorem first3c {a b c : Int} (h : firstF [a, b, c] = 0) : a = 0 ∧ b = 0 ∧ c = 0 := by
 rw [firstF] at h
 split at h
 ·rename_i ha
  exact ⟨ha, first2 h⟩
 ·rename_i ha; exact absurd h ha
theorem when_zero {b : Bool} {e : Int} (he : e ≠ 0) (h : whenF b e = 0) : b = false := by
 cases b
 ·rfl
 ·exact absurd h he
theorem st_valid {s : LSt} (h : chkSt s = 0) : s ∈ sts := by
 obtain ⟨h1, h2, h3⟩ := first3c h
 have k1 := when_zero (by decide) h1
 have k2 := with_rng h2
 have k3 := when_zero (by decide) h3
 obtain ⟨m, n, lo, wi⟩ := s
 simp only [Bool.not_eq_false'] at k1
 have hn : n = 0 ∨ n = 1 ∨ n = 2 := by simp only at k2; omega
 have hm : m = mIdle ∨ m = mOpen ∨ m = mClosed ∨ m = mSafe := by
  simpa [knownB] using k1
 rcases hm with rfl | rfl | rfl | rfl <;> rcases hn with rfl | rfl | rfl <;> cases lo <;> cases wi <;> first | decide | (exact absurd k3 (by decide))
theorem st_chk : ∀ s ∈ sts, chkSt s = 0 := by decide
theorem act_stays : ∀ s ∈ sts, ∀ a ∈ actNs, (actP s a).2 = 0 → (actP s a).1 ∈ sts := by decide
theorem act_valid {s : LSt} {a : List UInt8} (hs : s ∈ sts) (h : (actP s a).2 = 0) : (actP s a).1 ∈ sts := by
 by_cases ha : a ∈ actNs
 ·exact act_stays s hs a ha h
 ·rw [actP, if_neg ha] at h; cases h
end Go.Lens.Tm
end
section
namespace Go.Lens.Tm
open Go.Lens.Tb Go.Proofs
set_option linter.unusedSectionVars false
abbrev Stp := Int × List UInt8
def eP (p : Stp) : List PV := [.lit (.int .i64 (Prod.fst p)), .lit (.string (bsO (Prod.snd p)))]
abbrev Mc := LSt × Int × List Stp
abbrev bM (m : Mc) : MO := .box 217 [vS (bsO m.1.1), vI m.1.2.1, vB m.1.2.2.1, vB m.1.2.2.2, vI m.2.1, vI 0, .aref 900 m.2.2.length]
abbrev aM (m : Mc) : MO := .arr m.2.2.length 2 164 (List.map eP m.2.2)
abbrev bE (m : Mc) : MO := .box 220 [vS (bsO m.1.1), vI m.1.2.1, vB m.1.2.2.1, vB m.1.2.2.2, vI m.2.1, vL eP m.2.2, vI 0]
abbrev gE (m : Mc) : PV := .agg [pS (bsO m.1.1), pI m.1.2.1, pB m.1.2.2.1, pB m.1.2.2.2, pI m.2.1, pL eP m.2.2, pI 0]
def take1 (m : Mc) (c : Cmd) : Mc × Int :=
 if c.1 = kWait then (if 999999999 < m.2.1 + c.2.2 then (m, 3) else ((m.1, m.2.1 + c.2.2, m.2.2), 0))
 else if 1000 ≤ m.2.2.length then (m, 5)
 else if (actP m.1 c.2.1).2 ≠ 0 then (m, (actP m.1 c.2.1).2) else (((actP m.1 c.2.1).1, m.2.1, m.2.2 ++ [(m.2.1, c.2.1)]), 0)
def takes (m : Mc) : List Cmd → Mc × Int
 | [] => (m, 0)
 | c :: l => if (take1 m c).2 ≠ 0 then take1 m c else takes (take1 m c).1 l
theorem takes_nil (m : Mc) : takes m [] = (m, 0) := rfl
theorem takes_bad {m : Mc} {c : Cmd} {l : List Cmd} (h : (take1 m c).2 ≠ 0) : takes m (c :: l) = take1 m c := by rw [takes, if_pos h]
theorem takes_ok {m : Mc} {c : Cmd} {l : List Cmd} (h : (take1 m c).2 = 0) : takes m (c :: l) = takes (take1 m c).1 l := by rw [takes, if_neg (by rw [h]; simp)]
theorem takes_app : ∀ (a : List Cmd) (m : Mc) (b : List Cmd), takes m (a ++ b) = if (takes m a).2 ≠ 0 then takes m a else takes (takes m a).1 b
 | [], m, b => by simp [takes]
 | c :: a, m, b => by
  rw [List.cons_append]
  by_cases h : (take1 m c).2 = 0
  ·rw [takes_ok h, takes_ok h, takes_app a]
  ·rw [takes_bad h, takes_bad h, if_pos h]
def OkM (m : Mc) : Prop := m.1 ∈ sts ∧ 0 ≤ m.2.1 ∧ m.2.1 ≤ 999999999 ∧ m.2.2.length ≤ 1000
theorem take1_ok {m : Mc} {c : Cmd} (h : OkM m) (hc : chkC c = 0) : OkM (take1 m c).1 := by
 obtain ⟨h1, h2, h3, h4⟩ := h
 unfold take1
 split
 ·rename_i hw
  have := cnt_wait hc hw
  split
  ·exact ⟨h1, h2, h3, h4⟩
  ·exact ⟨h1, by show 0 ≤ m.2.1 + c.2.2; omega, by show m.2.1 + c.2.2 ≤ 999999999; omega, h4⟩
 ·split
  ·exact ⟨h1, h2, h3, h4⟩
  ·split
   ·exact ⟨h1, h2, h3, h4⟩
   ·rename_i hl ha
    refine ⟨act_valid h1 (Decidable.not_not.1 ha), h2, h3, ?_⟩
    simp only [List.length_append, List.length_cons, List.length_nil]
    omega
theorem takes_okM : ∀ {l : List Cmd} {m : Mc}, OkM m → (∀ c ∈ l, chkC c = 0) → OkM (takes m l).1
 | [], m, h, _ => h
 | c :: l, m, h, hc => by
  have k := take1_ok h (hc c (List.mem_cons_self ..))
  by_cases h0 : (take1 m c).2 = 0
  ·rw [takes_ok h0]; exact takes_okM k fun x hx => hc x (List.mem_cons_of_mem _ hx)
  ·rw [takes_bad h0]; exact k
def runX (s : LSt) (t : Int) (l : List Cmd) : Int := firstF [chkSt s, withinF t 0 999999999, chkS l]
def runP (s : LSt) (t : Int) (l : List Cmd) : Mc × Int := if runX s t l ≠ 0 then ((zSt, 0, []), runX s t l) else takes (s, t, []) (unrP l)
end Go.Lens.Tm
end
section
namespace Go.Lens
set_option linter.unusedSectionVars false
variable [Lz]
section
variable {P : Program} {Y : Tab} [TabOk P Y] {nb : Nat} {s : St} {dst : Option Tmp} {ty u : TypeId} {pos : String} {af : Array Edge} {gd : Option (Nat × Bool)} {t : TypeId} {x y : Operand}
theorem Body.lenA {α : Type} {enc : α → List PV} {l : List α} {h v sz : Nat} {at' e T : TypeId} (hx : ev1 s x = .aref h v) (hm : lookM s.ms h = some (.arr v sz T (l.map enc))) (hu : Y.underlying at' = some (.slice e)) : Body P Y nb s ⟨dst, .call ⟨.builtin .len, ⟨[x]⟩, ⟨[at']⟩⟩, ty, pos, af, gd⟩ (lit (.int .i64 (l.length : Int))) [] [h] := by
 refine .inr (SBody.of fun σ G a w hv hl I => ?_)
 have hX := hv x (by simp [Op.operands, Call.operands])
 rw [hx] at hX
 have hlk : lookM σ.ms h = some (.arr v sz T (l.map enc)) := by rw [hl h (.inl (by simp))]; exact hm
 have hq : lenQ Y at' (lookM σ.ms) (.aref h v) = some (true, lit (.int .i64 (l.length : Int))) := by
  unfold lenQ
  rw [hu]
  simp [lenOf, hlk]
 obtain ⟨r, h1, h2⟩ := lenQ_sound (P := P) (ty := ty) I.ctxS.sees hq hX
 refine ⟨r, w, G, .inl ?_, stepped_same I.ctxS h2 (fun k hk => by simp [lit, DV.refs] at hk)⟩
 simp only [execOp, resolve, Sem.run_bind, Sem.run_pure, Result.andThen_ok, invoke, builtin, List.map_toArray, List.map_cons, List.map_nil]
 rw [h1]; rfl
theorem Body.slTD {α : Type} {enc : α → List PV} {l : List α} {lo hi : Operand} {k k2 : IntKind} {n m : Int} {i j : Nat} {e : TypeId} {sz : Nat} (hx : ev1 s x = .pv (.slice (l.map enc))) (hy : ev1 s lo = lit (.int k n)) (hz : ev1 s hi = lit (.int k2 m)) (hu : Y.underlying t = some (.slice e)) (hs : szT Y e = some sz) (hsz : ∀ a, (enc a).length = sz) (hn : n = (i : Int)) (hm : m = (j : Int)) (hi1 : i ≤ j) (hj : j ≤ l.length) :
 Body P Y nb s ⟨dst, .slice t x (some lo) (some hi) none, ty, pos, af, gd⟩ (.pv (.slice (((l.take j).drop i).map enc))) [] [] := by
 refine Body.pure (lo := 0) (nm := 0) (O0_ok P) ?_ ?_
 ·intro z hz'
  have : z = x ∨ z = lo ∨ z = hi := by simpa [Op.operands] using hz'
  rcases this with rfl | rfl | rfl
  ·rw [hx]; rfl
  ·rw [hy]; rfl
  ·rw [hz]; rfl
 ·have e1 : evU (tmpsOf [x, lo, hi]) s x = _ := (evU_own (by simp)).trans hx
  have e2 : evU (tmpsOf [x, lo, hi]) s lo = _ := (evU_own (by simp)).trans hy
  have e3 : evU (tmpsOf [x, lo, hi]) s hi = _ := (evU_own (by simp)).trans hz
  have hv : effV Y 0 dst (.slice t x (some lo) (some hi) none) (evU (tmpsOf [x, lo, hi]) s) (lookM []) = liftQ (sliceW Y t (lookM []) (evU (tmpsOf [x, lo, hi]) s x) (some (evU (tmpsOf [x, lo, hi]) s lo)) (some (evU (tmpsOf [x, lo, hi]) s hi)) none) := by
   show (match frzU (lookM []) (refsOf (evU (tmpsOf [x, lo, hi]) s) [x]) with
    | [] => stepV Y 0 dst (.slice t x (some lo) (some hi) none) (evU (tmpsOf [x, lo, hi]) s) (lookM []) (lookM [])
    | fz => match stepV Y 0 dst (.slice t x (some lo) (some hi) none) (evU (tmpsOf [x, lo, hi]) s) (upd fz (lookM [])) (upd fz (lookM [])) with
     | some ⟨s, v, ms⟩ => some ⟨s, v, mrg ms fz⟩
     | none => none) = _
   have hrf : refsOf (evU (tmpsOf [x, lo, hi]) s) [x] = [] := by simp [refsOf, e1, DV.refs]
   rw [hrf]; rfl
  show (match effV Y 0 dst (.slice t x (some lo) (some hi) none) (evU (tmpsOf [x, lo, hi]) s) (lookM []) with | some ⟨true, v, m⟩ => some (v, m) | _ => none) = _
  rw [hv, e1, e2, e3]
  have hal : allLen sz (l.map enc) = true := by
   unfold allLen
   rw [List.all_eq_true]
   intro b hb
   obtain ⟨c, _, rfl⟩ := List.mem_map.1 hb
   simpa using hsz c
  have hq : sliceW Y t (lookM []) (.pv (.slice (l.map enc))) (some (lit (.int k n))) (some (lit (.int k2 m))) none = some (true, .pv (.slice (((l.take j).drop i).map enc))) := by
   show sliceQ Y t (lookM []) (.pv (.slice (l.map enc))) (some (lit (.int k n))) (some (lit (.int k2 m))) none = _
   unfold sliceQ lit
   simp only [hu, hs, bound, Option.getD_some, hal, Bool.and_true]
   subst hn hm
   have : decide ((0 : Int) ≤ (i : Int) ∧ (i : Int) ≤ (j : Int) ∧ (j : Int) ≤ ((l.map enc).length : Int)) = true := decide_eq_true ⟨by omega, by omega, by rw [List.length_map]; omega⟩
   rw [this, Int.toNat_natCast, Int.toNat_natCast, List.map_drop, List.map_take]
  rw [hq]; rfl
end
end Go.Lens
end
section
namespace Go.Lens.Tm
open Go.Lens.Tb Go.Proofs
variable [Lz]
set_option linter.unusedSectionVars false
set_option maxRecDepth 100000
attribute [local irreducible] TK PK T RG EfR Body
theorem ag115 : aggT tab 115 = some true := by kernel_rfl
theorem ag116 : aggT tab 116 = some true := by kernel_rfl
theorem by115 : ty115.info.bytes = 40 := by kernel_rfl
theorem fa115_0 : fadQ tab 115 0 = some 0 := by kernel_rfl
theorem fa115_1 : fadQ tab 115 1 = some 1 := by kernel_rfl
theorem fa115_2 : fadQ tab 115 2 = some 2 := by kernel_rfl
theorem fa116_0 : fadQ tab 116 0 = some 0 := by kernel_rfl
theorem fa116_1 : fadQ tab 116 1 = some 1 := by kernel_rfl
theorem fa116_2 : fadQ tab 116 2 = some 2 := by kernel_rfl
theorem in115 : tab.info? 115 = some ty115.info := by kernel_rfl
theorem sz115 : szT tab 115 = some 3 := by kernel_rfl
theorem sz116 : szT tab 116 = some 3 := by kernel_rfl
theorem un82 : tab.underlying 82 = some (.slice 116) := by kernel_rfl
theorem un83 : tab.underlying 83 = some (.slice 115) := by kernel_rfl
set_option maxHeartbeats 4000000 in
theorem w136 (c : Cmd) : CallOk Tryz.prog 136 [.pv (.agg [pS (bsO c.1), pS (bsO c.2.1), pI c.2.2])] (lookM []) (vI (chkC c)) [] := by
 haveI := tab_ok
 obtain ⟨fn, f1, f2, f3, f4, _, f6⟩ := qf136
 refine callOk_of (Y := tab) (F := fn136) f1 (f2.trans rfl) f3 f4 f6 (Nat.le_of_ble_eq_true rfl) rfl ?_
 clear f1 f2 f3 f4 f6
 show TK _ _ _ _ _ _ ⟨[(0, .pv (.agg [pS (bsO c.1), pS (bsO c.2.1), pI c.2.2]))], []⟩
 refine At rfl ?_
 refine NR ⟨[(0, .pv (.agg [pS (bsO c.1), pS (bsO c.2.1), pI c.2.2]))], []⟩ (sb rfl rfl rfl) rfl ?_
 refine rn rfl ?_
 refine ag rfl ?_
 refine RN ?_
 refine Ap rfl ?_
 refine NR ⟨[(1, .bref 2 0)], [(2, .box 116 [vS (bsO c.1), vS (bsO c.2.1), vI c.2.2])]⟩ (sb rfl rfl rfl) rfl ?_
 refine RO (Body.fadB rfl fa116_0 rfl) ?_
 refine RO (Body.loadB rfl rfl rfl ag9 sz9 rfl) ?_
 refine RN ?_
 refine Ap rfl ?_
 refine NR ⟨[(1, .bref 2 0), (4, vS (bsO c.1))], [(2, .box 116 [vS (bsO c.1), vS (bsO c.2.1), vI c.2.2])]⟩ (sb rfl rfl rfl) rfl ?_
 refine RO (Body.seqB (a := c.1) (b := [97, 99, 116]) rfl rfl) ?_
 refine ag rfl ?_
 refine RN ?_
 refine Ap rfl ?_
 refine TK.norm ⟨[(1, .bref 2 0), (4, vS (bsO c.1)), (5, vB (decide (c.1 = [97, 99, 116])))], [(2, .box 116 [vS (bsO c.1), vS (bsO c.2.1), vI c.2.2])]⟩ (sb rfl rfl rfl) ?_
 refine TK.condP rfl (fun h1 => ?_) (fun h1 => ?_)
 ·
  refine At rfl ?_
  refine NR ⟨[(1, .bref 2 0)], [(2, .box 116 [vS (bsO c.1), vS (bsO c.2.1), vI c.2.2])]⟩ (sb rfl rfl rfl) rfl ?_
  refine RO (Body.fadB rfl fa116_1 rfl) ?_
  refine RO (Body.loadB rfl rfl rfl ag9 sz9 rfl) ?_
  refine RO (Body.call (w104 (bsO c.2.1)) rfl rfl rfl) ?_
  refine RO (Body.fadB rfl fa116_2 rfl) ?_
  refine RO (Body.loadB rfl rfl rfl ag3 sz3 rfl) ?_
  refine RO (Body.call (w99 c.2.2 0 0) rfl rfl rfl) ?_
  refine RO (Body.runZ (val := .pv (.slice (List.map eI [(whenF (!(isNameF (bsO c.2.1))) 8), (withinF c.2.2 0 0)]))) rfl (fun l => Frz.arr l _ _ _ _ _) rfl) ?_
  refine RO (Body.call (w100 [(whenF (!(isNameF (bsO c.2.1))) 8), (withinF c.2.2 0 0)] (Nat.le_of_ble_eq_true rfl)) rfl rfl rfl) ?_
  refine ag rfl ?_
  refine RG.nil (fun _ => by kernel_rfl) ?_
  refine Ap rfl ?_
  refine TK.ret ?_
  refine PK.ret ?_
  refine leaf (val0 := vI (firstF [(whenF (!(isNameF (bsO c.2.1))) 8), (withinF c.2.2 0 0)])) (by kernel_rfl) ?_
  exact li (by (rw [chkC, if_pos h1]))
 ·
  refine At rfl ?_
  refine NR ⟨[(1, .bref 2 0), (4, vS (bsO c.1))], [(2, .box 116 [vS (bsO c.1), vS (bsO c.2.1), vI c.2.2])]⟩ (sb rfl rfl rfl) rfl ?_
  refine RO (Body.seqB (a := c.1) (b := [101, 110, 100]) rfl rfl) ?_
  refine ag rfl ?_
  refine RN ?_
  refine Ap rfl ?_
  refine TK.norm ⟨[(1, .bref 2 0), (4, vS (bsO c.1)), (15, vB (decide (c.1 = [101, 110, 100])))], [(2, .box 116 [vS (bsO c.1), vS (bsO c.2.1), vI c.2.2])]⟩ (sb rfl rfl rfl) ?_
  refine TK.condP rfl (fun h2 => ?_) (fun h2 => ?_)
  ·
   refine At rfl ?_
   refine NR ⟨[(1, .bref 2 0)], [(2, .box 116 [vS (bsO c.1), vS (bsO c.2.1), vI c.2.2])]⟩ (sb rfl rfl rfl) rfl ?_
   refine RO (Body.fadB rfl fa116_1 rfl) ?_
   refine RO (Body.loadB rfl rfl rfl ag9 sz9 rfl) ?_
   refine RO (Body.sneB (a := c.2.1) (b := []) rfl rfl) ?_
   refine RO (Body.call (w101 (decide (c.2.1 ≠ [])) 1) rfl rfl rfl) ?_
   refine RO (Body.fadB rfl fa116_2 rfl) ?_
   refine RO (Body.loadB rfl rfl rfl ag3 sz3 rfl) ?_
   refine RO (Body.call (w99 c.2.2 0 0) rfl rfl rfl) ?_
   refine RO (Body.runZ (val := .pv (.slice (List.map eI [(whenF (decide (c.2.1 ≠ [])) 1), (withinF c.2.2 0 0)]))) rfl (fun l => Frz.arr l _ _ _ _ _) rfl) ?_
   refine RO (Body.call (w100 [(whenF (decide (c.2.1 ≠ [])) 1), (withinF c.2.2 0 0)] (Nat.le_of_ble_eq_true rfl)) rfl rfl rfl) ?_
   refine ag rfl ?_
   refine RG.nil (fun _ => by kernel_rfl) ?_
   refine Ap rfl ?_
   refine TK.ret ?_
   refine PK.ret ?_
   refine leaf (val0 := vI (firstF [(whenF (decide (c.2.1 ≠ [])) 1), (withinF c.2.2 0 0)])) (by kernel_rfl) ?_
   exact li (by (rw [chkC, if_neg h1, if_pos h2]))
  ·
   refine At rfl ?_
   refine NR ⟨[(1, .bref 2 0), (4, vS (bsO c.1))], [(2, .box 116 [vS (bsO c.1), vS (bsO c.2.1), vI c.2.2])]⟩ (sb rfl rfl rfl) rfl ?_
   refine RO (Body.seqB (a := c.1) (b := [119, 97, 105, 116]) rfl rfl) ?_
   refine ag rfl ?_
   refine RN ?_
   refine Ap rfl ?_
   refine TK.norm ⟨[(1, .bref 2 0), (4, vS (bsO c.1)), (26, vB (decide (c.1 = [119, 97, 105, 116])))], [(2, .box 116 [vS (bsO c.1), vS (bsO c.2.1), vI c.2.2])]⟩ (sb rfl rfl rfl) ?_
   refine TK.condP rfl (fun h3 => ?_) (fun h3 => ?_)
   ·
    refine At rfl ?_
    refine NR ⟨[(1, .bref 2 0)], [(2, .box 116 [vS (bsO c.1), vS (bsO c.2.1), vI c.2.2])]⟩ (sb rfl rfl rfl) rfl ?_
    refine RO (Body.fadB rfl fa116_1 rfl) ?_
    refine RO (Body.loadB rfl rfl rfl ag9 sz9 rfl) ?_
    refine RO (Body.sneB (a := c.2.1) (b := []) rfl rfl) ?_
    refine RO (Body.call (w101 (decide (c.2.1 ≠ [])) 1) rfl rfl rfl) ?_
    refine RO (Body.fadB rfl fa116_2 rfl) ?_
    refine RO (Body.loadB rfl rfl rfl ag3 sz3 rfl) ?_
    refine RO (Body.call (w99 c.2.2 1 100000) rfl rfl rfl) ?_
    refine RO (Body.runZ (val := .pv (.slice (List.map eI [(whenF (decide (c.2.1 ≠ [])) 1), (withinF c.2.2 1 100000)]))) rfl (fun l => Frz.arr l _ _ _ _ _) rfl) ?_
    refine RO (Body.call (w100 [(whenF (decide (c.2.1 ≠ [])) 1), (withinF c.2.2 1 100000)] (Nat.le_of_ble_eq_true rfl)) rfl rfl rfl) ?_
    refine ag rfl ?_
    refine RG.nil (fun _ => by kernel_rfl) ?_
    refine Ap rfl ?_
    refine TK.ret ?_
    refine PK.ret ?_
    refine leaf (val0 := vI (firstF [(whenF (decide (c.2.1 ≠ [])) 1), (withinF c.2.2 1 100000)])) (by kernel_rfl) ?_
    exact li (by (rw [chkC, if_neg h1, if_neg h2, if_pos h3]))
   ·
    refine At rfl ?_
    refine NR ⟨[(1, .bref 2 0), (4, vS (bsO c.1))], [(2, .box 116 [vS (bsO c.1), vS (bsO c.2.1), vI c.2.2])]⟩ (sb rfl rfl rfl) rfl ?_
    refine RO (Body.seqB (a := c.1) (b := [114, 101, 112, 101, 97, 116]) rfl rfl) ?_
    refine ag rfl ?_
    refine RN ?_
    refine Ap rfl ?_
    refine TK.norm ⟨[(1, .bref 2 0), (37, vB (decide (c.1 = [114, 101, 112, 101, 97, 116])))], [(2, .box 116 [vS (bsO c.1), vS (bsO c.2.1), vI c.2.2])]⟩ (sb rfl rfl rfl) ?_
    refine TK.condP rfl (fun h4 => ?_) (fun h4 => ?_)
    ·
     refine At rfl ?_
     refine NR ⟨[(1, .bref 2 0)], [(2, .box 116 [vS (bsO c.1), vS (bsO c.2.1), vI c.2.2])]⟩ (sb rfl rfl rfl) rfl ?_
     refine RO (Body.fadB rfl fa116_1 rfl) ?_
     refine RO (Body.loadB rfl rfl rfl ag9 sz9 rfl) ?_
     refine RO (Body.sneB (a := c.2.1) (b := []) rfl rfl) ?_
     refine RO (Body.call (w101 (decide (c.2.1 ≠ [])) 1) rfl rfl rfl) ?_
     refine RO (Body.fadB rfl fa116_2 rfl) ?_
     refine RO (Body.loadB rfl rfl rfl ag3 sz3 rfl) ?_
     refine RO (Body.call (w99 c.2.2 1 100) rfl rfl rfl) ?_
     refine RO (Body.runZ (val := .pv (.slice (List.map eI [(whenF (decide (c.2.1 ≠ [])) 1), (withinF c.2.2 1 100)]))) rfl (fun l => Frz.arr l _ _ _ _ _) rfl) ?_
     refine RO (Body.call (w100 [(whenF (decide (c.2.1 ≠ [])) 1), (withinF c.2.2 1 100)] (Nat.le_of_ble_eq_true rfl)) rfl rfl rfl) ?_
     refine ag rfl ?_
     refine RG.nil (fun _ => by kernel_rfl) ?_
     refine Ap rfl ?_
     refine TK.ret ?_
     refine PK.ret ?_
     refine leaf (val0 := vI (firstF [(whenF (decide (c.2.1 ≠ [])) 1), (withinF c.2.2 1 100)])) (by kernel_rfl) ?_
     exact li (by (rw [chkC, if_neg h1, if_neg h2, if_neg h3, if_pos h4]))
    ·
     refine At rfl ?_
     refine NR ⟨[], []⟩ (sb rfl rfl rfl) rfl ?_
     refine ag rfl ?_
     refine RN ?_
     refine Ap rfl ?_
     refine TK.ret ?_
     refine PK.ret ?_
     refine leaf (val0 := vI 13) (by kernel_rfl) ?_
     exact li (by (rw [chkC, if_neg h1, if_neg h2, if_neg h3, if_neg h4]))
set_option maxHeartbeats 4000000 in
theorem w134 (o : List UInt8) : CallOk Tryz.prog 134 [vS (bsO o)] (lookM []) (vI (wordsF o)) [] := by
 haveI := tab_ok
 obtain ⟨fn, f1, f2, f3, f4, _, f6⟩ := qf134
 refine callOk_of (Y := tab) (F := fn134) f1 (f2.trans rfl) f3 f4 f6 (Nat.le_of_ble_eq_true rfl) rfl ?_
 clear f1 f2 f3 f4 f6
 show TK _ _ _ _ _ _ ⟨[(0, vS (bsO o))], []⟩
 refine At rfl ?_
 refine NR ⟨[(0, vS (bsO o))], []⟩ (sb rfl rfl rfl) rfl ?_
 refine ag rfl ?_
 refine RN ?_
 refine Ap rfl ?_
 refine NR ⟨[(0, vS (bsO o))], []⟩ (sb rfl rfl rfl) rfl ?_
 refine mv rfl ?_
 refine RN ?_
 refine Ap rfl ?_
 refine NR ⟨[(3, vS (bsO o))], []⟩ (sb rfl rfl rfl) rfl ?_
 refine RO (Body.seqB (a := o) (b := [97, 99, 116]) rfl rfl) ?_
 refine ag rfl ?_
 refine RN ?_
 refine Ap rfl ?_
 refine TK.norm ⟨[(3, vS (bsO o)), (4, vB (decide (o = [97, 99, 116])))], []⟩ (sb rfl rfl rfl) ?_
 refine TK.condP rfl (fun h1 => ?_) (fun h1 => ?_)
 ·
  refine At rfl ?_
  refine TK.norm ⟨[(3, vS (bsO o)), (4, vB (decide (o = [97, 99, 116])))], []⟩ (sb rfl rfl rfl) ?_
  refine TK.condP rfl (fun h2 => ?_) (fun h2 => ?_)
  ·
   refine At rfl ?_
   refine NR ⟨[], []⟩ (sb rfl rfl rfl) rfl ?_
   refine ag rfl ?_
   refine RN ?_
   refine Ap rfl ?_
   refine TK.ret ?_
   refine PK.ret ?_
   refine leaf (val0 := vI 2) (by kernel_rfl) ?_
   exact li (by (rw [wordsF, if_pos (by assumption)]))
  ·
   refine At rfl ?_
   refine NR ⟨[(3, vS (bsO o))], []⟩ (sb rfl rfl rfl) rfl ?_
   refine RO (Body.seqB (a := o) (b := [101, 110, 100]) rfl rfl) ?_
   refine ag rfl ?_
   refine RN ?_
   refine Ap rfl ?_
   refine TK.norm ⟨[(8, vB (decide (o = [101, 110, 100])))], []⟩ (sb rfl rfl rfl) ?_
   refine TK.condP rfl (fun h3 => ?_) (fun h3 => ?_)
   ·
    refine At rfl ?_
    refine NR ⟨[], []⟩ (sb rfl rfl rfl) rfl ?_
    refine ag rfl ?_
    refine RN ?_
    refine Ap rfl ?_
    refine TK.ret ?_
    refine PK.ret ?_
    refine leaf (val0 := vI 1) (by kernel_rfl) ?_
    exact li (by (exfalso; contradiction))
   ·
    refine At rfl ?_
    refine NR ⟨[], []⟩ (sb rfl rfl rfl) rfl ?_
    refine ag rfl ?_
    refine RN ?_
    refine Ap rfl ?_
    refine TK.ret ?_
    refine PK.ret ?_
    refine leaf (val0 := vI 0) (by kernel_rfl) ?_
    exact li (by (exfalso; contradiction))
 ·
  refine At rfl ?_
  refine NR ⟨[(3, vS (bsO o))], []⟩ (sb rfl rfl rfl) rfl ?_
  refine RO (Body.seqB (a := o) (b := [119, 97, 105, 116]) rfl rfl) ?_
  refine ag rfl ?_
  refine RN ?_
  refine Ap rfl ?_
  refine TK.norm ⟨[(3, vS (bsO o)), (4, vB (decide (o = [119, 97, 105, 116])))], []⟩ (sb rfl rfl rfl) ?_
  refine TK.condP rfl (fun h4 => ?_) (fun h4 => ?_)
  ·
   refine At rfl ?_
   refine TK.norm ⟨[(3, vS (bsO o)), (4, vB (decide (o = [119, 97, 105, 116])))], []⟩ (sb rfl rfl rfl) ?_
   refine TK.condP rfl (fun h5 => ?_) (fun h5 => ?_)
   ·
    refine At rfl ?_
    refine NR ⟨[], []⟩ (sb rfl rfl rfl) rfl ?_
    refine ag rfl ?_
    refine RN ?_
    refine Ap rfl ?_
    refine TK.ret ?_
    refine PK.ret ?_
    refine leaf (val0 := vI 2) (by kernel_rfl) ?_
    exact li (by (rw [wordsF, if_neg (by assumption), if_pos (by assumption)]))
   ·
    refine At rfl ?_
    refine NR ⟨[(3, vS (bsO o))], []⟩ (sb rfl rfl rfl) rfl ?_
    refine RO (Body.seqB (a := o) (b := [101, 110, 100]) rfl rfl) ?_
    refine ag rfl ?_
    refine RN ?_
    refine Ap rfl ?_
    refine TK.norm ⟨[(8, vB (decide (o = [101, 110, 100])))], []⟩ (sb rfl rfl rfl) ?_
    refine TK.condP rfl (fun h6 => ?_) (fun h6 => ?_)
    ·
     refine At rfl ?_
     refine NR ⟨[], []⟩ (sb rfl rfl rfl) rfl ?_
     refine ag rfl ?_
     refine RN ?_
     refine Ap rfl ?_
     refine TK.ret ?_
     refine PK.ret ?_
     refine leaf (val0 := vI 1) (by kernel_rfl) ?_
     exact li (by (exfalso; contradiction))
    ·
     refine At rfl ?_
     refine NR ⟨[], []⟩ (sb rfl rfl rfl) rfl ?_
     refine ag rfl ?_
     refine RN ?_
     refine Ap rfl ?_
     refine TK.ret ?_
     refine PK.ret ?_
     refine leaf (val0 := vI 0) (by kernel_rfl) ?_
     exact li (by (exfalso; contradiction))
  ·
   refine At rfl ?_
   refine NR ⟨[(3, vS (bsO o))], []⟩ (sb rfl rfl rfl) rfl ?_
   refine RO (Body.seqB (a := o) (b := [114, 101, 112, 101, 97, 116]) rfl rfl) ?_
   refine ag rfl ?_
   refine RN ?_
   refine Ap rfl ?_
   refine TK.norm ⟨[(3, vS (bsO o)), (4, vB (decide (o = [114, 101, 112, 101, 97, 116])))], []⟩ (sb rfl rfl rfl) ?_
   refine TK.condP rfl (fun h7 => ?_) (fun h7 => ?_)
   ·
    refine At rfl ?_
    refine NR ⟨[], []⟩ (sb rfl rfl rfl) rfl ?_
    refine ag rfl ?_
    refine RN ?_
    refine Ap rfl ?_
    refine TK.ret ?_
    refine PK.ret ?_
    refine leaf (val0 := vI 2) (by kernel_rfl) ?_
    exact li (by (rw [wordsF, if_neg (by assumption), if_neg (by assumption), if_pos (by assumption)]))
   ·
    refine At rfl ?_
    refine NR ⟨[(3, vS (bsO o))], []⟩ (sb rfl rfl rfl) rfl ?_
    refine RO (Body.seqB (a := o) (b := [101, 110, 100]) rfl rfl) ?_
    refine ag rfl ?_
    refine RN ?_
    refine Ap rfl ?_
    refine TK.norm ⟨[(8, vB (decide (o = [101, 110, 100])))], []⟩ (sb rfl rfl rfl) ?_
    refine TK.condP rfl (fun h8 => ?_) (fun h8 => ?_)
    ·
     refine At rfl ?_
     refine NR ⟨[], []⟩ (sb rfl rfl rfl) rfl ?_
     refine ag rfl ?_
     refine RN ?_
     refine Ap rfl ?_
     refine TK.ret ?_
     refine PK.ret ?_
     refine leaf (val0 := vI 1) (by kernel_rfl) ?_
     exact li (by (rw [wordsF, if_neg (by assumption), if_neg (by assumption), if_neg (by assumption), if_pos (by assumption)]))
    ·
     refine At rfl ?_
     refine NR ⟨[], []⟩ (sb rfl rfl rfl) rfl ?_
     refine ag rfl ?_
     refine RN ?_
     refine Ap rfl ?_
     refine TK.ret ?_
     refine PK.ret ?_
     refine leaf (val0 := vI 0) (by kernel_rfl) ?_
     exact li (by (rw [wordsF, if_neg (by assumption), if_neg (by assumption), if_neg (by assumption), if_neg (by assumption)]))
set_option maxHeartbeats 4000000 in
theorem w130 (c : Cmd) : CallOk Tryz.prog 130 [.pv (.agg [pS (bsO c.1), pS (bsO c.2.1), pI c.2.2])] (lookM []) (vI (chkC c)) [] := by
 haveI := tab_ok
 obtain ⟨fn, f1, f2, f3, f4, _, f6⟩ := qf130
 refine callOk_of (Y := tab) (F := fn130) f1 (f2.trans rfl) f3 f4 f6 (Nat.le_of_ble_eq_true rfl) rfl ?_
 clear f1 f2 f3 f4 f6
 show TK _ _ _ _ _ _ ⟨[(0, .pv (.agg [pS (bsO c.1), pS (bsO c.2.1), pI c.2.2]))], []⟩
 refine At rfl ?_
 refine NR ⟨[(0, .pv (.agg [pS (bsO c.1), pS (bsO c.2.1), pI c.2.2]))], []⟩ (sb rfl rfl rfl) rfl ?_
 refine rn rfl ?_
 refine ag rfl ?_
 refine RN ?_
 refine Ap rfl ?_
 refine NR ⟨[(1, .bref 2 0)], [(2, .box 115 [vS (bsO c.1), vS (bsO c.2.1), vI c.2.2])]⟩ (sb rfl rfl rfl) rfl ?_
 refine RO (Body.fadB rfl fa115_0 rfl) ?_
 refine RO (Body.loadB rfl rfl rfl ag9 sz9 rfl) ?_
 refine RO (Body.call (w134 c.1) rfl rfl rfl) ?_
 refine RO (Body.eql rfl rfl) ?_
 refine RN ?_
 refine Ap rfl ?_
 refine TK.norm ⟨[(1, .bref 2 0), (8, vB (decide ((wordsF c.1) = 0)))], [(2, .box 115 [vS (bsO c.1), vS (bsO c.2.1), vI c.2.2])]⟩ (sb rfl rfl rfl) ?_
 refine TK.condP rfl (fun h1 => ?_) (fun h1 => ?_)
 ·
  refine At rfl ?_
  refine NR ⟨[], []⟩ (sb rfl rfl rfl) rfl ?_
  refine ag rfl ?_
  refine RN ?_
  refine Ap rfl ?_
  refine TK.ret ?_
  refine PK.ret ?_
  refine leaf (val0 := vI 13) (by kernel_rfl) ?_
  exact li (by (exact (chk_kind h1).symm))
 ·
  refine At rfl ?_
  refine NR ⟨[(1, .bref 2 0)], [(2, .box 115 [vS (bsO c.1), vS (bsO c.2.1), vI c.2.2])]⟩ (sb rfl rfl rfl) rfl ?_
  refine RO (Body.fadB rfl fa115_0 rfl) ?_
  refine RO (Body.loadB rfl rfl rfl ag9 sz9 rfl) ?_
  refine RO (Body.seqB (a := c.1) (b := [97, 99, 116]) rfl rfl) ?_
  refine mv rfl ?_
  refine RG.cons (EfR.sym rfl (fun hc => Body.fadB rfl fa115_1 rfl) rfl) ?_
  refine RG.cons (EfR.sym rfl (fun hc => Body.loadB (ev1_gd rfl hc) rfl rfl ag9 sz9 rfl) rfl) ?_
  refine RG.cons (EfR.sym rfl (fun hc => Body.call (w94 (bsO c.2.1)) rfl (ds1 (ev1_gd rfl hc)) rfl) rfl) ?_
  refine RG.cons (EfR.sym rfl (fun hc => Body.not (ev1_gd rfl hc)) rfl) ?_
  refine RO (Body.pick rfl rfl rfl (gdB rfl) rfl (pick_and _)) ?_
  refine RN ?_
  refine Ap rfl ?_
  refine TK.norm ⟨[(1, .bref 2 0), (17, vB (bif (decide (c.1 = [97, 99, 116])) then (!(isNameF (bsO c.2.1))) else false))], [(2, .box 115 [vS (bsO c.1), vS (bsO c.2.1), vI c.2.2])]⟩ (sb rfl rfl rfl) ?_
  refine TK.cond rfl (fun h2 => ?_) (fun h2 => ?_)
  ·
   refine At rfl ?_
   refine NR ⟨[], []⟩ (sb rfl rfl rfl) rfl ?_
   refine ag rfl ?_
   refine RN ?_
   refine Ap rfl ?_
   refine TK.ret ?_
   refine PK.ret ?_
   refine leaf (val0 := vI 8) (by kernel_rfl) ?_
   exact li (by (exact (chk_name h2).symm))
  ·
   refine At rfl ?_
   refine NR ⟨[(1, .bref 2 0)], [(2, .box 115 [vS (bsO c.1), vS (bsO c.2.1), vI c.2.2])]⟩ (sb rfl rfl rfl) rfl ?_
   refine RO (Body.fadB rfl fa115_0 rfl) ?_
   refine RO (Body.loadB rfl rfl rfl ag9 sz9 rfl) ?_
   refine RO (Body.sneB (a := c.1) (b := [97, 99, 116]) rfl rfl) ?_
   refine mv rfl ?_
   refine RG.cons (EfR.sym rfl (fun hc => Body.fadB rfl fa115_1 rfl) rfl) ?_
   refine RG.cons (EfR.sym rfl (fun hc => Body.loadB (ev1_gd rfl hc) rfl rfl ag9 sz9 rfl) rfl) ?_
   refine RG.cons (EfR.sym rfl (fun hc => Body.sneB (a := c.2.1) (b := []) (ev1_gd rfl hc) rfl) rfl) ?_
   refine RO (Body.pick rfl rfl rfl (gdB rfl) rfl (pick_and _)) ?_
   refine RN ?_
   refine Ap rfl ?_
   refine TK.norm ⟨[(1, .bref 2 0), (25, vB (bif (decide (c.1 ≠ [97, 99, 116])) then (decide (c.2.1 ≠ [])) else false))], [(2, .box 115 [vS (bsO c.1), vS (bsO c.2.1), vI c.2.2])]⟩ (sb rfl rfl rfl) ?_
   refine TK.cond rfl (fun h3 => ?_) (fun h3 => ?_)
   ·
    refine At rfl ?_
    refine NR ⟨[], []⟩ (sb rfl rfl rfl) rfl ?_
    refine ag rfl ?_
    refine RN ?_
    refine Ap rfl ?_
    refine TK.ret ?_
    refine PK.ret ?_
    refine leaf (val0 := vI 1) (by kernel_rfl) ?_
    exact li (by (exact (chk_form h1 h3).symm))
   ·
    refine At rfl ?_
    refine NR ⟨[(1, .bref 2 0)], [(2, .box 115 [vS (bsO c.1), vS (bsO c.2.1), vI c.2.2])]⟩ (sb rfl rfl rfl) rfl ?_
    refine ag rfl ?_
    refine ag rfl ?_
    refine RN ?_
    refine Ap rfl ?_
    refine NR ⟨[(1, .bref 2 0), (3, vI 0), (4, vI 0)], [(2, .box 115 [vS (bsO c.1), vS (bsO c.2.1), vI c.2.2])]⟩ (sb rfl rfl rfl) rfl ?_
    refine RO (Body.fadB rfl fa115_0 rfl) ?_
    refine RO (Body.loadB rfl rfl rfl ag9 sz9 rfl) ?_
    refine RO (Body.seqB (a := c.1) (b := [119, 97, 105, 116]) rfl rfl) ?_
    refine RN ?_
    refine Ap rfl ?_
    refine TK.norm ⟨[(1, .bref 2 0), (3, vI 0), (4, vI 0), (28, vB (decide (c.1 = [119, 97, 105, 116])))], [(2, .box 115 [vS (bsO c.1), vS (bsO c.2.1), vI c.2.2])]⟩ (sb rfl rfl rfl) ?_
    refine TK.condP rfl (fun h4 => ?_) (fun h4 => ?_)
    ·
     refine At rfl ?_
     refine NR ⟨[(1, .bref 2 0)], [(2, .box 115 [vS (bsO c.1), vS (bsO c.2.1), vI c.2.2])]⟩ (sb rfl rfl rfl) rfl ?_
     refine ag rfl ?_
     refine ag rfl ?_
     refine RN ?_
     refine Ap rfl ?_
     refine NR ⟨[(1, .bref 2 0), (3, vI 1), (4, vI 100000)], [(2, .box 115 [vS (bsO c.1), vS (bsO c.2.1), vI c.2.2])]⟩ (sb rfl rfl rfl) rfl ?_
     refine RO (Body.fadB rfl fa115_0 rfl) ?_
     refine RO (Body.loadB rfl rfl rfl ag9 sz9 rfl) ?_
     refine RO (Body.seqB (a := c.1) (b := [114, 101, 112, 101, 97, 116]) rfl rfl) ?_
     refine RN ?_
     refine Ap rfl ?_
     refine TK.norm ⟨[(1, .bref 2 0), (3, vI 1), (4, vI 100000), (31, vB (decide (c.1 = [114, 101, 112, 101, 97, 116])))], [(2, .box 115 [vS (bsO c.1), vS (bsO c.2.1), vI c.2.2])]⟩ (sb rfl rfl rfl) ?_
     refine TK.condP rfl (fun h5 => ?_) (fun h5 => ?_)
     ·
      refine At rfl ?_
      refine NR ⟨[(1, .bref 2 0)], [(2, .box 115 [vS (bsO c.1), vS (bsO c.2.1), vI c.2.2])]⟩ (sb rfl rfl rfl) rfl ?_
      refine ag rfl ?_
      refine ag rfl ?_
      refine RN ?_
      refine Ap rfl ?_
      refine NR ⟨[(1, .bref 2 0), (3, vI 1), (4, vI 100)], [(2, .box 115 [vS (bsO c.1), vS (bsO c.2.1), vI c.2.2])]⟩ (sb rfl rfl rfl) rfl ?_
      refine RO (Body.fadB rfl fa115_2 rfl) ?_
      refine RO (Body.loadB rfl rfl rfl ag3 sz3 rfl) ?_
      refine mv rfl ?_
      refine mv rfl ?_
      refine RO (Body.call (w93 c.2.2 1 100) rfl rfl rfl) ?_
      refine RN ?_
      refine Ap rfl ?_
      refine TK.norm ⟨[(36, vB (outF c.2.2 1 100))], []⟩ (sb rfl rfl rfl) ?_
      refine TK.cond rfl (fun h6 => ?_) (fun h6 => ?_)
      ·
       refine At rfl ?_
       refine NR ⟨[], []⟩ (sb rfl rfl rfl) rfl ?_
       refine ag rfl ?_
       refine RN ?_
       refine Ap rfl ?_
       refine TK.ret ?_
       refine PK.ret ?_
       refine leaf (val0 := vI 3) (by kernel_rfl) ?_
       exact li (by exact absurd (h4.symm.trans (by assumption)) (show ¬ kWait = kRep by decide))
      ·
       refine At rfl ?_
       refine NR ⟨[], []⟩ (sb rfl rfl rfl) rfl ?_
       refine ag rfl ?_
       refine RN ?_
       refine Ap rfl ?_
       refine TK.ret ?_
       refine PK.ret ?_
       refine leaf (val0 := vI 0) (by kernel_rfl) ?_
       exact li (by exact absurd (h4.symm.trans (by assumption)) (show ¬ kWait = kRep by decide))
     ·
      refine At rfl ?_
      refine NR ⟨[(1, .bref 2 0), (3, vI 1), (4, vI 100000)], [(2, .box 115 [vS (bsO c.1), vS (bsO c.2.1), vI c.2.2])]⟩ (sb rfl rfl rfl) rfl ?_
      refine RO (Body.fadB rfl fa115_2 rfl) ?_
      refine RO (Body.loadB rfl rfl rfl ag3 sz3 rfl) ?_
      refine mv rfl ?_
      refine mv rfl ?_
      refine RO (Body.call (w93 c.2.2 1 100000) rfl rfl rfl) ?_
      refine RN ?_
      refine Ap rfl ?_
      refine TK.norm ⟨[(36, vB (outF c.2.2 1 100000))], []⟩ (sb rfl rfl rfl) ?_
      refine TK.cond rfl (fun h7 => ?_) (fun h7 => ?_)
      ·
       refine At rfl ?_
       refine NR ⟨[], []⟩ (sb rfl rfl rfl) rfl ?_
       refine ag rfl ?_
       refine RN ?_
       refine Ap rfl ?_
       refine TK.ret ?_
       refine PK.ret ?_
       refine leaf (val0 := vI 3) (by kernel_rfl) ?_
       exact li (by (rw [chk_rest h1 h2 h3, if_pos (by assumption)]; exact (with_out (by assumption)).symm))
      ·
       refine At rfl ?_
       refine NR ⟨[], []⟩ (sb rfl rfl rfl) rfl ?_
       refine ag rfl ?_
       refine RN ?_
       refine Ap rfl ?_
       refine TK.ret ?_
       refine PK.ret ?_
       refine leaf (val0 := vI 0) (by kernel_rfl) ?_
       exact li (by (rw [chk_rest h1 h2 h3, if_pos (by assumption)]; exact (with_in (by assumption)).symm))
    ·
     refine At rfl ?_
     refine NR ⟨[(1, .bref 2 0), (3, vI 0), (4, vI 0)], [(2, .box 115 [vS (bsO c.1), vS (bsO c.2.1), vI c.2.2])]⟩ (sb rfl rfl rfl) rfl ?_
     refine RO (Body.fadB rfl fa115_0 rfl) ?_
     refine RO (Body.loadB rfl rfl rfl ag9 sz9 rfl) ?_
     refine RO (Body.seqB (a := c.1) (b := [114, 101, 112, 101, 97, 116]) rfl rfl) ?_
     refine RN ?_
     refine Ap rfl ?_
     refine TK.norm ⟨[(1, .bref 2 0), (3, vI 0), (4, vI 0), (31, vB (decide (c.1 = [114, 101, 112, 101, 97, 116])))], [(2, .box 115 [vS (bsO c.1), vS (bsO c.2.1), vI c.2.2])]⟩ (sb rfl rfl rfl) ?_
     refine TK.condP rfl (fun h8 => ?_) (fun h8 => ?_)
     ·
      refine At rfl ?_
      refine NR ⟨[(1, .bref 2 0)], [(2, .box 115 [vS (bsO c.1), vS (bsO c.2.1), vI c.2.2])]⟩ (sb rfl rfl rfl) rfl ?_
      refine ag rfl ?_
      refine ag rfl ?_
      refine RN ?_
      refine Ap rfl ?_
      refine NR ⟨[(1, .bref 2 0), (3, vI 1), (4, vI 100)], [(2, .box 115 [vS (bsO c.1), vS (bsO c.2.1), vI c.2.2])]⟩ (sb rfl rfl rfl) rfl ?_
      refine RO (Body.fadB rfl fa115_2 rfl) ?_
      refine RO (Body.loadB rfl rfl rfl ag3 sz3 rfl) ?_
      refine mv rfl ?_
      refine mv rfl ?_
      refine RO (Body.call (w93 c.2.2 1 100) rfl rfl rfl) ?_
      refine RN ?_
      refine Ap rfl ?_
      refine TK.norm ⟨[(36, vB (outF c.2.2 1 100))], []⟩ (sb rfl rfl rfl) ?_
      refine TK.cond rfl (fun h9 => ?_) (fun h9 => ?_)
      ·
       refine At rfl ?_
       refine NR ⟨[], []⟩ (sb rfl rfl rfl) rfl ?_
       refine ag rfl ?_
       refine RN ?_
       refine Ap rfl ?_
       refine TK.ret ?_
       refine PK.ret ?_
       refine leaf (val0 := vI 3) (by kernel_rfl) ?_
       exact li (by (rw [chk_rest h1 h2 h3, if_neg (by assumption), if_pos (by assumption)]; exact (with_out (by assumption)).symm))
      ·
       refine At rfl ?_
       refine NR ⟨[], []⟩ (sb rfl rfl rfl) rfl ?_
       refine ag rfl ?_
       refine RN ?_
       refine Ap rfl ?_
       refine TK.ret ?_
       refine PK.ret ?_
       refine leaf (val0 := vI 0) (by kernel_rfl) ?_
       exact li (by (rw [chk_rest h1 h2 h3, if_neg (by assumption), if_pos (by assumption)]; exact (with_in (by assumption)).symm))
     ·
      refine At rfl ?_
      refine NR ⟨[(1, .bref 2 0), (3, vI 0), (4, vI 0)], [(2, .box 115 [vS (bsO c.1), vS (bsO c.2.1), vI c.2.2])]⟩ (sb rfl rfl rfl) rfl ?_
      refine RO (Body.fadB rfl fa115_2 rfl) ?_
      refine RO (Body.loadB rfl rfl rfl ag3 sz3 rfl) ?_
      refine mv rfl ?_
      refine mv rfl ?_
      refine RO (Body.call (w93 c.2.2 0 0) rfl rfl rfl) ?_
      refine RN ?_
      refine Ap rfl ?_
      refine TK.norm ⟨[(36, vB (outF c.2.2 0 0))], []⟩ (sb rfl rfl rfl) ?_
      refine TK.cond rfl (fun h10 => ?_) (fun h10 => ?_)
      ·
       refine At rfl ?_
       refine NR ⟨[], []⟩ (sb rfl rfl rfl) rfl ?_
       refine ag rfl ?_
       refine RN ?_
       refine Ap rfl ?_
       refine TK.ret ?_
       refine PK.ret ?_
       refine leaf (val0 := vI 3) (by kernel_rfl) ?_
       exact li (by (rw [chk_rest h1 h2 h3, if_neg (by assumption), if_neg (by assumption)]; exact (with_out (by assumption)).symm))
      ·
       refine At rfl ?_
       refine NR ⟨[], []⟩ (sb rfl rfl rfl) rfl ?_
       refine ag rfl ?_
       refine RN ?_
       refine Ap rfl ?_
       refine TK.ret ?_
       refine PK.ret ?_
       refine leaf (val0 := vI 0) (by kernel_rfl) ?_
       exact li (by (rw [chk_rest h1 h2 h3, if_neg (by assumption), if_neg (by assumption)]; exact (with_in (by assumption)).symm))
set_option maxHeartbeats 4000000 in
theorem w138 (l : List Cmd) (i : Nat) (hi : i ≤ l.length) (hl : l.length ≤ 1000000000000) : CallOk Tryz.prog 138 [vL eC l, vI i] (lookM []) (vI ((matGo 0 i (List.drop i l) : Nat) : Int)) [] := by
 haveI := tab_ok
 obtain ⟨fn, f1, f2, f3, f4, _, f6⟩ := qf138
 refine callOk_of (Y := tab) (F := fn138) f1 (f2.trans rfl) f3 f4 f6 (Nat.le_of_ble_eq_true rfl) rfl ?_
 clear f1 f2 f3 f4 f6
 show TK _ _ _ _ _ _ ⟨[(0, vL eC l), (1, vI i)], []⟩
 refine At rfl ?_
 refine NR ⟨[(0, vL eC l), (1, vI i)], []⟩ (sb rfl rfl rfl) rfl ?_
 refine ag rfl ?_
 refine RN ?_
 refine Ap rfl ?_
 refine NR ⟨[(0, vL eC l), (1, vI i)], []⟩ (sb rfl rfl rfl) rfl ?_
 refine ag rfl ?_
 refine RN ?_
 refine Ap rfl ?_
 refine NR ⟨[(0, vL eC l), (1, vI i), (5, vI 0)], []⟩ (sb rfl rfl rfl) rfl ?_
 refine mv rfl ?_
 refine ag rfl ?_
 refine RN ?_
 refine Ap rfl ?_
 refine TK.loop (α := Nat × Int) (fun x => ⟨[(0, vL eC l), (5, vI x.2), (6, vI ((x.1 : Nat) : Int))], []⟩) (fun x => x.1 ≤ l.length ∧ matGo 0 i (List.drop i l) = matGo x.2 x.1 (List.drop x.1 l) ∧ -((x.1 : Nat) : Int) ≤ x.2 ∧ x.2 ≤ ((x.1 : Nat) : Int)) (fun x => l.length - x.1) (i, 0) ?_ (sb rfl rfl rfl) ?_
 · show i ≤ l.length ∧ matGo 0 i (List.drop i l) = matGo 0 i (List.drop i l) ∧ -(i : Int) ≤ 0 ∧ 0 ≤ (i : Int)
   exact ⟨hi, rfl, by omega, by omega⟩
 rintro ⟨k, d⟩ hI0
 replace hI0 : k ≤ l.length ∧ matGo 0 i (List.drop i l) = matGo d k (List.drop k l) ∧ -(k : Int) ≤ d ∧ d ≤ (k : Int) := hI0
 show TK _ _ _ _ _ _ ⟨[(0, vL eC l), (5, vI d), (6, vI k)], []⟩
 refine At rfl ?_
 refine NR ⟨[(0, vL eC l), (5, vI d), (6, vI k)], []⟩ (sb rfl rfl rfl) rfl ?_
 refine mv rfl ?_
 refine mv rfl ?_
 refine RO (Body.lenL rfl un83) ?_
 refine RO (Body.lss rfl rfl) ?_
 refine RN ?_
 refine Ap rfl ?_
 refine TK.norm ⟨[(0, vL eC l), (5, vI d), (6, vI k), (11, vB (decide ((k : Int) < (l.length : Int))))], []⟩ (sb rfl rfl rfl) ?_
 refine TK.condP rfl (fun h1 => ?_) (fun h1 => ?_)
 ·
  refine At rfl ?_
  refine NR ⟨[(0, vL eC l), (5, vI d), (6, vI k)], []⟩ (sb rfl rfl rfl) rfl ?_
  refine mv rfl ?_
  refine mv rfl ?_
  refine RO (Body.idx (z := z3) (i := k) rfl rfl un83 sz115 (fun _ => rfl) rfl (by omega)) ?_
  refine RO (Body.fadP rfl fa115_0 rfl) ?_
  refine RO (Body.loadP rfl ag9 sz9) ?_
  refine RO (Body.seqB (a := (List.getD l k z3).1) (b := [114, 101, 112, 101, 97, 116]) rfl rfl) ?_
  refine RN ?_
  refine Ap rfl ?_
  refine TK.norm ⟨[(0, vL eC l), (5, vI d), (6, vI k), (19, vB (decide ((List.getD l k z3).1 = [114, 101, 112, 101, 97, 116])))], []⟩ (sb rfl rfl rfl) ?_
  refine TK.condP rfl (fun h2 => ?_) (fun h2 => ?_)
  ·
   refine At rfl ?_
   refine NR ⟨[(0, vL eC l), (5, vI d), (6, vI k)], []⟩ (sb rfl rfl rfl) rfl ?_
   refine mv rfl ?_
   refine RO (Body.add rfl rfl (by unfold R64; omega)) ?_
   refine ag rfl ?_
   refine RN ?_
   refine Ap rfl ?_
   refine NR ⟨[(0, vL eC l), (5, vI (d + 1)), (6, vI k)], []⟩ (sb rfl rfl rfl) rfl ?_
   refine mv rfl ?_
   refine mv rfl ?_
   refine RO (Body.idx (z := z3) (i := k) rfl rfl un83 sz115 (fun _ => rfl) rfl (by omega)) ?_
   refine RO (Body.fadP rfl fa115_0 rfl) ?_
   refine RO (Body.loadP rfl ag9 sz9) ?_
   refine RO (Body.seqB (a := (List.getD l k z3).1) (b := [101, 110, 100]) rfl rfl) ?_
   refine RN ?_
   refine Ap rfl ?_
   refine TK.norm ⟨[(0, vL eC l), (5, vI (d + 1)), (6, vI k), (27, vB (decide ((List.getD l k z3).1 = [101, 110, 100])))], []⟩ (sb rfl rfl rfl) ?_
   refine TK.condP rfl (fun h3 => ?_) (fun h3 => ?_)
   ·
    refine At rfl ?_
    refine NR ⟨[(0, vL eC l), (5, vI (d + 1)), (6, vI k)], []⟩ (sb rfl rfl rfl) rfl ?_
    refine mv rfl ?_
    refine RO (Body.sub rfl rfl (by unfold R64; omega)) ?_
    refine ag rfl ?_
    refine RN ?_
    refine Ap rfl ?_
    refine NR ⟨[(0, vL eC l), (5, vI ((d + 1) - 1)), (6, vI k)], []⟩ (sb rfl rfl rfl) rfl ?_
    refine mv rfl ?_
    refine RO (Body.eql rfl rfl) ?_
    refine RN ?_
    refine Ap rfl ?_
    refine TK.norm ⟨[(0, vL eC l), (5, vI ((d + 1) - 1)), (6, vI k), (31, vB (decide (((d + 1) - 1) = 0)))], []⟩ (sb rfl rfl rfl) ?_
    refine TK.condP rfl (fun h4 => ?_) (fun h4 => ?_)
    ·
     refine At rfl ?_
     refine NR ⟨[(6, vI k)], []⟩ (sb rfl rfl rfl) rfl ?_
     refine mv rfl ?_
     refine ag rfl ?_
     refine RN ?_
     refine Ap rfl ?_
     refine TK.ret ?_
     refine PK.ret ?_
     refine leaf (val0 := vI k) (by kernel_rfl) ?_
     exact li (by exact absurd (Eq.trans (Eq.symm h2) h3) rep_end)
    ·
     refine At rfl ?_
     refine NR ⟨[(0, vL eC l), (5, vI ((d + 1) - 1)), (6, vI k)], []⟩ (sb rfl rfl rfl) rfl ?_
     refine mv rfl ?_
     refine RO (Body.add rfl rfl (by unfold R64; omega)) ?_
     refine ag rfl ?_
     refine RN ?_
     refine Aq rfl ?_
     refine PK.lp ?_
     refine LP.mk ((k + 1), ((d + 1) - 1)) ?_ ?_ (sb rfl rfl rfl)
     · show (k + 1) ≤ l.length ∧ matGo 0 i (List.drop i l) = matGo ((d + 1) - 1) (k + 1) (List.drop (k + 1) l) ∧ -(((k + 1) : Nat) : Int) ≤ ((d + 1) - 1) ∧ ((d + 1) - 1) ≤ (((k + 1) : Nat) : Int)
       refine ⟨by omega, hI0.2.1.trans ?_, by omega, by omega⟩; exact absurd (Eq.trans (Eq.symm h2) h3) rep_end
     · show l.length - (k + 1) < l.length - k
       omega
   ·
    refine At rfl ?_
    refine NR ⟨[(0, vL eC l), (5, vI (d + 1)), (6, vI k)], []⟩ (sb rfl rfl rfl) rfl ?_
    refine mv rfl ?_
    refine RO (Body.add rfl rfl (by unfold R64; omega)) ?_
    refine ag rfl ?_
    refine RN ?_
    refine Aq rfl ?_
    refine PK.lp ?_
    refine LP.mk ((k + 1), (d + 1)) ?_ ?_ (sb rfl rfl rfl)
    · show (k + 1) ≤ l.length ∧ matGo 0 i (List.drop i l) = matGo (d + 1) (k + 1) (List.drop (k + 1) l) ∧ -(((k + 1) : Nat) : Int) ≤ (d + 1) ∧ (d + 1) ≤ (((k + 1) : Nat) : Int)
      refine ⟨by omega, hI0.2.1.trans ?_, by omega, by omega⟩; exact mat_rep (by omega) h2
    · show l.length - (k + 1) < l.length - k
      omega
  ·
   refine At rfl ?_
   refine NR ⟨[(0, vL eC l), (5, vI d), (6, vI k)], []⟩ (sb rfl rfl rfl) rfl ?_
   refine mv rfl ?_
   refine mv rfl ?_
   refine RO (Body.idx (z := z3) (i := k) rfl rfl un83 sz115 (fun _ => rfl) rfl (by omega)) ?_
   refine RO (Body.fadP rfl fa115_0 rfl) ?_
   refine RO (Body.loadP rfl ag9 sz9) ?_
   refine RO (Body.seqB (a := (List.getD l k z3).1) (b := [101, 110, 100]) rfl rfl) ?_
   refine RN ?_
   refine Ap rfl ?_
   refine TK.norm ⟨[(0, vL eC l), (5, vI d), (6, vI k), (27, vB (decide ((List.getD l k z3).1 = [101, 110, 100])))], []⟩ (sb rfl rfl rfl) ?_
   refine TK.condP rfl (fun h5 => ?_) (fun h5 => ?_)
   ·
    refine At rfl ?_
    refine NR ⟨[(0, vL eC l), (5, vI d), (6, vI k)], []⟩ (sb rfl rfl rfl) rfl ?_
    refine mv rfl ?_
    refine RO (Body.sub rfl rfl (by unfold R64; omega)) ?_
    refine ag rfl ?_
    refine RN ?_
    refine Ap rfl ?_
    refine NR ⟨[(0, vL eC l), (5, vI (d - 1)), (6, vI k)], []⟩ (sb rfl rfl rfl) rfl ?_
    refine mv rfl ?_
    refine RO (Body.eql rfl rfl) ?_
    refine RN ?_
    refine Ap rfl ?_
    refine TK.norm ⟨[(0, vL eC l), (5, vI (d - 1)), (6, vI k), (31, vB (decide ((d - 1) = 0)))], []⟩ (sb rfl rfl rfl) ?_
    refine TK.condP rfl (fun h6 => ?_) (fun h6 => ?_)
    ·
     refine At rfl ?_
     refine NR ⟨[(6, vI k)], []⟩ (sb rfl rfl rfl) rfl ?_
     refine mv rfl ?_
     refine ag rfl ?_
     refine RN ?_
     refine Ap rfl ?_
     refine TK.ret ?_
     refine PK.ret ?_
     refine leaf (val0 := vI k) (by kernel_rfl) ?_
     exact li (by (rw [hI0.2.1, mat_end (by omega) h5, if_pos h6]))
    ·
     refine At rfl ?_
     refine NR ⟨[(0, vL eC l), (5, vI (d - 1)), (6, vI k)], []⟩ (sb rfl rfl rfl) rfl ?_
     refine mv rfl ?_
     refine RO (Body.add rfl rfl (by unfold R64; omega)) ?_
     refine ag rfl ?_
     refine RN ?_
     refine Aq rfl ?_
     refine PK.lp ?_
     refine LP.mk ((k + 1), (d - 1)) ?_ ?_ (sb rfl rfl rfl)
     · show (k + 1) ≤ l.length ∧ matGo 0 i (List.drop i l) = matGo (d - 1) (k + 1) (List.drop (k + 1) l) ∧ -(((k + 1) : Nat) : Int) ≤ (d - 1) ∧ (d - 1) ≤ (((k + 1) : Nat) : Int)
       refine ⟨by omega, hI0.2.1.trans ?_, by omega, by omega⟩; (rw [mat_end (by omega) h5, if_neg h6])
     · show l.length - (k + 1) < l.length - k
       omega
   ·
    refine At rfl ?_
    refine NR ⟨[(0, vL eC l), (5, vI d), (6, vI k)], []⟩ (sb rfl rfl rfl) rfl ?_
    refine mv rfl ?_
    refine RO (Body.add rfl rfl (by unfold R64; omega)) ?_
    refine ag rfl ?_
    refine RN ?_
    refine Aq rfl ?_
    refine PK.lp ?_
    refine LP.mk ((k + 1), d) ?_ ?_ (sb rfl rfl rfl)
    · show (k + 1) ≤ l.length ∧ matGo 0 i (List.drop i l) = matGo d (k + 1) (List.drop (k + 1) l) ∧ -(((k + 1) : Nat) : Int) ≤ d ∧ d ≤ (((k + 1) : Nat) : Int)
      refine ⟨by omega, hI0.2.1.trans ?_, by omega, by omega⟩; exact mat_one (by omega) h2 h5
    · show l.length - (k + 1) < l.length - k
      omega
 ·
  refine At rfl ?_
  refine TK.exit ?_
  refine PK.exit rfl ?_
  refine Ap rfl ?_
  refine NR ⟨[(0, vL eC l)], []⟩ (sb rfl rfl rfl) rfl ?_
  refine mv rfl ?_
  refine RO (Body.lenL rfl un83) ?_
  refine ag rfl ?_
  refine RN ?_
  refine Ap rfl ?_
  refine TK.ret ?_
  refine PK.ret ?_
  refine leaf (val0 := vI l.length) (by kernel_rfl) ?_
  exact li (by (rw [hI0.2.1, mat_nil (by omega)]; omega))
set_option maxHeartbeats 4000000 in
theorem w61 (l : List Cmd) (d : Nat) (hw : Wf d l) (hc : ∀ c ∈ l, chkC c = 0) (hl : l.length ≤ 64) (hd : d ≤ 4)
 (hrec : ∀ (b : List Cmd) (d1 : Nat), b.length < l.length → Wf d1 b → (∀ c ∈ b, chkC c = 0) → d1 ≤ 4 → CallOk Tryz.prog 61 [vL eC b] (lookM []) (vI (lenP b)) []) : CallOk Tryz.prog 61 [vL eC l] (lookM []) (vI (lenP l)) [] := by
 haveI := tab_ok
 obtain ⟨fn, f1, f2, f3, f4, _, f6⟩ := qf61
 refine callOk_of (Y := tab) (F := fn61) f1 (f2.trans rfl) f3 f4 f6 (Nat.le_of_ble_eq_true rfl) rfl ?_
 clear f1 f2 f3 f4 f6
 have hsl := wf_small hw hd hc hl
 show TK _ _ _ _ _ _ ⟨[(0, vL eC l)], []⟩
 refine At rfl ?_
 refine NR ⟨[(0, vL eC l)], []⟩ (sb rfl rfl rfl) rfl ?_
 refine ag rfl ?_
 refine RN ?_
 refine Ap rfl ?_
 refine NR ⟨[(0, vL eC l)], []⟩ (sb rfl rfl rfl) rfl ?_
 refine ag rfl ?_
 refine RN ?_
 refine Ap rfl ?_
 refine NR ⟨[(0, vL eC l), (3, vI 0)], []⟩ (sb rfl rfl rfl) rfl ?_
 refine ag rfl ?_
 refine RN ?_
 refine Ap rfl ?_
 refine TK.loop (α := Nat × Int) (fun x => ⟨[(0, vL eC l), (3, vI x.2), (4, vI ((x.1 : Nat) : Int))], []⟩) (fun x => x.1 ≤ l.length ∧ Wf d (List.drop x.1 l) ∧ x.2 + lenP (List.drop x.1 l) = lenP l ∧ 0 ≤ x.2) (fun x => l.length - x.1) (0, 0) ?_ (sb rfl rfl rfl) ?_
 · show 0 ≤ l.length ∧ Wf d (List.drop 0 l) ∧ 0 + lenP (List.drop 0 l) = lenP l ∧ 0 ≤ 0
   exact ⟨Nat.zero_le _, hw, by rw [List.drop_zero]; omega, by omega⟩
 rintro ⟨i, n⟩ hI0
 replace hI0 : i ≤ l.length ∧ Wf d (List.drop i l) ∧ n + lenP (List.drop i l) = lenP l ∧ 0 ≤ n := hI0
 have hs0 := wf_small hI0.2.1 hd (fun c h => hc c (List.mem_of_mem_drop h)) (by rw [List.length_drop]; omega)
 show TK _ _ _ _ _ _ ⟨[(0, vL eC l), (3, vI n), (4, vI i)], []⟩
 refine At rfl ?_
 refine NR ⟨[(0, vL eC l), (3, vI n), (4, vI i)], []⟩ (sb rfl rfl rfl) rfl ?_
 refine mv rfl ?_
 refine mv rfl ?_
 refine RO (Body.lenL rfl un83) ?_
 refine RO (Body.lss rfl rfl) ?_
 refine RN ?_
 refine Ap rfl ?_
 refine TK.norm ⟨[(0, vL eC l), (3, vI n), (4, vI i), (9, vB (decide ((i : Int) < (l.length : Int))))], []⟩ (sb rfl rfl rfl) ?_
 refine TK.condP rfl (fun h1 => ?_) (fun h1 => ?_)
 ·
  refine At rfl ?_
  refine NR ⟨[(0, vL eC l), (3, vI n), (4, vI i)], []⟩ (sb rfl rfl rfl) rfl ?_
  refine mv rfl ?_
  refine mv rfl ?_
  refine RO (Body.idx (z := z3) (i := i) rfl rfl un83 sz115 (fun _ => rfl) rfl (by omega)) ?_
  refine RO (Body.fadP rfl fa115_0 rfl) ?_
  refine RO (Body.loadP rfl ag9 sz9) ?_
  refine RO (Body.sneB (a := (List.getD l i z3).1) (b := [114, 101, 112, 101, 97, 116]) rfl rfl) ?_
  refine RN ?_
  refine Ap rfl ?_
  refine TK.norm ⟨[(0, vL eC l), (3, vI n), (4, vI i), (17, vB (decide ((List.getD l i z3).1 ≠ [114, 101, 112, 101, 97, 116])))], []⟩ (sb rfl rfl rfl) ?_
  refine TK.condP rfl (fun h2 => ?_) (fun h2 => ?_)
  ·
   refine At rfl ?_
   refine NR ⟨[(0, vL eC l), (3, vI n), (4, vI i)], []⟩ (sb rfl rfl rfl) rfl ?_
   refine mv rfl ?_
   refine RO (Body.add rfl rfl (by unfold R64; omega)) ?_
   refine ag rfl ?_
   refine RN ?_
   refine Ap rfl ?_
   refine TK.exit ?_
   refine PK.exit rfl ?_
   refine Ap rfl ?_
   refine NR ⟨[(0, vL eC l), (3, vI (n + 1)), (4, vI i)], []⟩ (sb rfl rfl rfl) rfl ?_
   refine mv rfl ?_
   refine RO (Body.add rfl rfl (by unfold R64; omega)) ?_
   refine ag rfl ?_
   refine RN ?_
   refine Aq rfl ?_
   refine PK.lp ?_
   refine LP.mk ((i + 1), (n + 1)) ?_ ?_ (sb rfl rfl rfl)
   · show (i + 1) ≤ l.length ∧ Wf d (List.drop (i + 1) l) ∧ (n + 1) + lenP (List.drop (i + 1) l) = lenP l ∧ 0 ≤ (n + 1)
     (obtain ⟨q1, q2, q3⟩ := wf_next hI0.2.1 (by omega) h2; exact ⟨by omega, q2, by omega, by omega⟩)
   · show l.length - (i + 1) < l.length - i
     omega
  ·
   refine At rfl ?_
   refine NR ⟨[(0, vL eC l), (3, vI n), (4, vI i)], []⟩ (sb rfl rfl rfl) rfl ?_
   refine mv rfl ?_
   refine mv rfl ?_
   refine RO (Body.call (w138 l i (by omega) (by omega)) rfl rfl rfl) ?_
   refine ag rfl ?_
   refine RN ?_
   refine Ap rfl ?_
   refine TK.norm ⟨[(0, vL eC l), (3, vI n), (4, vI i), (5, vI ((matGo 0 i (List.drop i l) : Nat) : Int))], []⟩ (sb rfl rfl rfl) ?_
   obtain ⟨d1, e, hde, he, he1, he2, hwb, hwr, hle⟩ := wf_at hI0.2.1 (by omega) (Decidable.not_not.1 h2)
   rw [← he]
   have hcb : ∀ c ∈ List.drop (i + 1) (List.take e l), chkC c = 0 := fun c h => hc c (List.mem_of_mem_take (List.mem_of_mem_drop h))
   have hbl : (List.drop (i + 1) (List.take e l)).length < l.length := by rw [List.length_drop, List.length_take]; omega
   have hsb := wf_small hwb (by omega) hcb (by omega)
   have hsr := wf_small hwr hd (fun c h => hc c (List.mem_of_mem_drop h)) (by rw [List.length_drop]; omega)
   have hcn := cnt_rep (hc _ (getD_mem (z := z3) (k := i) (by omega))) (Decidable.not_not.1 h2)
   have hpn : 0 ≤ (Prod.snd (Prod.snd (List.getD l i z3))) * (1 + lenP (List.drop (i + 1) (List.take e l))) := Int.mul_nonneg (by omega) (by omega)
   refine TK.rg (Y := tab) mixed rfl ?_
   refine mv rfl ?_
   refine mv rfl ?_
   refine mv rfl ?_
   refine RO (Body.idx (z := z3) (i := i) rfl rfl un83 sz115 (fun _ => rfl) rfl (by omega)) ?_
   refine RO (Body.fadP rfl fa115_2 rfl) ?_
   refine RO (Body.loadP rfl ag3 sz3) ?_
   refine mv rfl ?_
   refine mv rfl ?_
   refine RO (Body.add rfl rfl (by unfold R64; omega)) ?_
   refine mv rfl ?_
   refine RO (Body.slTD (i := (i + 1)) (j := e) rfl rfl rfl un83 sz115 (fun _ => rfl) (by omega) rfl (by omega) (by omega)) ?_
   refine RO (Body.call (hrec _ d1 hbl hwb hcb (by omega)) rfl rfl rfl) ?_
   refine RO (Body.add rfl rfl (by unfold R64; omega)) ?_
   refine RO (Body.mul rfl rfl (by unfold R64; omega)) ?_
   refine RO (Body.add rfl rfl (by unfold R64; omega)) ?_
   refine ag rfl ?_
   refine RG.nil (fun _ => by kernel_rfl) ?_
   refine Ap rfl ?_
   refine NR ⟨[(0, vL eC l), (3, vI (n + ((Prod.snd (Prod.snd (List.getD l i z3))) * (1 + (lenP (List.drop (i + 1) (List.take e l))))))), (5, vI e)], []⟩ (sb rfl rfl rfl) rfl ?_
   refine mv rfl ?_
   refine ag rfl ?_
   refine RN ?_
   refine Ap rfl ?_
   refine NR ⟨[(0, vL eC l), (3, vI (n + ((Prod.snd (Prod.snd (List.getD l i z3))) * (1 + (lenP (List.drop (i + 1) (List.take e l))))))), (4, vI e)], []⟩ (sb rfl rfl rfl) rfl ?_
   refine mv rfl ?_
   refine RO (Body.add rfl rfl (by unfold R64; omega)) ?_
   refine ag rfl ?_
   refine RN ?_
   refine Aq rfl ?_
   refine PK.lp ?_
   refine LP.mk ((e + 1), (n + ((Prod.snd (Prod.snd (List.getD l i z3))) * (1 + (lenP (List.drop (i + 1) (List.take e l))))))) ?_ ?_ (sb rfl rfl rfl)
   · show (e + 1) ≤ l.length ∧ Wf d (List.drop (e + 1) l) ∧ (n + ((Prod.snd (Prod.snd (List.getD l i z3))) * (1 + (lenP (List.drop (i + 1) (List.take e l)))))) + lenP (List.drop (e + 1) l) = lenP l ∧ 0 ≤ (n + ((Prod.snd (Prod.snd (List.getD l i z3))) * (1 + (lenP (List.drop (i + 1) (List.take e l))))))
     exact ⟨by omega, hwr, by omega, by omega⟩
   · show l.length - (e + 1) < l.length - i
     omega
 ·
  refine At rfl ?_
  refine TK.exit ?_
  refine PK.exit rfl ?_
  refine Ap rfl ?_
  refine NR ⟨[(3, vI n)], []⟩ (sb rfl rfl rfl) rfl ?_
  refine mv rfl ?_
  refine ag rfl ?_
  refine RN ?_
  refine Ap rfl ?_
  refine TK.ret ?_
  refine PK.ret ?_
  refine leaf (val0 := vI n) (by kernel_rfl) ?_
  exact li (by have hz := hI0.2.2.1; rw [List.drop_of_length_le (by omega), lenP_nil] at hz; omega)
theorem w61r : ∀ (n : Nat) (l : List Cmd) (d : Nat), l.length ≤ n → Wf d l → (∀ c ∈ l, chkC c = 0) → l.length ≤ 64 → d ≤ 4 → CallOk Tryz.prog 61 [vL eC l] (lookM []) (vI (lenP l)) []
 | 0, l, d, hn, hw, hc, hl, hd => w61 l d hw hc hl hd fun b d1 hb => absurd hb (by omega)
 | n + 1, l, d, hn, hw, hc, hl, hd => w61 l d hw hc hl hd fun b d1 hb hw1 hc1 hd1 => w61r n b d1 (by omega) hw1 hc1 (by omega) hd1
theorem w61s {l : List Cmd} (hl : l.length ≤ 64) (hc : ∀ c ∈ l, chkC c = 0) (hd : depC 0 l = 0) : CallOk Tryz.prog 61 [vL eC l] (lookM []) (vI (lenP l)) [] := w61r l.length l 4 (Nat.le_refl _) (wf_of hd) hc hl (by omega)
theorem w61k {l : List Cmd} (h : decide (chkS l ≠ 0) = false) : CallOk Tryz.prog 61 [vL eC l] (lookM []) (vI (lenP l)) [] := by
 obtain ⟨h1, h2, h3, _⟩ := chkS_ok (Decidable.not_not.1 (of_decide_eq_false h))
 exact w61s h1 h2 h3
set_option maxHeartbeats 4000000 in
theorem w137 (l : List Cmd) (hc : ∀ c ∈ l, chkC c = 0) (hl : l.length ≤ 64) (hd : depC 0 l = 0) : CallOk Tryz.prog 137 [vL eC l] (lookM []) (vI (lenP l)) [] := by
 haveI := tab_ok
 obtain ⟨fn, f1, f2, f3, f4, _, f6⟩ := qf137
 refine callOk_of (Y := tab) (F := fn137) f1 (f2.trans rfl) f3 f4 f6 (Nat.le_of_ble_eq_true rfl) rfl ?_
 clear f1 f2 f3 f4 f6
 have hsl := wf_small (wf_of hd) (by omega) hc hl
 show TK _ _ _ _ _ _ ⟨[(0, vL eC l)], []⟩
 refine At rfl ?_
 refine NR ⟨[(0, vL eC l)], []⟩ (sb rfl rfl rfl) rfl ?_
 refine ag rfl ?_
 refine RN ?_
 refine Ap rfl ?_
 refine NR ⟨[(0, vL eC l)], []⟩ (sb rfl rfl rfl) rfl ?_
 refine rn rfl ?_
 refine rn rfl ?_
 refine RN ?_
 refine Ap rfl ?_
 refine NR ⟨[(0, vL eC l), (3, .aref 9 0)], [(9, .arr 0 1 3 (List.map eI [0]))]⟩ (sb rfl rfl rfl) rfl ?_
 refine RO (Body.adopt 5 1 3 rfl rfl) ?_
 refine RN ?_
 refine Ap rfl ?_
 refine NR ⟨[(0, vL eC l), (3, .aref 9 0), (4, .aref 5 0)], [(5, .arr 0 1 3 (List.map eI [])), (9, .arr 0 1 3 (List.map eI [0]))]⟩ (sb rfl rfl rfl) rfl ?_
 refine mv rfl ?_
 refine RO (Body.lenL rfl un82) ?_
 refine mv rfl ?_
 refine RN ?_
 refine Ap rfl ?_
 refine TK.loop (α := Nat × Nat × Nat × Int × List (Int × Int)) (fun x => ⟨[(3, .aref 9 x.2.1), (4, .aref 5 x.2.2.1), (9, vL eC l), (10, vI l.length), (11, vI ((x.1 : Nat) : Int))], [(5, .arr x.2.2.1 1 3 (List.map eI (cnL x.2.2.2.2))), (9, .arr x.2.1 1 3 (List.map eI (smL x.2.2.2.2 x.2.2.2.1)))]⟩) (fun x => x.1 ≤ l.length ∧ LnI l x.1 x.2.2.2.1 x.2.2.2.2) (fun x => l.length - x.1) (0, 0, 0, 0, []) ?_ (sb rfl rfl rfl) ?_
 · show 0 ≤ l.length ∧ LnI l 0 0 []
   exact ⟨Nat.zero_le _, ln_init hd⟩
 rintro ⟨k, v, u, s, st⟩ hI0
 replace hI0 : k ≤ l.length ∧ LnI l k s st := hI0
 have hle := ln_le hI0.2 hc
 have hsk := hI0.2.1.2.2
 have hsl2 := smL_len st s
 have hcl2 := cnL_len st
 show TK _ _ _ _ _ _ ⟨[(3, .aref 9 v), (4, .aref 5 u), (9, vL eC l), (10, vI l.length), (11, vI k)], [(5, .arr u 1 3 (List.map eI (cnL st))), (9, .arr v 1 3 (List.map eI (smL st s)))]⟩
 refine At rfl ?_
 refine NR ⟨[(3, .aref 9 v), (4, .aref 5 u), (9, vL eC l), (10, vI l.length), (11, vI k)], [(5, .arr u 1 3 (List.map eI (cnL st))), (9, .arr v 1 3 (List.map eI (smL st s)))]⟩ (sb rfl rfl rfl) rfl ?_
 refine RO (Body.lss rfl rfl) ?_
 refine RN ?_
 refine Ap rfl ?_
 refine TK.norm ⟨[(3, .aref 9 v), (4, .aref 5 u), (9, vL eC l), (10, vI l.length), (11, vI k), (12, vB (decide ((k : Int) < (l.length : Int))))], [(5, .arr u 1 3 (List.map eI (cnL st))), (9, .arr v 1 3 (List.map eI (smL st s)))]⟩ (sb rfl rfl rfl) ?_
 refine TK.condP rfl (fun h1 => ?_) (fun h1 => ?_)
 ·
  refine At rfl ?_
  refine NR ⟨[(3, .aref 9 v), (4, .aref 5 u), (9, vL eC l), (10, vI l.length), (11, vI k)], [(5, .arr u 1 3 (List.map eI (cnL st))), (9, .arr v 1 3 (List.map eI (smL st s)))]⟩ (sb rfl rfl rfl) rfl ?_
  refine RO (Body.idx (z := z3) (i := k) rfl rfl un82 sz116 (fun _ => rfl) rfl (by omega)) ?_
  refine RO (Body.loadA (ds := [pS (bsO (List.getD l k z3).1), pS (bsO (Prod.fst (Prod.snd (List.getD l k z3)))), pI (Prod.snd (Prod.snd (List.getD l k z3)))]) rfl ag116 sz116 (Nat.le_of_ble_eq_true rfl) rfl) ?_
  refine rn rfl ?_
  refine rn rfl ?_
  refine RN ?_
  refine Ap rfl ?_
  refine NR ⟨[(3, .aref 9 v), (4, .aref 5 u), (6, .bref 7 0), (9, vL eC l), (10, vI l.length), (11, vI k)], [(5, .arr u 1 3 (List.map eI (cnL st))), (7, .box 116 [vS (bsO (List.getD l k z3).1), vS (bsO (Prod.fst (Prod.snd (List.getD l k z3)))), vI (Prod.snd (Prod.snd (List.getD l k z3)))]), (9, .arr v 1 3 (List.map eI (smL st s)))]⟩ (sb rfl rfl rfl) rfl ?_
  refine rn rfl ?_
  refine RO (Body.lenA rfl rfl un22) ?_
  refine RO (Body.sub rfl rfl (by unfold R64; omega)) ?_
  refine ag rfl ?_
  refine RN ?_
  refine Ap rfl ?_
  refine TK.norm ⟨[(3, .aref 9 v), (4, .aref 5 u), (6, .bref 7 0), (7, vI (((List.length (smL st s) : Nat) : Int) - 1)), (9, vL eC l), (10, vI l.length), (11, vI k)], [(5, .arr u 1 3 (List.map eI (cnL st))), (7, .box 116 [vS (bsO (List.getD l k z3).1), vS (bsO (Prod.fst (Prod.snd (List.getD l k z3)))), vI (Prod.snd (Prod.snd (List.getD l k z3)))]), (9, .arr v 1 3 (List.map eI (smL st s)))]⟩ (sb rfl rfl rfl) ?_
  obtain ⟨m, hm⟩ : ∃ m, m = st.length := ⟨_, rfl⟩
  rw [show (((List.length (smL st s) : Nat) : Int) - 1) = (m : Int) by omega]
  refine TK.rg (Y := tab) mixed rfl ?_
  refine RO (Body.fadB rfl fa116_0 rfl) ?_
  refine RO (Body.loadB rfl rfl rfl ag9 sz9 rfl) ?_
  refine RN ?_
  refine Ap rfl ?_
  refine NR ⟨[(3, .aref 9 v), (4, .aref 5 u), (6, .bref 7 0), (7, vI m), (9, vL eC l), (10, vI l.length), (11, vI k), (19, vS (bsO (List.getD l k z3).1))], [(5, .arr u 1 3 (List.map eI (cnL st))), (7, .box 116 [vS (bsO (List.getD l k z3).1), vS (bsO (Prod.fst (Prod.snd (List.getD l k z3)))), vI (Prod.snd (Prod.snd (List.getD l k z3)))]), (9, .arr v 1 3 (List.map eI (smL st s)))]⟩ (sb rfl rfl rfl) rfl ?_
  refine RO (Body.seqB (a := (List.getD l k z3).1) (b := [114, 101, 112, 101, 97, 116]) rfl rfl) ?_
  refine ag rfl ?_
  refine RN ?_
  refine Ap rfl ?_
  refine TK.norm ⟨[(3, .aref 9 v), (4, .aref 5 u), (6, .bref 7 0), (7, vI m), (9, vL eC l), (10, vI l.length), (11, vI k), (19, vS (bsO (List.getD l k z3).1)), (26, vB (decide ((List.getD l k z3).1 = [114, 101, 112, 101, 97, 116])))], [(5, .arr u 1 3 (List.map eI (cnL st))), (7, .box 116 [vS (bsO (List.getD l k z3).1), vS (bsO (Prod.fst (Prod.snd (List.getD l k z3)))), vI (Prod.snd (Prod.snd (List.getD l k z3)))]), (9, .arr v 1 3 (List.map eI (smL st s)))]⟩ (sb rfl rfl rfl) ?_
  refine TK.condP rfl (fun h2 => ?_) (fun h2 => ?_)
  ·
   refine At rfl ?_
   refine NR ⟨[(3, .aref 9 v), (4, .aref 5 u), (6, .bref 7 0), (9, vL eC l), (10, vI l.length), (11, vI k)], [(5, .arr u 1 3 (List.map eI (cnL st))), (7, .box 116 [vS (bsO (List.getD l k z3).1), vS (bsO (Prod.fst (Prod.snd (List.getD l k z3)))), vI (Prod.snd (Prod.snd (List.getD l k z3)))]), (9, .arr v 1 3 (List.map eI (smL st s)))]⟩ (sb rfl rfl rfl) rfl ?_
   refine rn rfl ?_
   refine RO (Body.runZ (val := .pv (.slice (List.map eI [1]))) rfl (fun l => Frz.arr l _ _ _ _ _) rfl) ?_
   refine RO (Body.append rfl rfl rfl un22 in3 rfl (fun _ => rfl) by3 (by (simp only [List.length_set, List.length_append, List.length_cons, List.length_nil]; omega))) ?_
   refine rn rfl ?_
   refine RO (Body.fadB rfl fa116_2 rfl) ?_
   refine RO (Body.loadB rfl rfl rfl ag3 sz3 rfl) ?_
   refine RO (Body.runZ (val := .pv (.slice (List.map eI [(Prod.snd (Prod.snd (List.getD l k z3)))]))) rfl (fun l => Frz.arr l _ _ _ _ _) rfl) ?_
   refine RO (Body.append rfl rfl rfl un22 in3 rfl (fun _ => rfl) by3 (by (simp only [List.length_set, List.length_append, List.length_cons, List.length_nil]; omega))) ?_
   refine rn rfl ?_
   refine rn rfl ?_
   refine RG.nil (fun _ => by kernel_rfl) ?_
   refine Ap rfl ?_
   refine NR ⟨[(3, .aref 9 (v + 1)), (4, .aref 5 (u + 1)), (9, vL eC l), (10, vI l.length), (11, vI k)], [(5, .arr (u + 1) 1 3 (List.map eI ((cnL st) ++ [(Prod.snd (Prod.snd (List.getD l k z3)))]))), (9, .arr (v + 1) 1 3 (List.map eI ((smL st s) ++ [1])))]⟩ (sb rfl rfl rfl) rfl ?_
   refine RO (Body.add rfl rfl (by unfold R64; omega)) ?_
   refine mv rfl ?_
   refine RN ?_
   refine Aq rfl ?_
   refine PK.lp ?_
   refine LP.mk ((k + 1), (v + 1), (u + 1), 1, ((s, (Prod.snd (Prod.snd (List.getD l k z3)))) :: st)) ?_ ?_ (sb rfl rfl rfl)
   · show (k + 1) ≤ l.length ∧ LnI l (k + 1) 1 ((s, (Prod.snd (Prod.snd (List.getD l k z3)))) :: st)
     refine ⟨by omega, ?_⟩; exact ln_rep hI0.2 hc (by omega) h2
   · show l.length - (k + 1) < l.length - k
     omega
  ·
   refine At rfl ?_
   refine NR ⟨[(3, .aref 9 v), (4, .aref 5 u), (7, vI m), (9, vL eC l), (10, vI l.length), (11, vI k), (19, vS (bsO (List.getD l k z3).1))], [(5, .arr u 1 3 (List.map eI (cnL st))), (9, .arr v 1 3 (List.map eI (smL st s)))]⟩ (sb rfl rfl rfl) rfl ?_
   refine RO (Body.seqB (a := (List.getD l k z3).1) (b := [101, 110, 100]) rfl rfl) ?_
   refine ag rfl ?_
   refine RN ?_
   refine Ap rfl ?_
   refine TK.norm ⟨[(3, .aref 9 v), (4, .aref 5 u), (7, vI m), (9, vL eC l), (10, vI l.length), (11, vI k), (36, vB (decide ((List.getD l k z3).1 = [101, 110, 100])))], [(5, .arr u 1 3 (List.map eI (cnL st))), (9, .arr v 1 3 (List.map eI (smL st s)))]⟩ (sb rfl rfl rfl) ?_
   refine TK.condP rfl (fun h3 => ?_) (fun h3 => ?_)
   ·
    refine At rfl ?_
    refine TK.norm ⟨[(3, .aref 9 v), (4, .aref 5 u), (7, vI m), (9, vL eC l), (10, vI l.length), (11, vI k)], [(5, .arr u 1 3 (List.map eI (cnL st))), (9, .arr v 1 3 (List.map eI (smL st s)))]⟩ (sb rfl rfl rfl) ?_
    obtain ⟨p, st2, rfl⟩ := ln_some hI0.2 (by omega) h3
    have hm2 : m = st2.length + 1 := hm
    have g1 : (List.getD (smL (p :: st2) s) (m - 1) 0) = Prod.fst p := by rw [hm2]; exact smL_get2 p st2 s
    have g2 : (List.getD (cnL (p :: st2)) (m - 1) 0) = Prod.snd p := by rw [hm2]; exact cnL_get p st2
    have g3 : (List.getD (smL (p :: st2) s) m 0) = s := by rw [hm2]; exact smL_get (p :: st2) s
    have hpop := ln_pop hI0.2 (by omega) h3
    have hpl := (ln_le hpop hc).1
    have hp0 := hI0.2.2.2 p (List.mem_cons_self ..)
    have hq1 : 0 ≤ (List.getD (cnL (p :: st2)) (m - 1) 0) * (List.getD (smL (p :: st2) s) m 0) ∧ (List.getD (smL (p :: st2) s) (m - 1) 0) + (List.getD (cnL (p :: st2)) (m - 1) 0) * (List.getD (smL (p :: st2) s) m 0) ≤ 7000000000 ∧ 0 ≤ (List.getD (smL (p :: st2) s) (m - 1) 0) := by
      rw [g1, g2, g3]; exact ⟨Int.mul_nonneg (by omega) hI0.2.2.1, by omega, hp0.1⟩
    refine TK.rg (Y := tab) mixed rfl ?_
    refine rn rfl ?_
    refine mv rfl ?_
    refine RO (Body.sub rfl rfl (by unfold R64; omega)) ?_
    refine RO (Body.idxE (n := (m - 1)) rfl rfl rfl un22 sz3 (by omega) (by omega)) ?_
    refine RO (Body.loadE (n := (m - 1)) (z0 := 0) rfl rfl ag3 sz3 (by omega) rfl) ?_
    refine rn rfl ?_
    refine mv rfl ?_
    refine RO (Body.sub rfl rfl (by unfold R64; omega)) ?_
    refine RO (Body.idxE (n := (m - 1)) rfl rfl rfl un22 sz3 (by omega) (by omega)) ?_
    refine RO (Body.loadE (n := (m - 1)) (z0 := 0) rfl rfl ag3 sz3 (by omega) rfl) ?_
    refine rn rfl ?_
    refine mv rfl ?_
    refine RO (Body.idxE (n := m) rfl rfl rfl un22 sz3 rfl (by omega)) ?_
    refine RO (Body.loadE (n := m) (z0 := 0) rfl rfl ag3 sz3 (by omega) rfl) ?_
    refine RO (Body.mul rfl rfl (by unfold R64; omega)) ?_
    refine RO (Body.add rfl rfl (by unfold R64; omega)) ?_
    refine RO (Body.idxE (n := (m - 1)) rfl rfl rfl un22 sz3 (by omega) (by omega)) ?_
    refine RO (Body.setE (z0 := ((List.getD (smL (p :: st2) s) (m - 1) 0) + ((List.getD (cnL (p :: st2)) (m - 1) 0) * (List.getD (smL (p :: st2) s) m 0)))) rfl rfl rfl rfl rfl sz3 (by omega) (fun _ => rfl)) ?_
    refine RG.nil (fun _ => by kernel_rfl) ?_
    refine Ap rfl ?_
    refine NR ⟨[(3, .aref 9 v), (4, .aref 5 u), (7, vI m), (9, vL eC l), (10, vI l.length), (11, vI k)], [(5, .arr u 1 3 (List.map eI (cnL (p :: st2)))), (9, .arr v 1 3 (List.map eI (List.set (smL (p :: st2) s) (m - 1) ((List.getD (smL (p :: st2) s) (m - 1) 0) + ((List.getD (cnL (p :: st2)) (m - 1) 0) * (List.getD (smL (p :: st2) s) m 0))))))]⟩ (sb rfl rfl rfl) rfl ?_
    refine rn rfl ?_
    refine mv rfl ?_
    refine RO (Body.slA (n := m) rfl rfl rfl un22 sz3 rfl (by (simp only [List.length_set, List.length_append, List.length_cons, List.length_nil]; omega))) ?_
    refine rn rfl ?_
    refine mv rfl ?_
    refine RO (Body.sub rfl rfl (by unfold R64; omega)) ?_
    refine RO (Body.slA (n := (m - 1)) rfl rfl rfl un22 sz3 (by omega) (by omega)) ?_
    refine rn rfl ?_
    refine rn rfl ?_
    refine RG.nil (fun _ => by kernel_rfl) ?_
    refine Ap rfl ?_
    refine TK.norm ⟨[(3, .atrunc 9 v m), (4, .atrunc 5 u (m - 1)), (9, vL eC l), (10, vI l.length), (11, vI k)], [(5, .arr u 1 3 (List.map eI (cnL (p :: st2)))), (9, .arr v 1 3 (List.map eI (List.set (smL (p :: st2) s) (m - 1) ((List.getD (smL (p :: st2) s) (m - 1) 0) + ((List.getD (cnL (p :: st2)) (m - 1) 0) * (List.getD (smL (p :: st2) s) m 0))))))]⟩ (sb rfl rfl rfl) ?_
    refine TK.trunc (t := 3) rfl rfl ?_
    refine TK.norm ⟨[(3, .aref 9 (v + 1)), (4, .atrunc 5 u (m - 1)), (9, vL eC l), (10, vI l.length), (11, vI k)], [(5, .arr u 1 3 (List.map eI (cnL (p :: st2)))), (9, .arr (v + 1) 1 3 (List.map eI (List.take m (List.set (smL (p :: st2) s) (m - 1) ((List.getD (smL (p :: st2) s) (m - 1) 0) + ((List.getD (cnL (p :: st2)) (m - 1) 0) * (List.getD (smL (p :: st2) s) m 0)))))))]⟩ (sb rfl rfl rfl) ?_
    refine TK.trunc (t := 4) rfl rfl ?_
    refine TK.norm ⟨[(3, .aref 9 (v + 1)), (4, .aref 5 (u + 1)), (9, vL eC l), (10, vI l.length), (11, vI k)], [(5, .arr (u + 1) 1 3 (List.map eI (List.take (m - 1) (cnL (p :: st2))))), (9, .arr (v + 1) 1 3 (List.map eI (List.take m (List.set (smL (p :: st2) s) (m - 1) ((List.getD (smL (p :: st2) s) (m - 1) 0) + ((List.getD (cnL (p :: st2)) (m - 1) 0) * (List.getD (smL (p :: st2) s) m 0)))))))]⟩ (sb rfl rfl rfl) ?_
    have e1 : (List.take m (List.set (smL (p :: st2) s) (m - 1) ((List.getD (smL (p :: st2) s) (m - 1) 0) + ((List.getD (cnL (p :: st2)) (m - 1) 0) * (List.getD (smL (p :: st2) s) m 0))))) = smL st2 (Prod.fst p + Prod.snd p * s) := by rw [g1, g2, g3, hm2]; exact smL_pop p st2 s _
    have e2 : (List.take (m - 1) (cnL (p :: st2))) = cnL st2 := by rw [hm2]; exact cnL_pop p st2
    rw [e1, e2]
    refine TK.rg (Y := tab) mixed rfl ?_
    refine RO (Body.add rfl rfl (by unfold R64; omega)) ?_
    refine mv rfl ?_
    refine RN ?_
    refine Aq rfl ?_
    refine PK.lp ?_
    refine LP.mk ((k + 1), (v + 1), (u + 1), (Prod.fst p + Prod.snd p * s), st2) ?_ ?_ (sb rfl rfl rfl)
    · show (k + 1) ≤ l.length ∧ LnI l (k + 1) (Prod.fst p + Prod.snd p * s) st2
      refine ⟨by omega, ?_⟩; exact hpop
    · show l.length - (k + 1) < l.length - k
      omega
   ·
    refine At rfl ?_
    refine TK.norm ⟨[(3, .aref 9 v), (4, .aref 5 u), (7, vI m), (9, vL eC l), (10, vI l.length), (11, vI k)], [(5, .arr u 1 3 (List.map eI (cnL st))), (9, .arr v 1 3 (List.map eI (smL st s)))]⟩ (sb rfl rfl rfl) ?_
    have g4 : List.getD (smL st s) m 0 = s := by rw [hm]; exact smL_get st s
    have hsn := hI0.2.2.1
    refine TK.rg (Y := tab) mixed rfl ?_
    refine rn rfl ?_
    refine mv rfl ?_
    refine RO (Body.idxE (n := m) rfl rfl rfl un22 sz3 rfl (by omega)) ?_
    refine RO (Body.loadE (n := m) (z0 := 0) rfl rfl ag3 sz3 (by omega) rfl) ?_
    refine RO (Body.add rfl rfl (by unfold R64; omega)) ?_
    refine RO (Body.idxE (n := m) rfl rfl rfl un22 sz3 rfl (by omega)) ?_
    refine RO (Body.setE (z0 := ((List.getD (smL st s) m 0) + 1)) rfl rfl rfl rfl rfl sz3 (by omega) (fun _ => rfl)) ?_
    refine RN ?_
    refine Ap rfl ?_
    refine TK.norm ⟨[(3, .aref 9 v), (4, .aref 5 u), (9, vL eC l), (10, vI l.length), (11, vI k)], [(5, .arr u 1 3 (List.map eI (cnL st))), (9, .arr v 1 3 (List.map eI (List.set (smL st s) m ((List.getD (smL st s) m 0) + 1))))]⟩ (sb rfl rfl rfl) ?_
    have e1 : (List.set (smL st s) m ((List.getD (smL st s) m 0) + 1)) = smL st (s + 1) := by rw [g4, hm]; exact smL_set st s _
    rw [e1]
    refine TK.rg (Y := tab) mixed rfl ?_
    refine RO (Body.add rfl rfl (by unfold R64; omega)) ?_
    refine mv rfl ?_
    refine RN ?_
    refine Aq rfl ?_
    refine PK.lp ?_
    refine LP.mk ((k + 1), v, u, (s + 1), st) ?_ ?_ (sb rfl rfl rfl)
    · show (k + 1) ≤ l.length ∧ LnI l (k + 1) (s + 1) st
      refine ⟨by omega, ?_⟩; exact ln_one hI0.2 (by omega) h2 h3
    · show l.length - (k + 1) < l.length - k
      omega
 ·
  refine At rfl ?_
  refine TK.exit ?_
  refine PK.exit rfl ?_
  refine Ap rfl ?_
  refine NR ⟨[(3, .aref 9 v)], [(9, .arr v 1 3 (List.map eI (smL st s)))]⟩ (sb rfl rfl rfl) rfl ?_
  refine rn rfl ?_
  refine RO (Body.idxE (n := 0) rfl rfl rfl un22 sz3 rfl (by omega)) ?_
  refine RO (Body.loadE (n := 0) (z0 := 0) rfl rfl ag3 sz3 (by omega) rfl) ?_
  refine ag rfl ?_
  refine RN ?_
  refine Ap rfl ?_
  refine TK.ret ?_
  refine PK.ret ?_
  refine leaf (val0 := vI (List.getD (smL st s) 0 0)) (by kernel_rfl) ?_
  exact li (by exact ln_end hI0.2 (by omega))
set_option maxHeartbeats 4000000 in
theorem w59 (l : List Cmd) (hl : l.length ≤ 1000000000000000) : CallOk Tryz.prog 59 [vL eC l] (lookM []) (vI (chkS l)) [] := by
 haveI := tab_ok
 obtain ⟨fn, f1, f2, f3, f4, _, f6⟩ := qf59
 refine callOk_of (Y := tab) (F := fn59) f1 (f2.trans rfl) f3 f4 f6 (Nat.le_of_ble_eq_true rfl) rfl ?_
 clear f1 f2 f3 f4 f6
 show TK _ _ _ _ _ _ ⟨[(0, vL eC l)], []⟩
 refine At rfl ?_
 refine NR ⟨[(0, vL eC l)], []⟩ (sb rfl rfl rfl) rfl ?_
 refine ag rfl ?_
 refine RN ?_
 refine Ap rfl ?_
 refine NR ⟨[(0, vL eC l)], []⟩ (sb rfl rfl rfl) rfl ?_
 refine mv rfl ?_
 refine RO (Body.lenL rfl un82) ?_
 refine RO (Body.gtr rfl rfl) ?_
 refine RN ?_
 refine Ap rfl ?_
 refine TK.norm ⟨[(0, vL eC l), (11, vB (decide (64 < (l.length : Int))))], []⟩ (sb rfl rfl rfl) ?_
 refine TK.condP rfl (fun h1 => ?_) (fun h1 => ?_)
 ·
  refine At rfl ?_
  refine NR ⟨[], []⟩ (sb rfl rfl rfl) rfl ?_
  refine ag rfl ?_
  refine RN ?_
  refine Ap rfl ?_
  refine TK.ret ?_
  refine PK.ret ?_
  refine leaf (val0 := vI 5) (by kernel_rfl) ?_
  exact li (by (exact (chkS_many h1).symm))
 ·
  refine At rfl ?_
  refine NR ⟨[(0, vL eC l)], []⟩ (sb rfl rfl rfl) rfl ?_
  refine mv rfl ?_
  refine RO (Body.lenL rfl un82) ?_
  refine mv rfl ?_
  refine RN ?_
  refine Ap rfl ?_
  refine TK.loop (α := Nat) (fun x => ⟨[(0, vL eC l), (12, vL eC l), (13, vI l.length), (14, vI x)], []⟩) (fun x => x ≤ l.length ∧ badC l = badC (List.drop x l)) (fun x => l.length - x) 0 ?_ (sb rfl rfl rfl) ?_
  · show 0 ≤ l.length ∧ badC l = badC (List.drop 0 l)
    exact ⟨Nat.zero_le _, rfl⟩
  rintro k hI0
  replace hI0 : k ≤ l.length ∧ badC l = badC (List.drop k l) := hI0
  show TK _ _ _ _ _ _ ⟨[(0, vL eC l), (12, vL eC l), (13, vI l.length), (14, vI k)], []⟩
  refine At rfl ?_
  refine NR ⟨[(0, vL eC l), (12, vL eC l), (13, vI l.length), (14, vI k)], []⟩ (sb rfl rfl rfl) rfl ?_
  refine RO (Body.lss rfl rfl) ?_
  refine RN ?_
  refine Ap rfl ?_
  refine TK.norm ⟨[(0, vL eC l), (12, vL eC l), (13, vI l.length), (14, vI k), (15, vB (decide ((k : Int) < (l.length : Int))))], []⟩ (sb rfl rfl rfl) ?_
  refine TK.condP rfl (fun h2 => ?_) (fun h2 => ?_)
  ·
   refine At rfl ?_
   refine NR ⟨[(0, vL eC l), (12, vL eC l), (13, vI l.length), (14, vI k)], []⟩ (sb rfl rfl rfl) rfl ?_
   refine RO (Body.idx (z := z3) (i := k) rfl rfl un82 sz116 (fun _ => rfl) rfl (by omega)) ?_
   refine RO (Body.loadA (ds := [pS (bsO (List.getD l k z3).1), pS (bsO (Prod.fst (Prod.snd (List.getD l k z3)))), pI (Prod.snd (Prod.snd (List.getD l k z3)))]) rfl ag116 sz116 (Nat.le_of_ble_eq_true rfl) rfl) ?_
   refine rn rfl ?_
   refine rn rfl ?_
   refine RN ?_
   refine Ap rfl ?_
   refine NR ⟨[(0, vL eC l), (4, .bref 5 0), (12, vL eC l), (13, vI l.length), (14, vI k)], [(5, .box 116 [vS (bsO (List.getD l k z3).1), vS (bsO (Prod.fst (Prod.snd (List.getD l k z3)))), vI (Prod.snd (Prod.snd (List.getD l k z3)))])]⟩ (sb rfl rfl rfl) rfl ?_
   refine RO (Body.loadBA rfl rfl rfl ag116 sz116 rfl rfl) ?_
   refine RO (Body.call (w136 (List.getD l k z3)) rfl rfl rfl) ?_
   refine ag rfl ?_
   refine RN ?_
   refine Ap rfl ?_
   refine NR ⟨[(0, vL eC l), (5, vI (chkC (List.getD l k z3))), (12, vL eC l), (13, vI l.length), (14, vI k)], []⟩ (sb rfl rfl rfl) rfl ?_
   refine mv rfl ?_
   refine RO (Body.neq rfl rfl) ?_
   refine RN ?_
   refine Ap rfl ?_
   refine TK.norm ⟨[(0, vL eC l), (5, vI (chkC (List.getD l k z3))), (12, vL eC l), (13, vI l.length), (14, vI k), (21, vB (decide ((chkC (List.getD l k z3)) ≠ 0)))], []⟩ (sb rfl rfl rfl) ?_
   refine TK.condP rfl (fun h3 => ?_) (fun h3 => ?_)
   ·
    refine At rfl ?_
    refine NR ⟨[(5, vI (chkC (List.getD l k z3)))], []⟩ (sb rfl rfl rfl) rfl ?_
    refine mv rfl ?_
    refine ag rfl ?_
    refine RN ?_
    refine Ap rfl ?_
    refine TK.ret ?_
    refine PK.ret ?_
    refine leaf (val0 := vI (chkC (List.getD l k z3))) (by kernel_rfl) ?_
    exact li (by (exact (chkS_bad h1 (hI0.2.trans (badC_no (by omega) h3)) h3).symm))
   ·
    refine At rfl ?_
    refine NR ⟨[(0, vL eC l), (12, vL eC l), (13, vI l.length), (14, vI k)], []⟩ (sb rfl rfl rfl) rfl ?_
    refine RO (Body.add rfl rfl (by unfold R64; omega)) ?_
    refine mv rfl ?_
    refine RN ?_
    refine Aq rfl ?_
    refine PK.lp ?_
    refine LP.mk (k + 1) ?_ ?_ (sb rfl rfl rfl)
    · show (k + 1) ≤ l.length ∧ badC l = badC (List.drop (k + 1) l)
      exact ⟨by omega, hI0.2.trans (badC_ok (by omega) (Decidable.not_not.1 h3))⟩
    · show l.length - (k + 1) < l.length - k
      omega
  ·
   refine At rfl ?_
   refine TK.exit ?_
   refine PK.exit rfl ?_
   refine Ap rfl ?_
   refine TK.norm ⟨[(0, vL eC l)], []⟩ (sb rfl rfl rfl) ?_
   have hb0 : badC l = 0 := hI0.2.trans (bad_end (by omega))
   have hc := badC_all hb0
   refine TK.rg (Y := tab) mixed rfl ?_
   refine ag rfl ?_
   refine RN ?_
   refine Ap rfl ?_
   refine NR ⟨[(0, vL eC l), (6, vI 0)], []⟩ (sb rfl rfl rfl) rfl ?_
   refine mv rfl ?_
   refine RO (Body.lenL rfl un82) ?_
   refine mv rfl ?_
   refine RN ?_
   refine Ap rfl ?_
   refine TK.loop (α := Nat × Nat) (fun x => ⟨[(0, vL eC l), (6, vI ((x.2 : Nat) : Int)), (24, vL eC l), (25, vI l.length), (26, vI ((x.1 : Nat) : Int))], []⟩) (fun x => x.1 ≤ l.length ∧ x.2 ≤ 4 ∧ depC 0 l = depC x.2 (List.drop x.1 l)) (fun x => l.length - x.1) (0, 0) ?_ (sb rfl rfl rfl) ?_
   · show 0 ≤ l.length ∧ 0 ≤ 4 ∧ depC 0 l = depC 0 (List.drop 0 l)
     exact ⟨Nat.zero_le _, by omega, rfl⟩
   rintro ⟨k, d⟩ hI1
   replace hI1 : k ≤ l.length ∧ d ≤ 4 ∧ depC 0 l = depC d (List.drop k l) := hI1
   show TK _ _ _ _ _ _ ⟨[(0, vL eC l), (6, vI d), (24, vL eC l), (25, vI l.length), (26, vI k)], []⟩
   refine At rfl ?_
   refine NR ⟨[(0, vL eC l), (6, vI d), (24, vL eC l), (25, vI l.length), (26, vI k)], []⟩ (sb rfl rfl rfl) rfl ?_
   refine RO (Body.lss rfl rfl) ?_
   refine RN ?_
   refine Ap rfl ?_
   refine TK.norm ⟨[(0, vL eC l), (6, vI d), (24, vL eC l), (25, vI l.length), (26, vI k), (27, vB (decide ((k : Int) < (l.length : Int))))], []⟩ (sb rfl rfl rfl) ?_
   refine TK.condP rfl (fun h4 => ?_) (fun h4 => ?_)
   ·
    refine At rfl ?_
    refine NR ⟨[(0, vL eC l), (6, vI d), (24, vL eC l), (25, vI l.length), (26, vI k)], []⟩ (sb rfl rfl rfl) rfl ?_
    refine RO (Body.idx (z := z3) (i := k) rfl rfl un82 sz116 (fun _ => rfl) rfl (by omega)) ?_
    refine RO (Body.loadA (ds := [pS (bsO (List.getD l k z3).1), pS (bsO (Prod.fst (Prod.snd (List.getD l k z3)))), pI (Prod.snd (Prod.snd (List.getD l k z3)))]) rfl ag116 sz116 (Nat.le_of_ble_eq_true rfl) rfl) ?_
    refine rn rfl ?_
    refine rn rfl ?_
    refine RN ?_
    refine Ap rfl ?_
    refine NR ⟨[(0, vL eC l), (6, vI d), (8, .bref 9 0), (24, vL eC l), (25, vI l.length), (26, vI k)], [(9, .box 116 [vS (bsO (List.getD l k z3).1), vS (bsO (Prod.fst (Prod.snd (List.getD l k z3)))), vI (Prod.snd (Prod.snd (List.getD l k z3)))])]⟩ (sb rfl rfl rfl) rfl ?_
    refine RO (Body.fadB rfl fa116_0 rfl) ?_
    refine RO (Body.loadB rfl rfl rfl ag9 sz9 rfl) ?_
    refine RN ?_
    refine Ap rfl ?_
    refine NR ⟨[(0, vL eC l), (6, vI d), (24, vL eC l), (25, vI l.length), (26, vI k), (31, vS (bsO (List.getD l k z3).1))], []⟩ (sb rfl rfl rfl) rfl ?_
    refine RO (Body.seqB (a := (List.getD l k z3).1) (b := [114, 101, 112, 101, 97, 116]) rfl rfl) ?_
    refine ag rfl ?_
    refine RN ?_
    refine Ap rfl ?_
    refine TK.norm ⟨[(0, vL eC l), (6, vI d), (24, vL eC l), (25, vI l.length), (26, vI k), (31, vS (bsO (List.getD l k z3).1)), (32, vB (decide ((List.getD l k z3).1 = [114, 101, 112, 101, 97, 116])))], []⟩ (sb rfl rfl rfl) ?_
    refine TK.condP rfl (fun h5 => ?_) (fun h5 => ?_)
    ·
     refine At rfl ?_
     refine NR ⟨[(0, vL eC l), (6, vI d), (24, vL eC l), (25, vI l.length), (26, vI k)], []⟩ (sb rfl rfl rfl) rfl ?_
     refine mv rfl ?_
     refine RO (Body.eql rfl rfl) ?_
     refine RN ?_
     refine Ap rfl ?_
     refine TK.norm ⟨[(0, vL eC l), (6, vI d), (24, vL eC l), (25, vI l.length), (26, vI k), (35, vB (decide ((d : Int) = 4)))], []⟩ (sb rfl rfl rfl) ?_
     refine TK.condP rfl (fun h6 => ?_) (fun h6 => ?_)
     ·
      refine At rfl ?_
      refine NR ⟨[], []⟩ (sb rfl rfl rfl) rfl ?_
      refine ag rfl ?_
      refine RN ?_
      refine Ap rfl ?_
      refine TK.ret ?_
      refine PK.ret ?_
      refine leaf (val0 := vI 22) (by kernel_rfl) ?_
      exact li (by (exact (chkS_dep h1 hb0 (hI1.2.2.trans ((dep_rep (by omega) (by assumption)).trans (if_pos (by omega)))) (by decide)).symm))
     ·
      refine At rfl ?_
      refine NR ⟨[(0, vL eC l), (6, vI d), (24, vL eC l), (25, vI l.length), (26, vI k)], []⟩ (sb rfl rfl rfl) rfl ?_
      refine mv rfl ?_
      refine RO (Body.add rfl rfl (by unfold R64; omega)) ?_
      refine ag rfl ?_
      refine RN ?_
      refine Ap rfl ?_
      refine NR ⟨[(0, vL eC l), (6, vI ((d : Int) + 1)), (24, vL eC l), (25, vI l.length), (26, vI k)], []⟩ (sb rfl rfl rfl) rfl ?_
      refine RO (Body.add rfl rfl (by unfold R64; omega)) ?_
      refine mv rfl ?_
      refine RN ?_
      refine Aq rfl ?_
      refine PK.lp ?_
      refine LP.mk ((k + 1), (d + 1)) ?_ ?_ (sb rfl rfl rfl)
      · show (k + 1) ≤ l.length ∧ (d + 1) ≤ 4 ∧ depC 0 l = depC (d + 1) (List.drop (k + 1) l)
        exact ⟨by omega, by omega, hI1.2.2.trans ((dep_rep (by omega) (by assumption)).trans (if_neg (by omega)))⟩
      · show l.length - (k + 1) < l.length - k
        omega
    ·
     refine At rfl ?_
     refine NR ⟨[(0, vL eC l), (6, vI d), (24, vL eC l), (25, vI l.length), (26, vI k), (31, vS (bsO (List.getD l k z3).1))], []⟩ (sb rfl rfl rfl) rfl ?_
     refine RO (Body.seqB (a := (List.getD l k z3).1) (b := [101, 110, 100]) rfl rfl) ?_
     refine ag rfl ?_
     refine RN ?_
     refine Ap rfl ?_
     refine TK.norm ⟨[(0, vL eC l), (6, vI d), (24, vL eC l), (25, vI l.length), (26, vI k), (38, vB (decide ((List.getD l k z3).1 = [101, 110, 100])))], []⟩ (sb rfl rfl rfl) ?_
     refine TK.condP rfl (fun h7 => ?_) (fun h7 => ?_)
     ·
      refine At rfl ?_
      refine NR ⟨[(0, vL eC l), (6, vI d), (24, vL eC l), (25, vI l.length), (26, vI k)], []⟩ (sb rfl rfl rfl) rfl ?_
      refine mv rfl ?_
      refine RO (Body.eql rfl rfl) ?_
      refine RN ?_
      refine Ap rfl ?_
      refine TK.norm ⟨[(0, vL eC l), (6, vI d), (24, vL eC l), (25, vI l.length), (26, vI k), (41, vB (decide ((d : Int) = 0)))], []⟩ (sb rfl rfl rfl) ?_
      refine TK.condP rfl (fun h8 => ?_) (fun h8 => ?_)
      ·
       refine At rfl ?_
       refine NR ⟨[], []⟩ (sb rfl rfl rfl) rfl ?_
       refine ag rfl ?_
       refine RN ?_
       refine Ap rfl ?_
       refine TK.ret ?_
       refine PK.ret ?_
       refine leaf (val0 := vI 2) (by kernel_rfl) ?_
       exact li (by (exact (chkS_dep h1 hb0 (hI1.2.2.trans ((dep_end (by omega) (by assumption)).trans (if_pos (by omega)))) (by decide)).symm))
      ·
       refine At rfl ?_
       refine NR ⟨[(0, vL eC l), (6, vI d), (24, vL eC l), (25, vI l.length), (26, vI k)], []⟩ (sb rfl rfl rfl) rfl ?_
       refine mv rfl ?_
       refine RO (Body.sub rfl rfl (by unfold R64; omega)) ?_
       refine ag rfl ?_
       refine RN ?_
       refine Ap rfl ?_
       refine TK.norm ⟨[(0, vL eC l), (6, vI ((d : Int) - 1)), (24, vL eC l), (25, vI l.length), (26, vI k)], []⟩ (sb rfl rfl rfl) ?_
       rw [show (d : Int) - 1 = (((d - 1) : Nat) : Int) by omega]
       refine TK.rg (Y := tab) mixed rfl ?_
       refine RO (Body.add rfl rfl (by unfold R64; omega)) ?_
       refine mv rfl ?_
       refine RN ?_
       refine Aq rfl ?_
       refine PK.lp ?_
       refine LP.mk ((k + 1), (d - 1)) ?_ ?_ (sb rfl rfl rfl)
       · show (k + 1) ≤ l.length ∧ (d - 1) ≤ 4 ∧ depC 0 l = depC (d - 1) (List.drop (k + 1) l)
         exact ⟨by omega, by omega, hI1.2.2.trans ((dep_end (by omega) (by assumption)).trans (if_neg (by omega)))⟩
       · show l.length - (k + 1) < l.length - k
         omega
     ·
      refine At rfl ?_
      refine NR ⟨[(0, vL eC l), (6, vI d), (24, vL eC l), (25, vI l.length), (26, vI k)], []⟩ (sb rfl rfl rfl) rfl ?_
      refine RO (Body.add rfl rfl (by unfold R64; omega)) ?_
      refine mv rfl ?_
      refine RN ?_
      refine Aq rfl ?_
      refine PK.lp ?_
      refine LP.mk ((k + 1), d) ?_ ?_ (sb rfl rfl rfl)
      · show (k + 1) ≤ l.length ∧ d ≤ 4 ∧ depC 0 l = depC d (List.drop (k + 1) l)
        exact ⟨by omega, by omega, hI1.2.2.trans (dep_one (by omega) (by assumption) (by assumption))⟩
      · show l.length - (k + 1) < l.length - k
        omega
   ·
    refine At rfl ?_
    refine TK.exit ?_
    refine PK.exit rfl ?_
    refine Ap rfl ?_
    refine TK.norm ⟨[(0, vL eC l), (6, vI d)], []⟩ (sb rfl rfl rfl) ?_
    have hd0 : depC 0 l = if 0 < d then 2 else 0 := hI1.2.2.trans (dep_nil (by omega))
    refine TK.rg (Y := tab) mixed rfl ?_
    refine mv rfl ?_
    refine RO (Body.gtr rfl rfl) ?_
    refine RN ?_
    refine Ap rfl ?_
    refine TK.norm ⟨[(0, vL eC l), (46, vB (decide (0 < (d : Int))))], []⟩ (sb rfl rfl rfl) ?_
    refine TK.condP rfl (fun h9 => ?_) (fun h9 => ?_)
    ·
     refine At rfl ?_
     refine NR ⟨[], []⟩ (sb rfl rfl rfl) rfl ?_
     refine ag rfl ?_
     refine RN ?_
     refine Ap rfl ?_
     refine TK.ret ?_
     refine PK.ret ?_
     refine leaf (val0 := vI 2) (by kernel_rfl) ?_
     exact li (by (exact (chkS_dep h1 hb0 (hd0.trans (if_pos (by omega))) (by decide)).symm))
    ·
     refine At rfl ?_
     refine TK.norm ⟨[(0, vL eC l)], []⟩ (sb rfl rfl rfl) ?_
     have hd : depC 0 l = 0 := hd0.trans (if_neg (by omega))
     refine TK.rg (Y := tab) mixed rfl ?_
     refine mv rfl ?_
     refine RO (Body.call (w137 l hc (by omega) hd) rfl rfl rfl) ?_
     refine RO (Body.gtr rfl rfl) ?_
     refine RO (Body.call (w101 (decide (10000 < (lenP l))) 22) rfl rfl rfl) ?_
     refine ag rfl ?_
     refine RN ?_
     refine Ap rfl ?_
     refine TK.ret ?_
     refine PK.ret ?_
     refine leaf (val0 := vI (whenF (decide (10000 < (lenP l))) 22)) (by kernel_rfl) ?_
     exact li (by (exact (chkS_len h1 hb0 hd).symm))
set_option maxHeartbeats 4000000 in
theorem w56 (l : List Cmd) (hl : l.length ≤ 1000000000000000) : CallOk Tryz.prog 56 [vL eC l] (lookM []) (vI (chkS l)) [] := by
 haveI := tab_ok
 obtain ⟨fn, f1, f2, f3, f4, _, f6⟩ := qf56
 refine callOk_of (Y := tab) (F := fn56) f1 (f2.trans rfl) f3 f4 f6 (Nat.le_of_ble_eq_true rfl) rfl ?_
 clear f1 f2 f3 f4 f6
 show TK _ _ _ _ _ _ ⟨[(0, vL eC l)], []⟩
 refine At rfl ?_
 refine NR ⟨[(0, vL eC l)], []⟩ (sb rfl rfl rfl) rfl ?_
 refine ag rfl ?_
 refine RN ?_
 refine Ap rfl ?_
 refine NR ⟨[(0, vL eC l)], []⟩ (sb rfl rfl rfl) rfl ?_
 refine mv rfl ?_
 refine RO (Body.lenL rfl un83) ?_
 refine RO (Body.gtr rfl rfl) ?_
 refine RN ?_
 refine Ap rfl ?_
 refine TK.norm ⟨[(0, vL eC l), (9, vB (decide (64 < (l.length : Int))))], []⟩ (sb rfl rfl rfl) ?_
 refine TK.condP rfl (fun h1 => ?_) (fun h1 => ?_)
 ·
  refine At rfl ?_
  refine NR ⟨[], []⟩ (sb rfl rfl rfl) rfl ?_
  refine ag rfl ?_
  refine RN ?_
  refine Ap rfl ?_
  refine TK.ret ?_
  refine PK.ret ?_
  refine leaf (val0 := vI 5) (by kernel_rfl) ?_
  exact li (by (exact (chkS_many h1).symm))
 ·
  refine At rfl ?_
  refine NR ⟨[(0, vL eC l)], []⟩ (sb rfl rfl rfl) rfl ?_
  refine ag rfl ?_
  refine RN ?_
  refine Ap rfl ?_
  refine TK.loop (α := Nat) (fun x => ⟨[(0, vL eC l), (3, vI x)], []⟩) (fun x => x ≤ l.length ∧ badC l = badC (List.drop x l)) (fun x => l.length - x) 0 ?_ (sb rfl rfl rfl) ?_
  · show 0 ≤ l.length ∧ badC l = badC (List.drop 0 l)
    exact ⟨Nat.zero_le _, rfl⟩
  rintro k hI0
  replace hI0 : k ≤ l.length ∧ badC l = badC (List.drop k l) := hI0
  show TK _ _ _ _ _ _ ⟨[(0, vL eC l), (3, vI k)], []⟩
  refine At rfl ?_
  refine NR ⟨[(0, vL eC l), (3, vI k)], []⟩ (sb rfl rfl rfl) rfl ?_
  refine mv rfl ?_
  refine mv rfl ?_
  refine RO (Body.lenL rfl un83) ?_
  refine RO (Body.lss rfl rfl) ?_
  refine RN ?_
  refine Ap rfl ?_
  refine TK.norm ⟨[(0, vL eC l), (3, vI k), (13, vB (decide ((k : Int) < (l.length : Int))))], []⟩ (sb rfl rfl rfl) ?_
  refine TK.condP rfl (fun h2 => ?_) (fun h2 => ?_)
  ·
   refine At rfl ?_
   refine NR ⟨[(0, vL eC l), (3, vI k)], []⟩ (sb rfl rfl rfl) rfl ?_
   refine mv rfl ?_
   refine mv rfl ?_
   refine RO (Body.idx (z := z3) (i := k) rfl rfl un83 sz115 (fun _ => rfl) rfl (by omega)) ?_
   refine RO (Body.loadA (ds := [pS (bsO (List.getD l k z3).1), pS (bsO (Prod.fst (Prod.snd (List.getD l k z3)))), pI (Prod.snd (Prod.snd (List.getD l k z3)))]) rfl ag115 sz115 (Nat.le_of_ble_eq_true rfl) rfl) ?_
   refine RO (Body.call (w130 (List.getD l k z3)) rfl rfl rfl) ?_
   refine ag rfl ?_
   refine RN ?_
   refine Ap rfl ?_
   refine NR ⟨[(0, vL eC l), (3, vI k), (4, vI (chkC (List.getD l k z3)))], []⟩ (sb rfl rfl rfl) rfl ?_
   refine mv rfl ?_
   refine RO (Body.neq rfl rfl) ?_
   refine RN ?_
   refine Ap rfl ?_
   refine TK.norm ⟨[(0, vL eC l), (3, vI k), (4, vI (chkC (List.getD l k z3))), (22, vB (decide ((chkC (List.getD l k z3)) ≠ 0)))], []⟩ (sb rfl rfl rfl) ?_
   refine TK.condP rfl (fun h3 => ?_) (fun h3 => ?_)
   ·
    refine At rfl ?_
    refine NR ⟨[(4, vI (chkC (List.getD l k z3)))], []⟩ (sb rfl rfl rfl) rfl ?_
    refine mv rfl ?_
    refine ag rfl ?_
    refine RN ?_
    refine Ap rfl ?_
    refine TK.ret ?_
    refine PK.ret ?_
    refine leaf (val0 := vI (chkC (List.getD l k z3))) (by kernel_rfl) ?_
    exact li (by (exact (chkS_bad h1 (hI0.2.trans (badC_no (by omega) h3)) h3).symm))
   ·
    refine At rfl ?_
    refine NR ⟨[(0, vL eC l), (3, vI k)], []⟩ (sb rfl rfl rfl) rfl ?_
    refine mv rfl ?_
    refine RO (Body.add rfl rfl (by unfold R64; omega)) ?_
    refine ag rfl ?_
    refine RN ?_
    refine Aq rfl ?_
    refine PK.lp ?_
    refine LP.mk (k + 1) ?_ ?_ (sb rfl rfl rfl)
    · show (k + 1) ≤ l.length ∧ badC l = badC (List.drop (k + 1) l)
      exact ⟨by omega, hI0.2.trans (badC_ok (by omega) (Decidable.not_not.1 h3))⟩
    · show l.length - (k + 1) < l.length - k
      omega
  ·
   refine At rfl ?_
   refine TK.exit ?_
   refine PK.exit rfl ?_
   refine Ap rfl ?_
   refine TK.norm ⟨[(0, vL eC l)], []⟩ (sb rfl rfl rfl) ?_
   have hb0 : badC l = 0 := hI0.2.trans (bad_end (by omega))
   have hc := badC_all hb0
   refine TK.rg (Y := tab) mixed rfl ?_
   refine ag rfl ?_
   refine RN ?_
   refine Ap rfl ?_
   refine NR ⟨[(0, vL eC l), (5, vI 0)], []⟩ (sb rfl rfl rfl) rfl ?_
   refine ag rfl ?_
   refine RN ?_
   refine Ap rfl ?_
   refine TK.loop (α := Nat × Nat) (fun x => ⟨[(0, vL eC l), (5, vI ((x.2 : Nat) : Int)), (6, vI ((x.1 : Nat) : Int))], []⟩) (fun x => x.1 ≤ l.length ∧ x.2 ≤ 4 ∧ depC 0 l = depC x.2 (List.drop x.1 l)) (fun x => l.length - x.1) (0, 0) ?_ (sb rfl rfl rfl) ?_
   · show 0 ≤ l.length ∧ 0 ≤ 4 ∧ depC 0 l = depC 0 (List.drop 0 l)
     exact ⟨Nat.zero_le _, by omega, rfl⟩
   rintro ⟨k, d⟩ hI1
   replace hI1 : k ≤ l.length ∧ d ≤ 4 ∧ depC 0 l = depC d (List.drop k l) := hI1
   show TK _ _ _ _ _ _ ⟨[(0, vL eC l), (5, vI d), (6, vI k)], []⟩
   refine At rfl ?_
   refine NR ⟨[(0, vL eC l), (5, vI d), (6, vI k)], []⟩ (sb rfl rfl rfl) rfl ?_
   refine mv rfl ?_
   refine mv rfl ?_
   refine RO (Body.lenL rfl un83) ?_
   refine RO (Body.lss rfl rfl) ?_
   refine RN ?_
   refine Ap rfl ?_
   refine TK.norm ⟨[(0, vL eC l), (5, vI d), (6, vI k), (27, vB (decide ((k : Int) < (l.length : Int))))], []⟩ (sb rfl rfl rfl) ?_
   refine TK.condP rfl (fun h4 => ?_) (fun h4 => ?_)
   ·
    refine At rfl ?_
    refine NR ⟨[(0, vL eC l), (5, vI d), (6, vI k)], []⟩ (sb rfl rfl rfl) rfl ?_
    refine mv rfl ?_
    refine mv rfl ?_
    refine RO (Body.idx (z := z3) (i := k) rfl rfl un83 sz115 (fun _ => rfl) rfl (by omega)) ?_
    refine RO (Body.fadP rfl fa115_0 rfl) ?_
    refine RO (Body.loadP rfl ag9 sz9) ?_
    refine RO (Body.seqB (a := (List.getD l k z3).1) (b := [101, 110, 100]) rfl rfl) ?_
    refine RN ?_
    refine Ap rfl ?_
    refine TK.norm ⟨[(0, vL eC l), (5, vI d), (6, vI k), (35, vB (decide ((List.getD l k z3).1 = [101, 110, 100])))], []⟩ (sb rfl rfl rfl) ?_
    refine TK.condP rfl (fun h5 => ?_) (fun h5 => ?_)
    ·
     refine At rfl ?_
     refine NR ⟨[(0, vL eC l), (5, vI d), (6, vI k)], []⟩ (sb rfl rfl rfl) rfl ?_
     refine mv rfl ?_
     refine RO (Body.eql rfl rfl) ?_
     refine RN ?_
     refine Ap rfl ?_
     refine TK.norm ⟨[(0, vL eC l), (5, vI d), (6, vI k), (37, vB (decide ((d : Int) = 0)))], []⟩ (sb rfl rfl rfl) ?_
     refine TK.condP rfl (fun h6 => ?_) (fun h6 => ?_)
     ·
      refine At rfl ?_
      refine NR ⟨[], []⟩ (sb rfl rfl rfl) rfl ?_
      refine ag rfl ?_
      refine RN ?_
      refine Ap rfl ?_
      refine TK.ret ?_
      refine PK.ret ?_
      refine leaf (val0 := vI 2) (by kernel_rfl) ?_
      exact li (by (exact (chkS_dep h1 hb0 (hI1.2.2.trans ((dep_end (by omega) (by assumption)).trans (if_pos (by omega)))) (by decide)).symm))
     ·
      refine At rfl ?_
      refine NR ⟨[(0, vL eC l), (5, vI d), (6, vI k)], []⟩ (sb rfl rfl rfl) rfl ?_
      refine mv rfl ?_
      refine RO (Body.sub rfl rfl (by unfold R64; omega)) ?_
      refine ag rfl ?_
      refine RN ?_
      refine Ap rfl ?_
      refine TK.norm ⟨[(0, vL eC l), (5, vI ((d : Int) - 1)), (6, vI k)], []⟩ (sb rfl rfl rfl) ?_
      rw [show (d : Int) - 1 = (((d - 1) : Nat) : Int) by omega]
      refine TK.rg (Y := tab) mixed rfl ?_
      refine mv rfl ?_
      refine mv rfl ?_
      refine RO (Body.idx (z := z3) (i := k) rfl rfl un83 sz115 (fun _ => rfl) rfl (by omega)) ?_
      refine RO (Body.fadP rfl fa115_0 rfl) ?_
      refine RO (Body.loadP rfl ag9 sz9) ?_
      refine RO (Body.seqB (a := (List.getD l k z3).1) (b := [114, 101, 112, 101, 97, 116]) rfl rfl) ?_
      refine RN ?_
      refine Ap rfl ?_
      refine TK.norm ⟨[(0, vL eC l), (5, vI (((d - 1) : Nat) : Int)), (6, vI k), (45, vB (decide ((List.getD l k z3).1 = [114, 101, 112, 101, 97, 116])))], []⟩ (sb rfl rfl rfl) ?_
      refine TK.condP rfl (fun h7 => ?_) (fun h7 => ?_)
      ·
       refine At rfl ?_
       refine NR ⟨[(0, vL eC l), (5, vI (((d - 1) : Nat) : Int)), (6, vI k)], []⟩ (sb rfl rfl rfl) rfl ?_
       refine mv rfl ?_
       refine RO (Body.eql rfl rfl) ?_
       refine RN ?_
       refine Ap rfl ?_
       refine TK.norm ⟨[(0, vL eC l), (5, vI (((d - 1) : Nat) : Int)), (6, vI k), (47, vB (decide ((((d - 1) : Nat) : Int) = 4)))], []⟩ (sb rfl rfl rfl) ?_
       refine TK.condP rfl (fun h8 => ?_) (fun h8 => ?_)
       ·
        refine At rfl ?_
        refine NR ⟨[], []⟩ (sb rfl rfl rfl) rfl ?_
        refine ag rfl ?_
        refine RN ?_
        refine Ap rfl ?_
        refine TK.ret ?_
        refine PK.ret ?_
        refine leaf (val0 := vI 22) (by kernel_rfl) ?_
        exact li (by (exact (chkS_dep h1 hb0 (hI1.2.2.trans ((dep_rep (by omega) (by assumption)).trans (if_pos (by omega)))) (by decide)).symm))
       ·
        refine At rfl ?_
        refine NR ⟨[(0, vL eC l), (5, vI (((d - 1) : Nat) : Int)), (6, vI k)], []⟩ (sb rfl rfl rfl) rfl ?_
        refine mv rfl ?_
        refine RO (Body.add rfl rfl (by unfold R64; omega)) ?_
        refine ag rfl ?_
        refine RN ?_
        refine Ap rfl ?_
        refine NR ⟨[(0, vL eC l), (5, vI ((((d - 1) : Nat) : Int) + 1)), (6, vI k)], []⟩ (sb rfl rfl rfl) rfl ?_
        refine mv rfl ?_
        refine RO (Body.add rfl rfl (by unfold R64; omega)) ?_
        refine ag rfl ?_
        refine RN ?_
        refine Aq rfl ?_
        refine PK.lp ?_
        refine LP.mk ((k + 1), ((d - 1) + 1)) ?_ ?_ (sb rfl rfl rfl)
        · show (k + 1) ≤ l.length ∧ ((d - 1) + 1) ≤ 4 ∧ depC 0 l = depC ((d - 1) + 1) (List.drop (k + 1) l)
          exact absurd (Eq.trans (Eq.symm (by assumption)) (by assumption)) rep_end
        · show l.length - (k + 1) < l.length - k
          omega
      ·
       refine At rfl ?_
       refine NR ⟨[(0, vL eC l), (5, vI (((d - 1) : Nat) : Int)), (6, vI k)], []⟩ (sb rfl rfl rfl) rfl ?_
       refine mv rfl ?_
       refine RO (Body.add rfl rfl (by unfold R64; omega)) ?_
       refine ag rfl ?_
       refine RN ?_
       refine Aq rfl ?_
       refine PK.lp ?_
       refine LP.mk ((k + 1), (d - 1)) ?_ ?_ (sb rfl rfl rfl)
       · show (k + 1) ≤ l.length ∧ (d - 1) ≤ 4 ∧ depC 0 l = depC (d - 1) (List.drop (k + 1) l)
         exact ⟨by omega, by omega, hI1.2.2.trans ((dep_end (by omega) (by assumption)).trans (if_neg (by omega)))⟩
       · show l.length - (k + 1) < l.length - k
         omega
    ·
     refine At rfl ?_
     refine NR ⟨[(0, vL eC l), (5, vI d), (6, vI k)], []⟩ (sb rfl rfl rfl) rfl ?_
     refine mv rfl ?_
     refine mv rfl ?_
     refine RO (Body.idx (z := z3) (i := k) rfl rfl un83 sz115 (fun _ => rfl) rfl (by omega)) ?_
     refine RO (Body.fadP rfl fa115_0 rfl) ?_
     refine RO (Body.loadP rfl ag9 sz9) ?_
     refine RO (Body.seqB (a := (List.getD l k z3).1) (b := [114, 101, 112, 101, 97, 116]) rfl rfl) ?_
     refine RN ?_
     refine Ap rfl ?_
     refine TK.norm ⟨[(0, vL eC l), (5, vI d), (6, vI k), (45, vB (decide ((List.getD l k z3).1 = [114, 101, 112, 101, 97, 116])))], []⟩ (sb rfl rfl rfl) ?_
     refine TK.condP rfl (fun h9 => ?_) (fun h9 => ?_)
     ·
      refine At rfl ?_
      refine NR ⟨[(0, vL eC l), (5, vI d), (6, vI k)], []⟩ (sb rfl rfl rfl) rfl ?_
      refine mv rfl ?_
      refine RO (Body.eql rfl rfl) ?_
      refine RN ?_
      refine Ap rfl ?_
      refine TK.norm ⟨[(0, vL eC l), (5, vI d), (6, vI k), (47, vB (decide ((d : Int) = 4)))], []⟩ (sb rfl rfl rfl) ?_
      refine TK.condP rfl (fun h10 => ?_) (fun h10 => ?_)
      ·
       refine At rfl ?_
       refine NR ⟨[], []⟩ (sb rfl rfl rfl) rfl ?_
       refine ag rfl ?_
       refine RN ?_
       refine Ap rfl ?_
       refine TK.ret ?_
       refine PK.ret ?_
       refine leaf (val0 := vI 22) (by kernel_rfl) ?_
       exact li (by (exact (chkS_dep h1 hb0 (hI1.2.2.trans ((dep_rep (by omega) (by assumption)).trans (if_pos (by omega)))) (by decide)).symm))
      ·
       refine At rfl ?_
       refine NR ⟨[(0, vL eC l), (5, vI d), (6, vI k)], []⟩ (sb rfl rfl rfl) rfl ?_
       refine mv rfl ?_
       refine RO (Body.add rfl rfl (by unfold R64; omega)) ?_
       refine ag rfl ?_
       refine RN ?_
       refine Ap rfl ?_
       refine NR ⟨[(0, vL eC l), (5, vI ((d : Int) + 1)), (6, vI k)], []⟩ (sb rfl rfl rfl) rfl ?_
       refine mv rfl ?_
       refine RO (Body.add rfl rfl (by unfold R64; omega)) ?_
       refine ag rfl ?_
       refine RN ?_
       refine Aq rfl ?_
       refine PK.lp ?_
       refine LP.mk ((k + 1), (d + 1)) ?_ ?_ (sb rfl rfl rfl)
       · show (k + 1) ≤ l.length ∧ (d + 1) ≤ 4 ∧ depC 0 l = depC (d + 1) (List.drop (k + 1) l)
         exact ⟨by omega, by omega, hI1.2.2.trans ((dep_rep (by omega) (by assumption)).trans (if_neg (by omega)))⟩
       · show l.length - (k + 1) < l.length - k
         omega
     ·
      refine At rfl ?_
      refine NR ⟨[(0, vL eC l), (5, vI d), (6, vI k)], []⟩ (sb rfl rfl rfl) rfl ?_
      refine mv rfl ?_
      refine RO (Body.add rfl rfl (by unfold R64; omega)) ?_
      refine ag rfl ?_
      refine RN ?_
      refine Aq rfl ?_
      refine PK.lp ?_
      refine LP.mk ((k + 1), d) ?_ ?_ (sb rfl rfl rfl)
      · show (k + 1) ≤ l.length ∧ d ≤ 4 ∧ depC 0 l = depC d (List.drop (k + 1) l)
        exact ⟨by omega, by omega, hI1.2.2.trans (dep_one (by omega) (by assumption) (by assumption))⟩
      · show l.length - (k + 1) < l.length - k
        omega
   ·
    refine At rfl ?_
    refine TK.exit ?_
    refine PK.exit rfl ?_
    refine Ap rfl ?_
    refine TK.norm ⟨[(0, vL eC l), (5, vI d)], []⟩ (sb rfl rfl rfl) ?_
    have hd0 : depC 0 l = if 0 < d then 2 else 0 := hI1.2.2.trans (dep_nil (by omega))
    refine TK.rg (Y := tab) mixed rfl ?_
    refine mv rfl ?_
    refine RO (Body.gtr rfl rfl) ?_
    refine RN ?_
    refine Ap rfl ?_
    refine TK.norm ⟨[(0, vL eC l), (51, vB (decide (0 < (d : Int))))], []⟩ (sb rfl rfl rfl) ?_
    refine TK.condP rfl (fun h11 => ?_) (fun h11 => ?_)
    ·
     refine At rfl ?_
     refine NR ⟨[], []⟩ (sb rfl rfl rfl) rfl ?_
     refine ag rfl ?_
     refine RN ?_
     refine Ap rfl ?_
     refine TK.ret ?_
     refine PK.ret ?_
     refine leaf (val0 := vI 2) (by kernel_rfl) ?_
     exact li (by (exact (chkS_dep h1 hb0 (hd0.trans (if_pos (by omega))) (by decide)).symm))
    ·
     refine At rfl ?_
     refine TK.norm ⟨[(0, vL eC l)], []⟩ (sb rfl rfl rfl) ?_
     have hd : depC 0 l = 0 := hd0.trans (if_neg (by omega))
     refine TK.rg (Y := tab) mixed rfl ?_
     refine mv rfl ?_
     refine RO (Body.call (w61s (by omega) hc hd) rfl rfl rfl) ?_
     refine RO (Body.gtr rfl rfl) ?_
     refine RN ?_
     refine Ap rfl ?_
     refine TK.norm ⟨[(54, vB (decide (10000 < (lenP l))))], []⟩ (sb rfl rfl rfl) ?_
     refine TK.condP rfl (fun h12 => ?_) (fun h12 => ?_)
     ·
      refine At rfl ?_
      refine NR ⟨[], []⟩ (sb rfl rfl rfl) rfl ?_
      refine ag rfl ?_
      refine RN ?_
      refine Ap rfl ?_
      refine TK.ret ?_
      refine PK.ret ?_
      refine leaf (val0 := vI 22) (by kernel_rfl) ?_
      exact li (by (rw [chkS_len h1 hb0 hd, whenF, decide_eq_true (by assumption)]; rfl))
     ·
      refine At rfl ?_
      refine NR ⟨[], []⟩ (sb rfl rfl rfl) rfl ?_
      refine ag rfl ?_
      refine RN ?_
      refine Ap rfl ?_
      refine TK.ret ?_
      refine PK.ret ?_
      refine leaf (val0 := vI 0) (by kernel_rfl) ?_
      exact li (by (rw [chkS_len h1 hb0 hd, whenF, decide_eq_false (by assumption)]; rfl))
set_option maxHeartbeats 4000000 in
theorem w47 (l : List Cmd) (n : Int) (hl : l.length ≤ 1000000000000000) : CallOk Tryz.prog 47 [vL eC l, vI n] (lookM []) (vB (shortS l n)) [] := by
 haveI := tab_ok
 obtain ⟨fn, f1, f2, f3, f4, _, f6⟩ := qf47
 refine callOk_of (Y := tab) (F := fn47) f1 (f2.trans rfl) f3 f4 f6 (Nat.le_of_ble_eq_true rfl) rfl ?_
 clear f1 f2 f3 f4 f6
 show TK _ _ _ _ _ _ ⟨[(0, vL eC l), (1, vI n)], []⟩
 refine At rfl ?_
 refine NR ⟨[(0, vL eC l), (1, vI n)], []⟩ (sb rfl rfl rfl) rfl ?_
 refine ag rfl ?_
 refine RN ?_
 refine Ap rfl ?_
 refine NR ⟨[(0, vL eC l), (1, vI n)], []⟩ (sb rfl rfl rfl) rfl ?_
 refine mv rfl ?_
 refine RO (Body.lenL rfl un83) ?_
 refine mv rfl ?_
 refine RO (Body.gtr rfl rfl) ?_
 refine mv rfl ?_
 refine RG.cons (EfR.sym rfl (fun hc => Body.move rfl) rfl) ?_
 refine RG.cons (EfR.sym rfl (fun hc => Body.lenL (ev1_gd rfl hc) un83) rfl) ?_
 refine RG.cons (EfR.sym rfl (fun hc => Body.leq (ev1_gd rfl hc) rfl) rfl) ?_
 refine RO (Body.pick rfl rfl rfl (gdB rfl) rfl (pick_and _)) ?_
 refine mv rfl ?_
 refine RG.cons (EfR.sym rfl (fun hc => Body.move rfl) rfl) ?_
 refine RG.cons (EfR.sym rfl (fun hc => Body.lenL (ev1_gd rfl hc) un83) rfl) ?_
 refine RG.cons (EfR.sym rfl (fun hc => Body.gtr (ev1_gd rfl hc) rfl) rfl) ?_
 refine RO (Body.pick rfl rfl rfl rfl (gdB rfl) (pick_or _)) ?_
 refine RN ?_
 refine Ap rfl ?_
 refine TK.norm ⟨[(0, vL eC l), (19, vB (bif (bif (decide (n < (l.length : Int))) then (decide ((l.length : Int) ≤ 64)) else false) then true else (decide (66 < (l.length : Int)))))], []⟩ (sb rfl rfl rfl) ?_
 refine TK.cond rfl (fun h1 => ?_) (fun h1 => ?_)
 ·
  refine At rfl ?_
  refine NR ⟨[], []⟩ (sb rfl rfl rfl) rfl ?_
  refine ag rfl ?_
  refine RN ?_
  refine Ap rfl ?_
  refine TK.ret ?_
  refine PK.ret ?_
  refine leaf (val0 := vB false) (by kernel_rfl) ?_
  exact lb (by exact (ss_many h1).symm)
 ·
  refine At rfl ?_
  refine NR ⟨[(0, vL eC l)], []⟩ (sb rfl rfl rfl) rfl ?_
  refine ag rfl ?_
  refine RN ?_
  refine Ap rfl ?_
  refine TK.loop (α := Nat) (fun x => ⟨[(0, vL eC l), (5, vI x)], []⟩) (fun x => x ≤ l.length ∧ ∀ j, j < x → (decide (List.length (List.getD l j z3).1 ≤ 40) && decide (List.length (List.getD l j z3).2.1 ≤ 40)) = true) (fun x => l.length - x) 0 ?_ (sb rfl rfl rfl) ?_
  · show 0 ≤ l.length ∧ ∀ j, j < 0 → (decide (List.length (List.getD l j z3).1 ≤ 40) && decide (List.length (List.getD l j z3).2.1 ≤ 40)) = true
    exact ⟨Nat.zero_le _, fun j hj => by omega⟩
  rintro k hI0
  replace hI0 : k ≤ l.length ∧ ∀ j, j < k → (decide (List.length (List.getD l j z3).1 ≤ 40) && decide (List.length (List.getD l j z3).2.1 ≤ 40)) = true := hI0
  show TK _ _ _ _ _ _ ⟨[(0, vL eC l), (5, vI k)], []⟩
  refine At rfl ?_
  refine NR ⟨[(0, vL eC l), (5, vI k)], []⟩ (sb rfl rfl rfl) rfl ?_
  refine mv rfl ?_
  refine mv rfl ?_
  refine RO (Body.lenL rfl un83) ?_
  refine RO (Body.lss rfl rfl) ?_
  refine RN ?_
  refine Ap rfl ?_
  refine TK.norm ⟨[(0, vL eC l), (5, vI k), (23, vB (decide ((k : Int) < (l.length : Int))))], []⟩ (sb rfl rfl rfl) ?_
  refine TK.condP rfl (fun h2 => ?_) (fun h2 => ?_)
  ·
   refine At rfl ?_
   refine NR ⟨[(0, vL eC l), (5, vI k)], []⟩ (sb rfl rfl rfl) rfl ?_
   refine mv rfl ?_
   refine mv rfl ?_
   refine RO (Body.idx (z := z3) (i := k) rfl rfl un83 sz115 (fun _ => rfl) rfl (by omega)) ?_
   refine RO (Body.fadP rfl fa115_0 rfl) ?_
   refine RO (Body.loadP rfl ag9 sz9) ?_
   refine RO (Body.lenB (a := (List.getD l k z3).1) rfl un9) ?_
   refine RO (Body.gtr rfl rfl) ?_
   refine mv rfl ?_
   refine RG.cons (EfR.sym rfl (fun hc => Body.move rfl) rfl) ?_
   refine RG.cons (EfR.sym rfl (fun hc => Body.move rfl) rfl) ?_
   refine RG.cons (EfR.sym rfl (fun hc => Body.idx (z := z3) (i := k) (ev1_gd rfl hc) (ev1_gd rfl hc) un83 sz115 (fun _ => rfl) rfl (by omega)) rfl) ?_
   refine RG.cons (EfR.sym rfl (fun hc => Body.fadP (ev1_gd rfl hc) fa115_1 rfl) rfl) ?_
   refine RG.cons (EfR.sym rfl (fun hc => Body.loadP (ev1_gd rfl hc) ag9 sz9) rfl) ?_
   refine RG.cons (EfR.sym rfl (fun hc => Body.lenB (a := (Prod.fst (Prod.snd (List.getD l k z3)))) (ev1_gd rfl hc) un9) rfl) ?_
   refine RG.cons (EfR.sym rfl (fun hc => Body.gtr (ev1_gd rfl hc) rfl) rfl) ?_
   refine RO (Body.pick rfl rfl rfl rfl (gdB rfl) (pick_or _)) ?_
   refine RN ?_
   refine Ap rfl ?_
   refine TK.norm ⟨[(0, vL eC l), (5, vI k), (41, vB (bif (decide (40 < ((List.length (List.getD l k z3).1 : Nat) : Int))) then true else (decide (40 < ((List.length (Prod.fst (Prod.snd (List.getD l k z3))) : Nat) : Int)))))], []⟩ (sb rfl rfl rfl) ?_
   refine TK.cond rfl (fun h3 => ?_) (fun h3 => ?_)
   ·
    refine At rfl ?_
    refine NR ⟨[], []⟩ (sb rfl rfl rfl) rfl ?_
    refine ag rfl ?_
    refine RN ?_
    refine Ap rfl ?_
    refine TK.ret ?_
    refine PK.ret ?_
    refine leaf (val0 := vB false) (by kernel_rfl) ?_
    exact lb (by exact (ss_no h1 (by omega) h3).symm)
   ·
    refine At rfl ?_
    refine NR ⟨[(0, vL eC l), (5, vI k)], []⟩ (sb rfl rfl rfl) rfl ?_
    refine mv rfl ?_
    refine RO (Body.add rfl rfl (by unfold R64; omega)) ?_
    refine ag rfl ?_
    refine RN ?_
    refine Aq rfl ?_
    refine PK.lp ?_
    refine LP.mk (k + 1) ?_ ?_ (sb rfl rfl rfl)
    · show (k + 1) ≤ l.length ∧ ∀ j, j < (k + 1) → (decide (List.length (List.getD l j z3).1 ≤ 40) && decide (List.length (List.getD l j z3).2.1 ≤ 40)) = true
      refine ⟨by omega, fun j hj => ?_⟩; rcases Nat.lt_succ_iff_lt_or_eq.1 hj with h | h; exact hI0.2 j h; subst h; exact ss_q h3
    · show l.length - (k + 1) < l.length - k
      omega
  ·
   refine At rfl ?_
   refine TK.exit ?_
   refine PK.exit rfl ?_
   refine Ap rfl ?_
   refine NR ⟨[(0, vL eC l)], []⟩ (sb rfl rfl rfl) rfl ?_
   refine mv rfl ?_
   refine RO (Body.call (w56 l (by omega)) rfl rfl rfl) ?_
   refine RO (Body.neq rfl rfl) ?_
   refine mv rfl ?_
   refine RG.cons (EfR.sym rfl (fun hc => Body.move rfl) rfl) ?_
   refine RG.cons (EfR.sym rfl (fun hc => Body.call (w61k (eqf hc)) rfl (ds1 (ev1_gd rfl hc)) rfl) rfl) ?_
   refine RG.cons (EfR.sym rfl (fun hc => Body.leq (ev1_gd rfl hc) rfl) rfl) ?_
   refine RO (Body.pick rfl rfl rfl rfl (gdB rfl) (pick_or _)) ?_
   refine ag rfl ?_
   refine RN ?_
   refine Ap rfl ?_
   refine TK.ret ?_
   refine PK.ret ?_
   refine leaf (val0 := vB (bif (decide ((chkS l) ≠ 0)) then true else (decide ((lenP l) ≤ 400)))) (by kernel_rfl) ?_
   exact lb (by exact (ss_yes h1 fun j hj => hI0.2 j (by omega)).symm)
set_option maxHeartbeats 4000000 in
theorem w46 (l : List Cmd) (hl : l.length * 40 ≤ 140737488355328) : CallOk Tryz.prog 46 [vL eC l] (lookM []) (vL eC l) [] := by
 haveI := tab_ok
 obtain ⟨fn, f1, f2, f3, f4, _, f6⟩ := qf46
 refine callOk_of (Y := tab) (F := fn46) f1 (f2.trans rfl) f3 f4 f6 (Nat.le_of_ble_eq_true rfl) rfl ?_
 clear f1 f2 f3 f4 f6
 show TK _ _ _ _ _ _ ⟨[(0, vL eC l)], []⟩
 refine At rfl ?_
 refine NR ⟨[(0, vL eC l)], []⟩ (sb rfl rfl rfl) rfl ?_
 refine RO (Body.nilS (enc := eC) rfl) ?_
 refine RN ?_
 refine Ap rfl ?_
 refine NR ⟨[(0, vL eC l)], []⟩ (sb rfl rfl rfl) rfl ?_
 refine RO (Body.adopt 4 3 115 rfl rfl) ?_
 refine RN ?_
 refine Ap rfl ?_
 refine NR ⟨[(0, vL eC l), (3, .aref 4 0)], [(4, .arr 0 3 115 (List.map eC []))]⟩ (sb rfl rfl rfl) rfl ?_
 refine mv rfl ?_
 refine RO (Body.lenL rfl un82) ?_
 refine mv rfl ?_
 refine RN ?_
 refine Ap rfl ?_
 refine TK.loop (α := Nat × Nat × List Cmd) (fun x => ⟨[(3, .aref 4 x.2.1), (6, vL eC l), (7, vI l.length), (8, vI ((x.1 : Nat) : Int))], [(4, .arr x.2.1 3 115 (List.map eC x.2.2))]⟩) (fun x => x.1 ≤ l.length ∧ x.2.2 = List.take x.1 l) (fun x => l.length - x.1) (0, 0, []) ?_ (sb rfl rfl rfl) ?_
 · show 0 ≤ l.length ∧ [] = List.take 0 l
   exact ⟨Nat.zero_le _, rfl⟩
 rintro ⟨k, v, out⟩ hI0
 replace hI0 : k ≤ l.length ∧ out = List.take k l := hI0
 have hol : out.length ≤ k := by rw [hI0.2, List.length_take]; omega
 show TK _ _ _ _ _ _ ⟨[(3, .aref 4 v), (6, vL eC l), (7, vI l.length), (8, vI k)], [(4, .arr v 3 115 (List.map eC out))]⟩
 refine At rfl ?_
 refine NR ⟨[(3, .aref 4 v), (6, vL eC l), (7, vI l.length), (8, vI k)], [(4, .arr v 3 115 (List.map eC out))]⟩ (sb rfl rfl rfl) rfl ?_
 refine RO (Body.lss rfl rfl) ?_
 refine RN ?_
 refine Ap rfl ?_
 refine TK.norm ⟨[(3, .aref 4 v), (6, vL eC l), (7, vI l.length), (8, vI k), (9, vB (decide ((k : Int) < (l.length : Int))))], [(4, .arr v 3 115 (List.map eC out))]⟩ (sb rfl rfl rfl) ?_
 refine TK.condP rfl (fun h1 => ?_) (fun h1 => ?_)
 ·
  refine At rfl ?_
  refine NR ⟨[(3, .aref 4 v), (6, vL eC l), (7, vI l.length), (8, vI k)], [(4, .arr v 3 115 (List.map eC out))]⟩ (sb rfl rfl rfl) rfl ?_
  refine RO (Body.idx (z := z3) (i := k) rfl rfl un82 sz116 (fun _ => rfl) rfl (by omega)) ?_
  refine RO (Body.loadA (ds := [pS (bsO (List.getD l k z3).1), pS (bsO (Prod.fst (Prod.snd (List.getD l k z3)))), pI (Prod.snd (Prod.snd (List.getD l k z3)))]) rfl ag116 sz116 (Nat.le_of_ble_eq_true rfl) rfl) ?_
  refine rn rfl ?_
  refine rn rfl ?_
  refine RN ?_
  refine Ap rfl ?_
  refine NR ⟨[(3, .aref 4 v), (5, .bref 6 0), (6, vL eC l), (7, vI l.length), (8, vI k)], [(4, .arr v 3 115 (List.map eC out)), (6, .box 116 [vS (bsO (List.getD l k z3).1), vS (bsO (Prod.fst (Prod.snd (List.getD l k z3)))), vI (Prod.snd (Prod.snd (List.getD l k z3)))])]⟩ (sb rfl rfl rfl) rfl ?_
  refine rn rfl ?_
  refine RO (Body.loadBA rfl rfl rfl ag116 sz116 rfl rfl) ?_
  refine RO (Body.runZ (val := .pv (.slice (List.map eC [(List.getD l k z3)]))) rfl (fun l => Frz.arr l _ _ _ _ _) rfl) ?_
  refine RO (Body.append rfl rfl rfl un83 in115 rfl (fun _ => rfl) by115 (by (simp only [List.length_append, List.length_cons, List.length_nil, List.length_take]; omega))) ?_
  refine rn rfl ?_
  refine RN ?_
  refine Ap rfl ?_
  refine NR ⟨[(3, .aref 4 (v + 1)), (6, vL eC l), (7, vI l.length), (8, vI k)], [(4, .arr (v + 1) 3 115 (List.map eC (out ++ [(List.getD l k z3)])))]⟩ (sb rfl rfl rfl) rfl ?_
  refine RO (Body.add rfl rfl (by unfold R64; omega)) ?_
  refine mv rfl ?_
  refine RN ?_
  refine Aq rfl ?_
  refine PK.lp ?_
  refine LP.mk ((k + 1), (v + 1), (out ++ [(List.getD l k z3)])) ?_ ?_ (sb rfl rfl rfl)
  · show (k + 1) ≤ l.length ∧ (out ++ [(List.getD l k z3)]) = List.take (k + 1) l
    refine ⟨by omega, ?_⟩; rw [hI0.2]; exact (take_cmd l k (by omega)).symm
  · show l.length - (k + 1) < l.length - k
    omega
 ·
  refine At rfl ?_
  refine TK.exit ?_
  refine PK.exit rfl ?_
  refine Ap rfl ?_
  refine TK.norm ⟨[(3, .aref 4 v)], [(4, .arr v 3 115 (List.map eC out))]⟩ (sb rfl rfl rfl) ?_
  refine TK.frz (t := 3) rfl rfl ?_
  refine NR ⟨[(3, vL eC out)], []⟩ (sb rfl rfl rfl) rfl ?_
  refine mv rfl ?_
  refine ag rfl ?_
  refine RN ?_
  refine Ap rfl ?_
  refine TK.ret ?_
  refine PK.ret ?_
  refine leaf (val0 := vL eC out) (by kernel_rfl) ?_
  exact lsl (by rw [hI0.2, List.take_of_length_le (by omega)])
end Go.Lens.Tm
end
section
namespace Go.Lens.Tm
open Go.Lens.Tb Go.Proofs
set_option linter.unusedSectionVars false
theorem wrong_b (s : LSt) : (bif (bif (bif (decide (0 < (Prod.fst (Prod.snd s)))) then (decide ((Prod.fst s) ≠ [99, 108, 111, 115, 101, 100])) else false) then true else (bif (Prod.fst (Prod.snd (Prod.snd s))) then (decide ((Prod.fst s) = [99, 108, 111, 115, 101, 100])) else false)) then true else (bif (Prod.snd (Prod.snd (Prod.snd s))) then (bif (decide ((Prod.fst s) = [111, 112, 101, 110])) then true else (decide ((Prod.fst s) = [99, 108, 111, 115, 101, 100]))) else false)) = wrongB s := by
 simp only [bif_or, bif_and, wrongB]
theorem unk_b (s : LSt) : (bif (bif (bif (decide ((Prod.fst s) ≠ [105, 100, 108, 101])) then (decide ((Prod.fst s) ≠ [111, 112, 101, 110])) else false) then (decide ((Prod.fst s) ≠ [99, 108, 111, 115, 101, 100])) else false) then (decide ((Prod.fst s) ≠ [115, 97, 102, 101])) else false) = !(knownB s.1) := by
 simp only [bif_and, dne, knownB, Bool.not_or, Bool.and_assoc]
theorem out_b (s : LSt) : (bif (decide ((Prod.fst (Prod.snd s)) < 0)) then true else (decide (3 ≤ (Prod.fst (Prod.snd s))))) = outF s.2.1 0 2 := by
 simp only [bif_or, outF]
 congr 1
theorem st_one (s : LSt) : firstF [(whenF (!(List.any [[105, 100, 108, 101], [111, 112, 101, 110], [99, 108, 111, 115, 101, 100], [115, 97, 102, 101]] (fun y => decide ((Prod.fst s) = y)))) 13), (withinF (Prod.fst (Prod.snd s)) 0 2), (whenF (bif (bif (bif (decide (0 < (Prod.fst (Prod.snd s)))) then (decide ((Prod.fst s) ≠ [99, 108, 111, 115, 101, 100])) else false) then true else (bif (Prod.fst (Prod.snd (Prod.snd s))) then (decide ((Prod.fst s) = [99, 108, 111, 115, 101, 100])) else false)) then true else (bif (Prod.snd (Prod.snd (Prod.snd s))) then (bif (decide ((Prod.fst s) = [111, 112, 101, 110])) then true else (decide ((Prod.fst s) = [99, 108, 111, 115, 101, 100]))) else false)) 18)] = chkSt s := by
 rw [wrong_b]
 simp only [List.any_cons, List.any_nil, Bool.or_false]
 rfl
section
variable {s : LSt}
theorem first_w {b : Bool} {e : Int} {l : List Int} (he : e ≠ 0) : firstF (whenF b e :: l) = bif b then e else firstF l := by
 cases b
 ·rfl
 ·simp [whenF, firstF, he]
theorem st_two1 (h1 : (bif (bif (bif (decide ((Prod.fst s) ≠ [105, 100, 108, 101])) then (decide ((Prod.fst s) ≠ [111, 112, 101, 110])) else false) then (decide ((Prod.fst s) ≠ [99, 108, 111, 115, 101, 100])) else false) then (decide ((Prod.fst s) ≠ [115, 97, 102, 101])) else false) = true) : chkSt s = 13 := by
 rw [unk_b] at h1
 rw [chkSt, first_w (by decide), h1]; rfl
theorem st_two2 (h1 : (bif (bif (bif (decide ((Prod.fst s) ≠ [105, 100, 108, 101])) then (decide ((Prod.fst s) ≠ [111, 112, 101, 110])) else false) then (decide ((Prod.fst s) ≠ [99, 108, 111, 115, 101, 100])) else false) then (decide ((Prod.fst s) ≠ [115, 97, 102, 101])) else false) = false) (h2 : (bif (decide ((Prod.fst (Prod.snd s)) < 0)) then true else (decide (3 ≤ (Prod.fst (Prod.snd s))))) = true) : chkSt s = 3 := by
 rw [unk_b] at h1
 rw [out_b] at h2
 rw [chkSt, first_w (by decide), h1, cond_false, withinF, first_w (by decide), h2]; rfl
theorem st_two3 (h1 : (bif (bif (bif (decide ((Prod.fst s) ≠ [105, 100, 108, 101])) then (decide ((Prod.fst s) ≠ [111, 112, 101, 110])) else false) then (decide ((Prod.fst s) ≠ [99, 108, 111, 115, 101, 100])) else false) then (decide ((Prod.fst s) ≠ [115, 97, 102, 101])) else false) = false) (h2 : (bif (decide ((Prod.fst (Prod.snd s)) < 0)) then true else (decide (3 ≤ (Prod.fst (Prod.snd s))))) = false) (h3 : (bif (bif (bif (decide (0 < (Prod.fst (Prod.snd s)))) then (decide ((Prod.fst s) ≠ [99, 108, 111, 115, 101, 100])) else false) then true else (bif (Prod.fst (Prod.snd (Prod.snd s))) then (decide ((Prod.fst s) = [99, 108, 111, 115, 101, 100])) else false)) then true else (bif (Prod.snd (Prod.snd (Prod.snd s))) then (bif (decide ((Prod.fst s) = [111, 112, 101, 110])) then true else (decide ((Prod.fst s) = [99, 108, 111, 115, 101, 100]))) else false)) = true) : chkSt s = 18 := by
 rw [unk_b] at h1
 rw [out_b] at h2
 rw [wrong_b] at h3
 rw [chkSt, first_w (by decide), h1, cond_false, withinF, first_w (by decide), h2, cond_false, h3]; rfl
theorem st_two4 (h1 : (bif (bif (bif (decide ((Prod.fst s) ≠ [105, 100, 108, 101])) then (decide ((Prod.fst s) ≠ [111, 112, 101, 110])) else false) then (decide ((Prod.fst s) ≠ [99, 108, 111, 115, 101, 100])) else false) then (decide ((Prod.fst s) ≠ [115, 97, 102, 101])) else false) = false) (h2 : (bif (decide ((Prod.fst (Prod.snd s)) < 0)) then true else (decide (3 ≤ (Prod.fst (Prod.snd s))))) = false) (h3 : (bif (bif (bif (decide (0 < (Prod.fst (Prod.snd s)))) then (decide ((Prod.fst s) ≠ [99, 108, 111, 115, 101, 100])) else false) then true else (bif (Prod.fst (Prod.snd (Prod.snd s))) then (decide ((Prod.fst s) = [99, 108, 111, 115, 101, 100])) else false)) then true else (bif (Prod.snd (Prod.snd (Prod.snd s))) then (bif (decide ((Prod.fst s) = [111, 112, 101, 110])) then true else (decide ((Prod.fst s) = [99, 108, 111, 115, 101, 100]))) else false)) = false) : chkSt s = 0 := by
 rw [unk_b] at h1
 rw [out_b] at h2
 rw [wrong_b] at h3
 rw [chkSt, first_w (by decide), h1, cond_false, withinF, first_w (by decide), h2, cond_false, h3]; rfl
end
theorem take_stp (l : List Stp) (k : Nat) (h : k < l.length) : l.take (k + 1) = l.take k ++ [l.getD k (0, [])] := by
 rw [List.take_add_one, List.getElem?_eq_getElem h, List.getD_eq_getElem?_getD, List.getElem?_eq_getElem h]; rfl
theorem stp_eq {x y : Stp} (h : (!((decide ((Prod.fst x) = (Prod.fst y))) && (decide ((Prod.snd x) = (Prod.snd y))))) = false) : x = y := by
 simp only [Bool.not_eq_false', Bool.and_eq_true, decide_eq_true_eq] at h
 exact Prod.ext h.1 h.2
theorem stp_ne {x y : Stp} (h : (!((decide ((Prod.fst x) = (Prod.fst y))) && (decide ((Prod.snd x) = (Prod.snd y))))) = true) : ¬ x = y := by
 rintro rfl
 simp at h
end Go.Lens.Tm
end
