/- A part of the proof that NightFieldsCardSaid holds, without conditions. -/
import Derived.Test.YtomghboflcafbaaGreatDoorF1
import Derived.Test.YtomghboflcafbaaGreatDoorS4
import Derived.Lib.Bytealg
import Derived.Test.YtomghboflcafbaaGreatDoorS3
import Derived.Shelf.Strings.OnBuilder
import Derived.Test.YtomghboflcafbaaGreatDoorProg
import Derived.Test.YtomghboflcafbaaGreatDoorS10
import Derived.Test.YtomghboflcafbaaGreatDoorRows
import Derived.MakeChecks
import Derived.Lib.LaidTab
import Derived.LaidLaws
import Derived.Stop.Joined
import Derived.RowKit
set_option linter.unusedVariables false
set_option linter.unusedSimpArgs false
section
namespace Go.Lens
set_option linter.unusedSectionVars false
variable [Lz]
section
variable {P : Program} {Y : Tab} [TabOk P Y] {nb : Nat} {s : St} {dst : Option Tmp} {ty u : TypeId} {pos : String} {af : Array Edge} {gd : Option (Nat × Bool)} {t : TypeId} {x y z : Operand}
theorem Body.idxE {α : Type} {enc : α → List PV} {l : List α} {h v sz n : Nat} {k : IntKind} {m : Int} {e T : TypeId} (hx : ev1 s x = .aref h v) (hm : lookM s.ms h = some (.arr v sz T (l.map enc))) (hy : ev1 s y = lit (.int k m)) (und : Y.underlying t = some (.slice e)) (hs : szT Y e = some sz)
  (hn : m = (n : Int)) (hlt : n < l.length) : Body P Y nb s ⟨dst, .indexAddr t x y, ty, pos, af, gd⟩ (.eref h v n 0) [] [h] := by
 refine .inr (SBody.of fun σ G a w hv hl I => ?_)
 have hX := hv x (by simp [Op.operands])
 have hY := hv y (by simp [Op.operands])
 rw [hx] at hX; rw [hy] at hY
 have hlk : lookM σ.ms h = some (.arr v sz T (l.map enc)) := by rw [hl h (.inl (by simp))]; exact hm
 have hq : indexAddrW Y t (lookM σ.ms) (.aref h v) (lit (.int k m)) = some (true, .eref h v n 0) := by
  show indexAddrQ Y t (lookM σ.ms) (.aref h v) (lit (.int k m)) = _
  unfold indexAddrQ lit
  subst hn
  have : decide ((0 : Int) ≤ (n : Int) ∧ (n : Int) < ((l.map enc).length : Int)) = true := decide_eq_true ⟨by omega, by rw [List.length_map]; omega⟩
  simp only [und, hs, hlk, and_self, if_true, this, Int.toNat_natCast]
 obtain ⟨r, h1, h2⟩ := indexAddrW_sound (P := P) I.ctxS.sees hq hX hY
 refine ⟨r, w, G, .inl ?_, stepped_same I.ctxS h2 (fun k hk => ?_)⟩
 ·simp only [execOp, Sem.run_bind, h1, Result.andThen_ok, Sem.run_pure]
 ·simp only [DV.refs, List.mem_singleton] at hk; subst hk; exact ⟨_, hlk⟩
theorem Body.setE {α : Type} {enc : α → List PV} {l : List α} {z0 : α} {p : PV} {h v n : Nat} {T : TypeId} (hx : ev1 s x = .eref h v n 0) (hm : lookM s.ms h = some (.arr v 1 T (l.map enc))) (hy : ev1 s y = .pv p) (hz : enc z0 = [p]) (hc : cellsPV p = [p])
  (hs : szT Y t = some 1) (hlt : n < l.length) (hsz : ∀ a, (enc a).length = 1) : Body P Y nb s ⟨dst, .store t x y, ty, pos, af, gd⟩ .dead [(h, .arr v 1 T ((l.set n z0).map enc))] [h] := by
 refine .inr (SBody.of fun σ G a w hv hl I => ?_)
 have hX := hv x (by simp [Op.operands])
 have hY := hv y (by simp [Op.operands])
 rw [hx] at hX; rw [hy] at hY
 have hlk : lookM σ.ms h = some (.arr v 1 T (l.map enc)) := by rw [hl h (.inl (by simp))]; exact hm
 have C : Ctx G w (fun z => match z with | .tmp 0 => a.eval x | .tmp 1 => a.eval y | _ => undef) (fun z => match z with | .tmp 0 => .eref h v n 0 | .tmp 1 => .pv p | _ => .dead) (lookM σ.ms) (lookM σ.ms) := by
  refine I.mem.ctx2 (fun z => ?_) (fun z k hk => ?_)
  ·split
   ·exact hX
   ·exact hY
   ·simp only [RelDV]
  ·split at hk
   ·simp only [DV.refs, List.mem_singleton] at hk; subst hk; exact ⟨_, hlk⟩
   ·simp [DV.refs] at hk
   ·simp [DV.refs] at hk
 have hcv : storeV Y t (.eref h v n 0) (.pv p) (lookM σ.ms) = some ⟨true, .dead, [(h, .arr v 1 T ((l.set n z0).map enc))]⟩ := by
  unfold storeV
  have hp : pvOf (lookM σ.ms) (.pv p) = some p := rfl
  have hg : (l.map enc).getD n [] = enc (l[n]'hlt) := by rw [List.getD_eq_getElem?_getD, List.getElem?_map, List.getElem?_eq_getElem hlt]; rfl
  have hd : (enc (l[n]'hlt)).drop 1 = [] := List.drop_eq_nil_of_le (by rw [hsz]; omega)
  have hdec : decide (n < (l.map enc).length ∧ 0 + 1 ≤ 1) = true := decide_eq_true ⟨by rw [List.length_map]; exact hlt, by omega⟩
  simp only [hs, hlk, hp, hc, List.length_cons, List.length_nil, and_self, if_true, hg, List.take_zero, List.nil_append, Nat.zero_add, hd, List.append_nil, List.map_set, hz]
  have hdec2 : decide (n < (l.map enc).length ∧ 1 ≤ 1) = true := hdec
  simp only [List.length_map] at hdec2
  simp [hlt]
 obtain ⟨w', G', h1, h2⟩ := storeV_sound (P := P) C (t := t) (a := .tmp 0) (x := .tmp 1) hcv rfl
 refine ⟨undef, w', G', .inr ⟨?_, rfl⟩, h2⟩
 have lift : ∀ {q : Sem Unit} {w' : World}, q.run P w = .ok () w' → (do q; Pure.pure Next.skip : Sem Next).run P w = .ok .skip w' := by
  intro q w' h
  simp only [Sem.run_bind, h, Result.andThen_ok, Sem.run_pure]
 exact lift (q := Instr.storeAt _ _ _) h1
theorem Body.lenB1 {c : UInt8} {at' : TypeId} (hx : ev1 s x = lit (.string (bsO [c]))) (hu : Y.underlying at' = some .string) : Body P Y nb s ⟨dst, .call ⟨.builtin .len, ⟨[x]⟩, ⟨[at']⟩⟩, ty, pos, af, gd⟩ (lit (.int .i64 1)) [] [] := Body.lenB hx hu
end
end Go.Lens
end
section
namespace Go.Lens.Tm
open Go.Lens.Tb Go.Proofs
set_option linter.unusedSectionVars false
variable [Lz]
theorem u8_back (c : UInt8) : (((c.toNat : Nat) : Int)).toNat.toUInt8 = c := by simp
theorem w310 (hp : PowLaid) (s : List UInt8) (c : UInt8) : CallOk Tryz.prog 310 [vS (bsO s), .pv (.lit (.int .u8 ((c.toNat : Nat) : Int)))] (lookM []) (vI (Lib.indexByte s c)) [] := by
 have h : extO ext 310 0 [vS (bsO s), .pv (.lit (.int .u8 ((c.toNat : Nat) : Int)))] [] = some (lit (.int .i64 (Lib.indexByte (bsO s).data.toList (((c.toNat : Nat) : Int)).toNat.toUInt8)), []) := rfl
 rw [u8_back] at h
 exact extO_ok (ext_ok hp) _ _ _ _ _ _ h
theorem w287 (hp : PowLaid) (s : List UInt8) (c : UInt8) : CallOk Tryz.prog 287 [vS (bsO s), .pv (.lit (.int .u8 ((c.toNat : Nat) : Int)))] (lookM []) (vI ((List.count c s : Nat) : Int)) [] := by
 have h : extO ext 287 0 [vS (bsO s), .pv (.lit (.int .u8 ((c.toNat : Nat) : Int)))] [] = some (lit (.int .i64 (Lib.countByte (bsO s).data.toList (((c.toNat : Nat) : Int)).toNat.toUInt8)), []) := rfl
 rw [u8_back] at h
 exact extO_ok (ext_ok hp) _ _ _ _ _ _ h
theorem ix_nat : ∀ {s : List UInt8} {c : UInt8}, 0 ≤ Lib.indexByte s c → ∃ n : Nat, Lib.indexByte s c = (n : Int) ∧ n < s.length ∧ s.getD n 0 = c ∧ ∀ j, j < n → s.getD j 0 ≠ c
 | [], c, h => by simp [Lib.indexByte] at h
 | b :: l, c, h => by
  simp only [Lib.indexByte] at h ⊢
  by_cases hb : (b == c) = true
  ·rw [if_pos hb]
   exact ⟨0, rfl, by simp, by simpa using hb, fun j hj => by omega⟩
  ·rw [if_neg hb] at h ⊢
   by_cases h1 : (Lib.indexByte l c == -1) = true
   ·rw [if_pos h1] at h; omega
   ·rw [if_neg h1] at h ⊢
    have hge := Lib.indexByte_ge l c
    have hne : Lib.indexByte l c ≠ -1 := by simpa using h1
    obtain ⟨n, e, k1, k2, k3⟩ := ix_nat (s := l) (c := c) (by omega)
    refine ⟨n + 1, by rw [e]; rfl, by simpa using k1, by simpa using k2, fun j hj => ?_⟩
    cases j with
    | zero => simpa using hb
    | succ j => simpa using k3 j (by omega)
theorem ix_neg : ∀ {s : List UInt8} {c : UInt8}, Lib.indexByte s c < 0 → c ∉ s
 | [], c, _ => by simp
 | b :: l, c, h => by
  simp only [Lib.indexByte] at h
  by_cases hb : (b == c) = true
  ·rw [if_pos hb] at h; omega
  ·rw [if_neg hb] at h
   by_cases h1 : (Lib.indexByte l c == -1) = true
   ·have e : Lib.indexByte l c = -1 := by simpa using h1
    have := ix_neg (s := l) (c := c) (by omega)
    have hb' : b ≠ c := by simpa using hb
    simp only [List.mem_cons, not_or]
    exact ⟨fun e => hb' e.symm, this⟩
   ·rw [if_neg h1] at h
    have := Lib.indexByte_ge l c
    have hne : Lib.indexByte l c ≠ -1 := by simpa using h1
    omega
theorem ix_self {s : List UInt8} {c : UInt8} (h : (bif decide ((1 : Int) = 0) then true else decide ([c] = s)) = true) : (0 : Int) = Lib.indexByte s c := by
 have : [c] = s := by simpa using h
 subst this
 simp [Lib.indexByte]
def cut3 (s : List UInt8) (c : UInt8) : List UInt8 × List UInt8 × Bool := if Lib.indexByte s c < 0 then (s, [], false) else (s.take (Lib.indexByte s c).toNat, s.drop ((Lib.indexByte s c).toNat + 1), true)
theorem cut3_no {s : List UInt8} {c : UInt8} (h : ¬ 0 ≤ Lib.indexByte s c) : cut3 s c = (s, [], false) := by unfold cut3; exact if_pos (by omega)
theorem cut3_yes {s : List UInt8} {c : UInt8} {n : Nat} (h : Lib.indexByte s c = (n : Int)) : cut3 s c = (s.take n, s.drop (n + 1), true) := by
 unfold cut3; rw [h, if_neg (by omega), Int.toNat_natCast]
theorem cutP_cut3 (p : List UInt8) : ((cut3 p 61).2.2 = true → cutP p = some ((cut3 p 61).1, (cut3 p 61).2.1)) ∧ ((cut3 p 61).2.2 = false → cutP p = none) := by
 have c61 : ∀ b : UInt8, ((b.toNat : Nat) : Int) = 61 ↔ b = 61 := fun b => by
  constructor
  ·intro h; exact UInt8.toNat_inj.1 (by have e : (61 : UInt8).toNat = 61 := rfl; omega)
  ·rintro rfl; rfl
 by_cases h : 0 ≤ Lib.indexByte p 61
 ·obtain ⟨n, e, k1, k2, k3⟩ := ix_nat h
  rw [cut3_yes e]
  refine ⟨fun _ => ?_, fun h => by cases h⟩
  exact (cutP_at p n (by omega) fun j hj hq => k3 j hj ((c61 _).1 hq)).2 k1 ((c61 _).2 k2)
 ·rw [cut3_no h]
  refine ⟨fun h => (by cases h), fun _ => ?_⟩
  have hn := ix_neg (s := p) (c := 61) (by omega)
  exact (cutP_at p p.length (Nat.le_refl _) fun j hj hq => hn (by have := (c61 _).1 hq; rw [← this]; exact getD_mem hj)).1 rfl
theorem c32 (b : UInt8) : ((b.toNat : Nat) : Int) = 32 ↔ b = 32 := by
 constructor
 ·intro h; exact UInt8.toNat_inj.1 (by have e : (32 : UInt8).toNat = 32 := rfl; omega)
 ·rintro rfl; rfl
theorem splGo_none : ∀ (s acc : List UInt8), 32 ∉ s → splGo acc s = [acc ++ s]
 | [], acc, _ => by simp [splGo]
 | b :: r, acc, h => by
  simp only [List.mem_cons, not_or] at h
  simp only [splGo]
  rw [decide_eq_false (p := ((b.toNat : Nat) : Int) = 32) (fun e => h.1 ((c32 b).1 e).symm), cond_false, splGo_none r _ h.2]; simp
theorem splGo_at : ∀ (s acc : List UInt8) (n : Nat), n < s.length → s.getD n 0 = 32 → (∀ j, j < n → s.getD j 0 ≠ 32) → splGo acc s = (acc ++ s.take n) :: splGo [] (s.drop (n + 1)) ∧ List.count 32 s = List.count 32 (s.drop (n + 1)) + 1
 | [], _, n, h, _, _ => by simp at h
 | b :: r, acc, 0, _, h, _ => by
  have hb : b = 32 := h
  subst hb
  simp only [splGo]
  exact ⟨by simp, by simp⟩
 | b :: r, acc, n + 1, h1, h2, h3 => by
  have hb : b ≠ 32 := h3 0 (by omega)
  obtain ⟨k1, k2⟩ := splGo_at r (acc ++ [b]) n (by simpa using h1) (by simpa using h2) fun j hj => by simpa using h3 (j + 1) (by omega)
  simp only [splGo]
  rw [decide_eq_false (p := ((b.toNat : Nat) : Int) = 32) (fun e => hb ((c32 b).1 e)), cond_false, k1]
  exact ⟨by simp, by rw [List.count_cons_of_ne hb]; simpa using k2⟩
def GsI (s : List UInt8) (n2 i : Nat) (a : List (List UInt8)) (q : List UInt8) : Prop := a.length = n2 ∧ q.length ≤ s.length ∧ i + List.count 32 q + 1 = n2 ∧ splS s = a.take i ++ splS q
theorem gs_step {s q : List UInt8} {n2 i m : Nat} {a : List (List UInt8)} (h : GsI s n2 i a q) (e : Lib.indexByte q 32 = (m : Int)) (hm : m < q.length) (h2 : q.getD m 0 = 32) (h3 : ∀ j, j < m → q.getD j 0 ≠ 32) : GsI s n2 (i + 1) (a.set i (q.take m)) (q.drop (m + 1)) := by
 obtain ⟨k1, k2, k3, k4⟩ := h
 obtain ⟨g1, g2⟩ := splGo_at q [] m hm h2 h3
 refine ⟨by rw [List.length_set]; exact k1, by rw [List.length_drop]; omega, by omega, ?_⟩
 have hi : i < a.length := by omega
 rw [k4]
 unfold splS
 rw [g1, List.take_add_one, List.getElem?_set_self hi, List.take_set_of_le (Nat.le_refl _)]
 simp
theorem gs_end {s q : List UInt8} {n2 i : Nat} {a : List (List UInt8)} (h : GsI s n2 i a q) (hq : 32 ∉ q) : (a.set i q).take (i + 1) = splS s := by
 obtain ⟨k1, k2, k3, k4⟩ := h
 have hi : i < a.length := by omega
 rw [k4]
 unfold splS
 rw [splGo_none q [] hq, List.take_add_one, List.getElem?_set_self hi, List.take_set_of_le (Nat.le_refl _)]
 rfl
theorem gs_no {s q : List UInt8} {n2 i : Nat} {a : List (List UInt8)} (h : GsI s n2 i a q) (hc : ¬ ((i : Nat) : Int) < ((n2 : Nat) : Int) - 1) : 32 ∉ q := by
 obtain ⟨_, _, k3, _⟩ := h
 exact List.count_eq_zero.1 (by omega)
end Go.Lens.Tm
end
section
namespace Go.Lens.Tm
open Go.Lens.Tb Go.Proofs
variable [Lz]
set_option linter.unusedSectionVars false
set_option maxRecDepth 100000
attribute [local irreducible] TK PK T RG EfR Body
set_option maxHeartbeats 4000000 in
theorem w288 (hp : PowLaid) (s : List UInt8) (c : UInt8) : CallOk Tryz.prog 288 [vS (bsO s), .pv (.lit (.int .u8 ((UInt8.toNat c : Nat) : Int)))] (lookM []) (vI (Lib.indexByte s c)) [] := by
 haveI := tab_ok
 obtain ⟨fn, f1, f2, f3, f4, _, f6⟩ := qf288
 refine callOk_of (Y := tab) (F := fn288) f1 (f2.trans rfl) f3 f4 f6 (Nat.le_of_ble_eq_true rfl) rfl ?_
 clear f1 f2 f3 f4 f6
 show TK _ _ _ _ _ _ ⟨[(0, vS (bsO s)), (1, .pv (.lit (.int .u8 ((UInt8.toNat c : Nat) : Int))))], []⟩
 refine At rfl ?_
 refine NR ⟨[(0, vS (bsO s)), (1, .pv (.lit (.int .u8 ((UInt8.toNat c : Nat) : Int))))], []⟩ (sb rfl rfl rfl) rfl ?_
 refine ag rfl ?_
 refine RN ?_
 refine Ap rfl ?_
 refine NR ⟨[(0, vS (bsO s)), (1, .pv (.lit (.int .u8 ((UInt8.toNat c : Nat) : Int))))], []⟩ (sb rfl rfl rfl) rfl ?_
 refine mv rfl ?_
 refine mv rfl ?_
 refine RO (Body.call (w310 hp s c) rfl rfl rfl) ?_
 refine ag rfl ?_
 refine RN ?_
 refine Ap rfl ?_
 refine TK.ret ?_
 refine PK.ret ?_
 refine leaf (val0 := vI (Lib.indexByte s c)) (by kernel_rfl) ?_
 exact rfl
set_option maxHeartbeats 4000000 in
theorem w246 (hp : PowLaid) (s : List UInt8) (c : UInt8) (hl : s.length ≤ 1000000) : CallOk Tryz.prog 246 [vS (bsO s), vS (bsO [c])] (lookM []) (vI (Lib.indexByte s c)) [] := by
 haveI := tab_ok
 obtain ⟨fn, f1, f2, f3, f4, _, f6⟩ := qf246
 refine callOk_of (Y := tab) (F := fn246) f1 (f2.trans rfl) f3 f4 f6 (Nat.le_of_ble_eq_true rfl) rfl ?_
 clear f1 f2 f3 f4 f6
 show TK _ _ _ _ _ _ ⟨[(0, vS (bsO s)), (1, vS (bsO [c]))], []⟩
 refine At rfl ?_
 refine NR ⟨[(0, vS (bsO s)), (1, vS (bsO [c]))], []⟩ (sb rfl rfl rfl) rfl ?_
 refine ag rfl ?_
 refine RN ?_
 refine Ap rfl ?_
 refine NR ⟨[(0, vS (bsO s)), (1, vS (bsO [c]))], []⟩ (sb rfl rfl rfl) rfl ?_
 refine mv rfl ?_
 refine RO (Body.lenB1 (c := c) rfl un9) ?_
 refine ag rfl ?_
 refine RN ?_
 refine Ap rfl ?_
 refine NR ⟨[(0, vS (bsO s)), (1, vS (bsO [c])), (5, vI 1)], []⟩ (sb rfl rfl rfl) rfl ?_
 refine mv rfl ?_
 refine RO (Body.eql rfl rfl) ?_
 refine mv rfl ?_
 refine RG.cons (EfR.sym rfl (fun hc => Body.move rfl) rfl) ?_
 refine RG.cons (EfR.sym rfl (fun hc => Body.move rfl) rfl) ?_
 refine RG.cons (EfR.sym rfl (fun hc => Body.seqB (a := [c]) (b := s) (ev1_gd rfl hc) (ev1_gd rfl hc)) rfl) ?_
 refine RO (Body.pick rfl rfl rfl rfl (gdB rfl) (pick_or _)) ?_
 refine ag rfl ?_
 refine RN ?_
 refine Ap rfl ?_
 refine TK.norm ⟨[(0, vS (bsO s)), (1, vS (bsO [c])), (5, vI 1), (16, vB (bif (decide (1 = 0)) then true else (decide ([c] = s))))], []⟩ (sb rfl rfl rfl) ?_
 refine TK.cond rfl (fun h1 => ?_) (fun h1 => ?_)
 ·
  refine At rfl ?_
  refine NR ⟨[], []⟩ (sb rfl rfl rfl) rfl ?_
  refine ag rfl ?_
  refine RN ?_
  refine Ap rfl ?_
  refine TK.ret ?_
  refine PK.ret ?_
  refine leaf (val0 := vI 0) (by kernel_rfl) ?_
  exact li (by exact ix_self h1)
 ·
  refine At rfl ?_
  refine NR ⟨[(0, vS (bsO s)), (1, vS (bsO [c])), (5, vI 1)], []⟩ (sb rfl rfl rfl) rfl ?_
  refine mv rfl ?_
  refine RO (Body.eql rfl rfl) ?_
  refine ag rfl ?_
  refine RN ?_
  refine Ap rfl ?_
  refine TK.norm ⟨[(0, vS (bsO s)), (1, vS (bsO [c])), (5, vI 1), (24, vB (decide (1 = 1)))], []⟩ (sb rfl rfl rfl) ?_
  refine TK.condT rfl ?_
  refine At rfl ?_
  refine NR ⟨[(0, vS (bsO s)), (1, vS (bsO [c]))], []⟩ (sb rfl rfl rfl) rfl ?_
  refine mv rfl ?_
  refine mv rfl ?_
  refine RO (Body.sidx (i := 0) rfl rfl un9 rfl (show 0 < List.length [c] from (by first | omega | simp))) ?_
  refine RO (Body.call (w288 hp s c) rfl rfl rfl) ?_
  refine ag rfl ?_
  refine RN ?_
  refine Ap rfl ?_
  refine TK.ret ?_
  refine PK.ret ?_
  refine leaf (val0 := vI (Lib.indexByte s c)) (by kernel_rfl) ?_
  exact rfl
set_option maxHeartbeats 4000000 in
theorem w245 (hp : PowLaid) (s : List UInt8) (c : UInt8) (hl : s.length ≤ 1000000) : CallOk Tryz.prog 245 [vS (bsO s), vS (bsO [c])] (lookM []) (vI (Lib.indexByte s c)) [] := by
 haveI := tab_ok
 obtain ⟨fn, f1, f2, f3, f4, _, f6⟩ := qf245
 refine callOk_of (Y := tab) (F := fn245) f1 (f2.trans rfl) f3 f4 f6 (Nat.le_of_ble_eq_true rfl) rfl ?_
 clear f1 f2 f3 f4 f6
 show TK _ _ _ _ _ _ ⟨[(0, vS (bsO s)), (1, vS (bsO [c]))], []⟩
 refine At rfl ?_
 refine NR ⟨[(0, vS (bsO s)), (1, vS (bsO [c]))], []⟩ (sb rfl rfl rfl) rfl ?_
 refine ag rfl ?_
 refine RN ?_
 refine Ap rfl ?_
 refine NR ⟨[(0, vS (bsO s)), (1, vS (bsO [c]))], []⟩ (sb rfl rfl rfl) rfl ?_
 refine mv rfl ?_
 refine mv rfl ?_
 refine RO (Body.call (w246 hp s c (by omega)) rfl rfl rfl) ?_
 refine ag rfl ?_
 refine RN ?_
 refine Ap rfl ?_
 refine TK.ret ?_
 refine PK.ret ?_
 refine leaf (val0 := vI (Lib.indexByte s c)) (by kernel_rfl) ?_
 exact rfl
set_option maxHeartbeats 4000000 in
theorem w244 (hp : PowLaid) (s : List UInt8) (c : UInt8) (hl : s.length ≤ 1000000) : CallOk Tryz.prog 244 [vS (bsO s), vS (bsO [c])] (lookM []) (vI ((List.count c s : Nat) : Int)) [] := by
 haveI := tab_ok
 obtain ⟨fn, f1, f2, f3, f4, _, f6⟩ := qf244
 refine callOk_of (Y := tab) (F := fn244) f1 (f2.trans rfl) f3 f4 f6 (Nat.le_of_ble_eq_true rfl) rfl ?_
 clear f1 f2 f3 f4 f6
 show TK _ _ _ _ _ _ ⟨[(0, vS (bsO s)), (1, vS (bsO [c]))], []⟩
 refine At rfl ?_
 refine NR ⟨[(0, vS (bsO s)), (1, vS (bsO [c]))], []⟩ (sb rfl rfl rfl) rfl ?_
 refine ag rfl ?_
 refine RN ?_
 refine Ap rfl ?_
 refine NR ⟨[(0, vS (bsO s)), (1, vS (bsO [c]))], []⟩ (sb rfl rfl rfl) rfl ?_
 refine mv rfl ?_
 refine RO (Body.lenB1 (c := c) rfl un9) ?_
 refine RO (Body.eql rfl rfl) ?_
 refine RN ?_
 refine Ap rfl ?_
 refine TK.norm ⟨[(0, vS (bsO s)), (1, vS (bsO [c])), (9, vB (decide (1 = 0)))], []⟩ (sb rfl rfl rfl) ?_
 refine TK.condF rfl ?_
 refine At rfl ?_
 refine NR ⟨[(0, vS (bsO s)), (1, vS (bsO [c]))], []⟩ (sb rfl rfl rfl) rfl ?_
 refine mv rfl ?_
 refine RO (Body.lenB1 (c := c) rfl un9) ?_
 refine RO (Body.eql rfl rfl) ?_
 refine RN ?_
 refine Ap rfl ?_
 refine TK.norm ⟨[(0, vS (bsO s)), (1, vS (bsO [c])), (15, vB (decide (1 = 1)))], []⟩ (sb rfl rfl rfl) ?_
 refine TK.condT rfl ?_
 refine At rfl ?_
 refine NR ⟨[(0, vS (bsO s)), (1, vS (bsO [c]))], []⟩ (sb rfl rfl rfl) rfl ?_
 refine mv rfl ?_
 refine mv rfl ?_
 refine RO (Body.sidx (i := 0) rfl rfl un9 rfl (show 0 < List.length [c] from (by first | omega | simp))) ?_
 refine RO (Body.call (w287 hp s c) rfl rfl rfl) ?_
 refine ag rfl ?_
 refine RN ?_
 refine Ap rfl ?_
 refine TK.ret ?_
 refine PK.ret ?_
 refine leaf (val0 := vI ((List.count c s : Nat) : Int)) (by kernel_rfl) ?_
 exact rfl
set_option maxHeartbeats 4000000 in
theorem w171 (hp : PowLaid) (s : List UInt8) (c : UInt8) (hl : s.length ≤ 1000000) : CallOk Tryz.prog 171 [vS (bsO s), vS (bsO [c])] (lookM []) (.tup [vS (bsO (cut3 s c).1), vS (bsO (cut3 s c).2.1), vB (cut3 s c).2.2]) [] := by
 haveI := tab_ok
 obtain ⟨fn, f1, f2, f3, f4, _, f6⟩ := qf171
 refine callOk_of (Y := tab) (F := fn171) f1 (f2.trans rfl) f3 f4 f6 (Nat.le_of_ble_eq_true rfl) rfl ?_
 clear f1 f2 f3 f4 f6
 show TK _ _ _ _ _ _ ⟨[(0, vS (bsO s)), (1, vS (bsO [c]))], []⟩
 refine At rfl ?_
 refine NR ⟨[(0, vS (bsO s)), (1, vS (bsO [c]))], []⟩ (sb rfl rfl rfl) rfl ?_
 refine ag rfl ?_
 refine ag rfl ?_
 refine ag rfl ?_
 refine RN ?_
 refine Ap rfl ?_
 refine NR ⟨[(0, vS (bsO s)), (1, vS (bsO [c]))], []⟩ (sb rfl rfl rfl) rfl ?_
 refine mv rfl ?_
 refine mv rfl ?_
 refine RO (Body.call (w246 hp s c (by omega)) rfl rfl rfl) ?_
 refine ag rfl ?_
 refine RN ?_
 refine Ap rfl ?_
 refine NR ⟨[(0, vS (bsO s)), (1, vS (bsO [c])), (7, vI (Lib.indexByte s c))], []⟩ (sb rfl rfl rfl) rfl ?_
 refine mv rfl ?_
 refine RO (Body.geq rfl rfl) ?_
 refine RN ?_
 refine Ap rfl ?_
 refine TK.norm ⟨[(0, vS (bsO s)), (1, vS (bsO [c])), (7, vI (Lib.indexByte s c)), (12, vB (decide (0 ≤ (Lib.indexByte s c))))], []⟩ (sb rfl rfl rfl) ?_
 refine TK.condP rfl (fun h1 => ?_) (fun h1 => ?_)
 ·
  refine At rfl ?_
  refine TK.norm ⟨[(0, vS (bsO s)), (1, vS (bsO [c])), (7, vI (Lib.indexByte s c))], []⟩ (sb rfl rfl rfl) ?_
  obtain ⟨n, hn, hns, _, _⟩ := ix_nat h1
  rw [hn]
  refine TK.rg (Y := tab) mixed rfl ?_
  refine mv rfl ?_
  refine mv rfl ?_
  refine RO (Body.slHB (a := s) (j := n) rfl rfl un9 rfl (by omega)) ?_
  refine mv rfl ?_
  refine mv rfl ?_
  refine mv rfl ?_
  refine RO (Body.lenB1 (c := c) rfl un9) ?_
  refine RO (Body.add rfl rfl (by unfold R64; omega)) ?_
  refine RO (Body.slLB (a := s) (i := (n + 1)) rfl rfl un9 (by omega) (by omega)) ?_
  refine ag rfl ?_
  refine ag rfl ?_
  refine ag rfl ?_
  refine RG.nil (fun _ => by kernel_rfl) ?_
  refine Ap rfl ?_
  refine TK.ret ?_
  refine PK.ret ?_
  refine leaf (val0 := .tup [vS (bsO (List.take n s)), vS (bsO (List.drop (n + 1) s)), vB true]) (by kernel_rfl) ?_
  exact tup3 (ls (by first | rw [cut3_yes hn] | rw [cut3_no h1])) (ls (by first | rw [cut3_yes hn] | rw [cut3_no h1])) (lb (by first | rw [cut3_yes hn] | rw [cut3_no h1]))
 ·
  refine At rfl ?_
  refine NR ⟨[(0, vS (bsO s))], []⟩ (sb rfl rfl rfl) rfl ?_
  refine mv rfl ?_
  refine ag rfl ?_
  refine ag rfl ?_
  refine ag rfl ?_
  refine RN ?_
  refine Ap rfl ?_
  refine TK.ret ?_
  refine PK.ret ?_
  refine leaf (val0 := .tup [vS (bsO s), vS (bsO []), vB false]) (by kernel_rfl) ?_
  exact tup3 (ls (by first | rw [cut3_yes hn] | rw [cut3_no h1])) (ls (by first | rw [cut3_yes hn] | rw [cut3_no h1])) (lb (by first | rw [cut3_yes hn] | rw [cut3_no h1]))
set_option maxHeartbeats 4000000 in
theorem w117 (hp : PowLaid) (s : List UInt8) (c : UInt8) (hl : s.length ≤ 1000000) : CallOk Tryz.prog 117 [vS (bsO s), vS (bsO [c])] (lookM []) (.tup [vS (bsO (cut3 s c).1), vS (bsO (cut3 s c).2.1), vB (cut3 s c).2.2]) [] := by
 haveI := tab_ok
 obtain ⟨fn, f1, f2, f3, f4, _, f6⟩ := qf117
 refine callOk_of (Y := tab) (F := fn117) f1 (f2.trans rfl) f3 f4 f6 (Nat.le_of_ble_eq_true rfl) rfl ?_
 clear f1 f2 f3 f4 f6
 show TK _ _ _ _ _ _ ⟨[(0, vS (bsO s)), (1, vS (bsO [c]))], []⟩
 refine At rfl ?_
 refine NR ⟨[(0, vS (bsO s)), (1, vS (bsO [c]))], []⟩ (sb rfl rfl rfl) rfl ?_
 refine ag rfl ?_
 refine ag rfl ?_
 refine ag rfl ?_
 refine RN ?_
 refine Ap rfl ?_
 refine NR ⟨[(0, vS (bsO s)), (1, vS (bsO [c]))], []⟩ (sb rfl rfl rfl) rfl ?_
 refine mv rfl ?_
 refine mv rfl ?_
 refine RO (Body.call (w171 hp s c (by omega)) rfl rfl rfl) ?_
 refine rn rfl ?_
 refine rn rfl ?_
 refine rn rfl ?_
 refine ag rfl ?_
 refine ag rfl ?_
 refine ag rfl ?_
 refine RN ?_
 refine Ap rfl ?_
 refine TK.ret ?_
 refine PK.ret ?_
 refine leaf (val0 := .tup [vS (bsO (cut3 s c).1), vS (bsO (cut3 s c).2.1), vB (cut3 s c).2.2]) (by kernel_rfl) ?_
 exact rfl
set_option maxHeartbeats 4000000 in
theorem w170 (hp : PowLaid) (s : List UInt8) (hl : s.length ≤ 1000000) : CallOk Tryz.prog 170 [vS (bsO s), vS (bsO [32]), vI 0, vI (-1)] (lookM []) (vL eN (splS s)) [] := by
 haveI := tab_ok
 obtain ⟨fn, f1, f2, f3, f4, _, f6⟩ := qf170
 refine callOk_of (Y := tab) (F := fn170) f1 (f2.trans rfl) f3 f4 f6 (Nat.le_of_ble_eq_true rfl) rfl ?_
 clear f1 f2 f3 f4 f6
 show TK _ _ _ _ _ _ ⟨[(0, vS (bsO s)), (1, vS (bsO [32])), (2, vI 0), (3, vI (-1))], []⟩
 refine At rfl ?_
 refine NR ⟨[(0, vS (bsO s)), (1, vS (bsO [32])), (2, vI 0), (3, vI (-1))], []⟩ (sb rfl rfl rfl) rfl ?_
 refine RO (Body.nilS (enc := eN) rfl) ?_
 refine RN ?_
 refine Ap rfl ?_
 refine NR ⟨[(0, vS (bsO s)), (1, vS (bsO [32])), (2, vI 0), (3, vI (-1))], []⟩ (sb rfl rfl rfl) rfl ?_
 refine mv rfl ?_
 refine RO (Body.eql rfl rfl) ?_
 refine RN ?_
 refine Ap rfl ?_
 refine TK.norm ⟨[(0, vS (bsO s)), (1, vS (bsO [32])), (2, vI 0), (3, vI (-1)), (13, vB (decide ((-1) = 0)))], []⟩ (sb rfl rfl rfl) ?_
 refine TK.condF rfl ?_
 refine At rfl ?_
 refine NR ⟨[(0, vS (bsO s)), (1, vS (bsO [32])), (2, vI 0), (3, vI (-1))], []⟩ (sb rfl rfl rfl) rfl ?_
 refine mv rfl ?_
 refine RO (Body.seqB (a := [32]) (b := []) rfl rfl) ?_
 refine RN ?_
 refine Ap rfl ?_
 refine TK.norm ⟨[(0, vS (bsO s)), (1, vS (bsO [32])), (2, vI 0), (3, vI (-1)), (15, vB (decide ([32] = [])))], []⟩ (sb rfl rfl rfl) ?_
 refine TK.condF rfl ?_
 refine At rfl ?_
 refine NR ⟨[(0, vS (bsO s)), (1, vS (bsO [32])), (2, vI 0), (3, vI (-1))], []⟩ (sb rfl rfl rfl) rfl ?_
 refine mv rfl ?_
 refine RO (Body.lss rfl rfl) ?_
 refine RN ?_
 refine Ap rfl ?_
 refine TK.norm ⟨[(0, vS (bsO s)), (1, vS (bsO [32])), (2, vI 0), (3, vI (-1)), (20, vB (decide ((-1) < 0)))], []⟩ (sb rfl rfl rfl) ?_
 refine TK.condT rfl ?_
 refine At rfl ?_
 refine TK.norm ⟨[(0, vS (bsO s)), (1, vS (bsO [32])), (2, vI 0)], []⟩ (sb rfl rfl rfl) ?_
 have hcl : List.count 32 s ≤ s.length := List.count_le_length
 refine TK.rg (Y := tab) mixed rfl ?_
 refine mv rfl ?_
 refine mv rfl ?_
 refine RO (Body.call (w244 hp s 32 (by omega)) rfl rfl rfl) ?_
 refine RO (Body.add rfl rfl (by unfold R64; omega)) ?_
 refine ag rfl ?_
 refine RN ?_
 refine Ap rfl ?_
 refine NR ⟨[(0, vS (bsO s)), (1, vS (bsO [32])), (2, vI 0), (3, vI (((List.count 32 s : Nat) : Int) + 1))], []⟩ (sb rfl rfl rfl) rfl ?_
 refine mv rfl ?_
 refine mv rfl ?_
 refine RO (Body.lenB (a := s) rfl un9) ?_
 refine RO (Body.add rfl rfl (by unfold R64; omega)) ?_
 refine RO (Body.min rfl rfl) ?_
 refine ag rfl ?_
 refine RN ?_
 refine Ap rfl ?_
 refine TK.norm ⟨[(0, vS (bsO s)), (1, vS (bsO [32])), (2, vI 0), (3, vI (min (((List.count 32 s : Nat) : Int) + 1) (((List.length s : Nat) : Int) + 1)))], []⟩ (sb rfl rfl rfl) ?_
 obtain ⟨n2, hn2⟩ : ∃ n2, n2 = List.count 32 s + 1 := ⟨_, rfl⟩
 rw [show (min (((List.count 32 s : Nat) : Int) + 1) (((List.length s : Nat) : Int) + 1)) = ((n2 : Nat) : Int) by omega]
 refine TK.rg (Y := tab) mixed rfl ?_
 refine mv rfl ?_
 refine RO (Body.makeSl (enc := eN) (sz := 1) (z0 := []) (n := n2) (m := n2) rfl rfl rfl un73 in9 rfl rfl rfl by9 (by first | omega | (simp only [List.length_set]; omega) | (simp only [List.length_cons, List.length_nil]; omega)) rfl rfl) ?_
 refine rn rfl ?_
 refine RN ?_
 refine Ap rfl ?_
 refine NR ⟨[(0, vS (bsO s)), (1, vS (bsO [32])), (2, vI 0), (3, vI ((n2 : Nat) : Int)), (9, .aref 32 0)], [(32, .arr 0 1 9 (List.map eN (List.replicate n2 [])))]⟩ (sb rfl rfl rfl) rfl ?_
 refine mv rfl ?_
 refine RO (Body.sub rfl rfl (by unfold R64; omega)) ?_
 refine ag rfl ?_
 refine RN ?_
 refine Ap rfl ?_
 refine NR ⟨[(0, vS (bsO s)), (1, vS (bsO [32])), (2, vI 0), (3, vI (((n2 : Nat) : Int) - 1)), (9, .aref 32 0)], [(32, .arr 0 1 9 (List.map eN (List.replicate n2 [])))]⟩ (sb rfl rfl rfl) rfl ?_
 refine ag rfl ?_
 refine RN ?_
 refine Ap rfl ?_
 refine TK.loop (α := Nat × List (List UInt8) × List UInt8) (fun x => ⟨[(0, vS (bsO x.2.2)), (1, vS (bsO [32])), (2, vI 0), (3, vI (((n2 : Nat) : Int) - 1)), (9, .aref 32 0), (10, vI ((x.1 : Nat) : Int))], [(32, .arr 0 1 9 (List.map eN x.2.1))]⟩) (fun x => GsI s n2 x.1 x.2.1 x.2.2) (fun x => n2 - x.1) (0, (List.replicate n2 []), s) ?_ (sb rfl rfl rfl) ?_
 · show GsI s n2 0 (List.replicate n2 []) s
   exact ⟨List.length_replicate, Nat.le_refl _, by omega, by simp⟩
 rintro ⟨i, a, q⟩ hI0
 replace hI0 : GsI s n2 i a q := hI0
 have hal := hI0.1
 have hil := hI0.2.2.1
 show TK _ _ _ _ _ _ ⟨[(0, vS (bsO q)), (1, vS (bsO [32])), (2, vI 0), (3, vI (((n2 : Nat) : Int) - 1)), (9, .aref 32 0), (10, vI ((i : Nat) : Int))], [(32, .arr 0 1 9 (List.map eN a))]⟩
 refine At rfl ?_
 refine NR ⟨[(0, vS (bsO q)), (1, vS (bsO [32])), (2, vI 0), (3, vI (((n2 : Nat) : Int) - 1)), (9, .aref 32 0), (10, vI ((i : Nat) : Int))], [(32, .arr 0 1 9 (List.map eN a))]⟩ (sb rfl rfl rfl) rfl ?_
 refine mv rfl ?_
 refine mv rfl ?_
 refine RO (Body.lss rfl rfl) ?_
 refine RN ?_
 refine Ap rfl ?_
 refine TK.norm ⟨[(0, vS (bsO q)), (1, vS (bsO [32])), (2, vI 0), (3, vI (((n2 : Nat) : Int) - 1)), (9, .aref 32 0), (10, vI ((i : Nat) : Int)), (36, vB (decide (((i : Nat) : Int) < (((n2 : Nat) : Int) - 1))))], [(32, .arr 0 1 9 (List.map eN a))]⟩ (sb rfl rfl rfl) ?_
 refine TK.condP rfl (fun h1 => ?_) (fun h1 => ?_)
 ·
  refine At rfl ?_
  refine TK.norm ⟨[(0, vS (bsO q)), (1, vS (bsO [32])), (2, vI 0), (3, vI (((n2 : Nat) : Int) - 1)), (9, .aref 32 0), (10, vI ((i : Nat) : Int))], [(32, .arr 0 1 9 (List.map eN a))]⟩ (sb rfl rfl rfl) ?_
  have hql := hI0.2.1
  refine TK.rg (Y := tab) mixed rfl ?_
  refine mv rfl ?_
  refine mv rfl ?_
  refine RO (Body.call (w245 hp q 32 (by omega)) rfl rfl rfl) ?_
  refine ag rfl ?_
  refine RN ?_
  refine Ap rfl ?_
  refine NR ⟨[(0, vS (bsO q)), (1, vS (bsO [32])), (2, vI 0), (3, vI (((n2 : Nat) : Int) - 1)), (9, .aref 32 0), (10, vI ((i : Nat) : Int)), (11, vI (Lib.indexByte q 32))], [(32, .arr 0 1 9 (List.map eN a))]⟩ (sb rfl rfl rfl) rfl ?_
  refine mv rfl ?_
  refine RO (Body.lss rfl rfl) ?_
  refine RN ?_
  refine Ap rfl ?_
  refine TK.norm ⟨[(0, vS (bsO q)), (1, vS (bsO [32])), (2, vI 0), (3, vI (((n2 : Nat) : Int) - 1)), (9, .aref 32 0), (10, vI ((i : Nat) : Int)), (11, vI (Lib.indexByte q 32)), (41, vB (decide ((Lib.indexByte q 32) < 0)))], [(32, .arr 0 1 9 (List.map eN a))]⟩ (sb rfl rfl rfl) ?_
  refine TK.condP rfl (fun h2 => ?_) (fun h2 => ?_)
  ·
   refine At rfl ?_
   refine TK.exit ?_
   refine PK.exit rfl ?_
   refine Ap rfl ?_
   refine TK.norm ⟨[(0, vS (bsO q)), (9, .aref 32 0), (10, vI ((i : Nat) : Int))], [(32, .arr 0 1 9 (List.map eN a))]⟩ (sb rfl rfl rfl) ?_
   have hal := hI0.1
   have hil := hI0.2.2.1
   refine TK.rg (Y := tab) mixed rfl ?_
   refine rn rfl ?_
   refine mv rfl ?_
   refine mv rfl ?_
   refine RO (Body.idxE (n := i) rfl rfl rfl un73 sz9 rfl (by first | omega | (simp only [List.length_set]; omega) | (simp only [List.length_cons, List.length_nil]; omega))) ?_
   refine RO (Body.setE (z0 := q) rfl rfl rfl rfl rfl sz9 (by first | omega | (simp only [List.length_set]; omega) | (simp only [List.length_cons, List.length_nil]; omega)) (fun _ => rfl)) ?_
   refine RN ?_
   refine Ap rfl ?_
   refine TK.norm ⟨[(9, .aref 32 0), (10, vI ((i : Nat) : Int))], [(32, .arr 0 1 9 (List.map eN (List.set a i q)))]⟩ (sb rfl rfl rfl) ?_
   refine TK.frz (t := 9) rfl rfl ?_
   refine NR ⟨[(9, vL eN (List.set a i q)), (10, vI ((i : Nat) : Int))], []⟩ (sb rfl rfl rfl) rfl ?_
   refine mv rfl ?_
   refine mv rfl ?_
   refine RO (Body.add rfl rfl (by unfold R64; omega)) ?_
   refine RO (Body.slT (j := (i + 1)) rfl rfl un73 sz9 (by omega) (by first | omega | (simp only [List.length_set]; omega) | (simp only [List.length_cons, List.length_nil]; omega))) ?_
   refine ag rfl ?_
   refine RN ?_
   refine Ap rfl ?_
   refine TK.ret ?_
   refine PK.ret ?_
   refine leaf (val0 := vL eN (List.take (i + 1) (List.set a i q))) (by kernel_rfl) ?_
   exact lsl (by first | exact gs_end hI0 (ix_neg (by assumption)) | exact gs_end hI0 (gs_no hI0 (by assumption)))
  ·
   refine At rfl ?_
   refine TK.norm ⟨[(0, vS (bsO q)), (1, vS (bsO [32])), (2, vI 0), (3, vI (((n2 : Nat) : Int) - 1)), (9, .aref 32 0), (10, vI ((i : Nat) : Int)), (11, vI (Lib.indexByte q 32))], [(32, .arr 0 1 9 (List.map eN a))]⟩ (sb rfl rfl rfl) ?_
   obtain ⟨m, hm, hmq, hm2, hm3⟩ := ix_nat (show 0 ≤ Lib.indexByte q 32 by omega)
   rw [hm]
   refine TK.rg (Y := tab) mixed rfl ?_
   refine rn rfl ?_
   refine mv rfl ?_
   refine mv rfl ?_
   refine mv rfl ?_
   refine mv rfl ?_
   refine RO (Body.add rfl rfl (by unfold R64; omega)) ?_
   refine RO (Body.slHB (a := q) (j := (Int.toNat (((m : Nat) : Int) + 0))) rfl rfl un9 (Int.toNat_of_nonneg (by first | omega | (simp only [List.length_set]; omega) | (simp only [List.length_cons, List.length_nil]; omega))).symm (by first | omega | (simp only [List.length_set]; omega) | (simp only [List.length_cons, List.length_nil]; omega))) ?_
   refine RO (Body.idxE (n := i) rfl rfl rfl un73 sz9 rfl (by first | omega | (simp only [List.length_set]; omega) | (simp only [List.length_cons, List.length_nil]; omega))) ?_
   refine RO (Body.setE (z0 := (List.take (Int.toNat (((m : Nat) : Int) + 0)) q)) rfl rfl rfl rfl rfl sz9 (by first | omega | (simp only [List.length_set]; omega) | (simp only [List.length_cons, List.length_nil]; omega)) (fun _ => rfl)) ?_
   refine RN ?_
   refine Ap rfl ?_
   refine NR ⟨[(0, vS (bsO q)), (1, vS (bsO [32])), (2, vI 0), (3, vI (((n2 : Nat) : Int) - 1)), (9, .aref 32 0), (10, vI ((i : Nat) : Int)), (11, vI ((m : Nat) : Int))], [(32, .arr 0 1 9 (List.map eN (List.set a i (List.take (Int.toNat (((m : Nat) : Int) + 0)) q))))]⟩ (sb rfl rfl rfl) rfl ?_
   refine mv rfl ?_
   refine mv rfl ?_
   refine mv rfl ?_
   refine RO (Body.lenB1 (c := 32) rfl un9) ?_
   refine RO (Body.add rfl rfl (by unfold R64; omega)) ?_
   refine RO (Body.slLB (a := q) (i := (m + 1)) rfl rfl un9 (by omega) (by first | omega | (simp only [List.length_set]; omega) | (simp only [List.length_cons, List.length_nil]; omega))) ?_
   refine ag rfl ?_
   refine RN ?_
   refine Ap rfl ?_
   refine NR ⟨[(0, vS (bsO (List.drop (m + 1) q))), (1, vS (bsO [32])), (2, vI 0), (3, vI (((n2 : Nat) : Int) - 1)), (9, .aref 32 0), (10, vI ((i : Nat) : Int))], [(32, .arr 0 1 9 (List.map eN (List.set a i (List.take (Int.toNat (((m : Nat) : Int) + 0)) q))))]⟩ (sb rfl rfl rfl) rfl ?_
   refine mv rfl ?_
   refine RO (Body.add rfl rfl (by unfold R64; omega)) ?_
   refine ag rfl ?_
   refine RN ?_
   refine Aq rfl ?_
   refine PK.lp ?_
   refine LP.mk ((i + 1), (List.set a i (List.take (Int.toNat (((m : Nat) : Int) + 0)) q)), (List.drop (m + 1) q)) ?_ ?_ (sb rfl rfl rfl)
   · show GsI s n2 (i + 1) (List.set a i (List.take (Int.toNat (((m : Nat) : Int) + 0)) q)) (List.drop (m + 1) q)
     exact gs_step hI0 hm hmq hm2 hm3
   · show n2 - (i + 1) < n2 - i
     omega
 ·
  refine At rfl ?_
  refine TK.exit ?_
  refine PK.exit rfl ?_
  refine Ap rfl ?_
  refine TK.norm ⟨[(0, vS (bsO q)), (9, .aref 32 0), (10, vI ((i : Nat) : Int))], [(32, .arr 0 1 9 (List.map eN a))]⟩ (sb rfl rfl rfl) ?_
  have hal := hI0.1
  have hil := hI0.2.2.1
  refine TK.rg (Y := tab) mixed rfl ?_
  refine rn rfl ?_
  refine mv rfl ?_
  refine mv rfl ?_
  refine RO (Body.idxE (n := i) rfl rfl rfl un73 sz9 rfl (by first | omega | (simp only [List.length_set]; omega) | (simp only [List.length_cons, List.length_nil]; omega))) ?_
  refine RO (Body.setE (z0 := q) rfl rfl rfl rfl rfl sz9 (by first | omega | (simp only [List.length_set]; omega) | (simp only [List.length_cons, List.length_nil]; omega)) (fun _ => rfl)) ?_
  refine RN ?_
  refine Ap rfl ?_
  refine TK.norm ⟨[(9, .aref 32 0), (10, vI ((i : Nat) : Int))], [(32, .arr 0 1 9 (List.map eN (List.set a i q)))]⟩ (sb rfl rfl rfl) ?_
  refine TK.frz (t := 9) rfl rfl ?_
  refine NR ⟨[(9, vL eN (List.set a i q)), (10, vI ((i : Nat) : Int))], []⟩ (sb rfl rfl rfl) rfl ?_
  refine mv rfl ?_
  refine mv rfl ?_
  refine RO (Body.add rfl rfl (by unfold R64; omega)) ?_
  refine RO (Body.slT (j := (i + 1)) rfl rfl un73 sz9 (by omega) (by first | omega | (simp only [List.length_set]; omega) | (simp only [List.length_cons, List.length_nil]; omega))) ?_
  refine ag rfl ?_
  refine RN ?_
  refine Ap rfl ?_
  refine TK.ret ?_
  refine PK.ret ?_
  refine leaf (val0 := vL eN (List.take (i + 1) (List.set a i q))) (by kernel_rfl) ?_
  exact lsl (by first | exact gs_end hI0 (ix_neg (by assumption)) | exact gs_end hI0 (gs_no hI0 (by assumption)))
set_option maxHeartbeats 4000000 in
theorem w116 (hp : PowLaid) (s : List UInt8) (hl : s.length ≤ 1000000) : CallOk Tryz.prog 116 [vS (bsO s), vS (bsO [32])] (lookM []) (vL eN (splS s)) [] := by
 haveI := tab_ok
 obtain ⟨fn, f1, f2, f3, f4, _, f6⟩ := qf116
 refine callOk_of (Y := tab) (F := fn116) f1 (f2.trans rfl) f3 f4 f6 (Nat.le_of_ble_eq_true rfl) rfl ?_
 clear f1 f2 f3 f4 f6
 show TK _ _ _ _ _ _ ⟨[(0, vS (bsO s)), (1, vS (bsO [32]))], []⟩
 refine At rfl ?_
 refine NR ⟨[(0, vS (bsO s)), (1, vS (bsO [32]))], []⟩ (sb rfl rfl rfl) rfl ?_
 refine RO (Body.nilS (enc := eN) rfl) ?_
 refine RN ?_
 refine Ap rfl ?_
 refine NR ⟨[(0, vS (bsO s)), (1, vS (bsO [32]))], []⟩ (sb rfl rfl rfl) rfl ?_
 refine mv rfl ?_
 refine mv rfl ?_
 refine RO (Body.call (w170 hp s (by omega)) rfl rfl rfl) ?_
 refine ag rfl ?_
 refine RN ?_
 refine Ap rfl ?_
 refine TK.ret ?_
 refine PK.ret ?_
 refine leaf (val0 := vL eN (splS s)) (by kernel_rfl) ?_
 exact rfl
end Go.Lens.Tm
end
section
namespace Go.Lens.Tm
open Go.Lens.Tb Go.Proofs
set_option linter.unusedSectionVars false
variable [Lz]
theorem cut3_len (p : List UInt8) (c : UInt8) : (cut3 p c).2.1.length ≤ p.length := by
 unfold cut3
 split
 ·simp
 ·simp
theorem out_len {N : Nat} {out : List Fld} {p : List UInt8} {c : UInt8} (h : ∀ f ∈ out, f.2.length ≤ N) (hp : p.length ≤ N) : ∀ f ∈ out ++ [((cut3 p c).1, (cut3 p c).2.1)], f.2.length ≤ N := by
 intro f hf
 rcases List.mem_append.1 hf with hf | hf
 ·exact h f hf
 ·simp only [List.mem_singleton] at hf
  subst hf
  exact Nat.le_trans (cut3_len p c) hp
end Go.Lens.Tm
end
section
namespace Go.Lens.Tm
open Go.Lens.Tb Go.Proofs
variable [Lz]
set_option linter.unusedSectionVars false
set_option maxRecDepth 100000
attribute [local irreducible] TK PK T RG EfR Body
set_option maxHeartbeats 4000000 in
theorem w37 (hp : PowLaid) (s : List UInt8) (hl : s.length ≤ 100000) : CallOk Tryz.prog 37 [vS (bsO s)] (lookM []) (.tup [vL eF (parF s).1, vI (parF s).2]) [] := by
 haveI := tab_ok
 obtain ⟨fn, f1, f2, f3, f4, _, f6⟩ := qf37
 refine callOk_of (Y := tab) (F := fn37) f1 (f2.trans rfl) f3 f4 f6 (Nat.le_of_ble_eq_true rfl) rfl ?_
 clear f1 f2 f3 f4 f6
 have hsl : (splS s).length ≤ s.length + 1 := spl_len s []
 show TK _ _ _ _ _ _ ⟨[(0, vS (bsO s))], []⟩
 refine At rfl ?_
 refine NR ⟨[(0, vS (bsO s))], []⟩ (sb rfl rfl rfl) rfl ?_
 refine RO (Body.nilS (enc := eF) rfl) ?_
 refine ag rfl ?_
 refine RN ?_
 refine Ap rfl ?_
 refine NR ⟨[(0, vS (bsO s))], []⟩ (sb rfl rfl rfl) rfl ?_
 refine mv rfl ?_
 refine RO (Body.seqB (a := s) (b := []) rfl rfl) ?_
 refine RN ?_
 refine Ap rfl ?_
 refine TK.norm ⟨[(0, vS (bsO s)), (12, vB (decide (s = [])))], []⟩ (sb rfl rfl rfl) ?_
 refine TK.condP rfl (fun h1 => ?_) (fun h1 => ?_)
 ·
  refine At rfl ?_
  refine NR ⟨[], []⟩ (sb rfl rfl rfl) rfl ?_
  refine RO (Body.nilS (enc := eF) rfl) ?_
  refine ag rfl ?_
  refine RN ?_
  refine Ap rfl ?_
  refine TK.ret ?_
  refine PK.ret ?_
  refine leaf (val0 := .tup [vL eF [], vI 0]) (by kernel_rfl) ?_
  exact tup2 (lsl (by first
          | rw [parF_nil h1]
          | rw [parF_none h1 (par_none hI0.2.2.1 (by omega) ((cutP_cut3 _).2 (bnot_t h3)))]
          | rw [parF_bad h1 hpe (by assumption)]
          | rw [parF_ok h1 hpe (by assumption)])) (li (by first
          | rw [parF_nil h1]
          | rw [parF_none h1 (par_none hI0.2.2.1 (by omega) ((cutP_cut3 _).2 (bnot_t h3)))]
          | rw [parF_bad h1 hpe (by assumption)]
          | rw [parF_ok h1 hpe (by assumption)]))
 ·
  refine At rfl ?_
  refine NR ⟨[(0, vS (bsO s))], []⟩ (sb rfl rfl rfl) rfl ?_
  refine RO (Body.adopt 5 2 174 rfl rfl) ?_
  refine RN ?_
  refine Ap rfl ?_
  refine NR ⟨[(0, vS (bsO s)), (4, .aref 5 0)], [(5, .arr 0 2 174 (List.map eF []))]⟩ (sb rfl rfl rfl) rfl ?_
  refine mv rfl ?_
  refine RO (Body.call (w116 hp s (by omega)) rfl rfl rfl) ?_
  refine RO (Body.lenL rfl un73) ?_
  refine mv rfl ?_
  refine RN ?_
  refine Ap rfl ?_
  refine TK.loop (α := Nat × Nat × List Fld) (fun x => ⟨[(4, .aref 5 x.2.1), (14, vL eN (splS s)), (15, vI ((List.length (splS s) : Nat) : Int)), (16, vI ((x.1 : Nat) : Int))], [(5, .arr x.2.1 2 174 (List.map eF x.2.2))]⟩) (fun x => x.1 ≤ List.length (splS s) ∧ List.length x.2.2 = x.1 ∧ parGo (splS s) = Option.map (fun r => x.2.2 ++ r) (parGo (List.drop x.1 (splS s))) ∧ (∀ f : Fld, f ∈ x.2.2 → List.length (Prod.snd f) ≤ List.length s)) (fun x => List.length (splS s) - x.1) (0, 0, []) ?_ (sb rfl rfl rfl) ?_
  · show 0 ≤ List.length (splS s) ∧ List.length [] = 0 ∧ parGo (splS s) = Option.map (fun r => [] ++ r) (parGo (List.drop 0 (splS s))) ∧ (∀ f : Fld, f ∈ [] → List.length (Prod.snd f) ≤ List.length s)
    exact ⟨Nat.zero_le _, rfl, by simp, fun f hf => by cases hf⟩
  rintro ⟨k, v, out⟩ hI0
  replace hI0 : k ≤ List.length (splS s) ∧ List.length out = k ∧ parGo (splS s) = Option.map (fun r => out ++ r) (parGo (List.drop k (splS s))) ∧ (∀ f : Fld, f ∈ out → List.length (Prod.snd f) ≤ List.length s) := hI0
  show TK _ _ _ _ _ _ ⟨[(4, .aref 5 v), (14, vL eN (splS s)), (15, vI ((List.length (splS s) : Nat) : Int)), (16, vI ((k : Nat) : Int))], [(5, .arr v 2 174 (List.map eF out))]⟩
  refine At rfl ?_
  refine NR ⟨[(4, .aref 5 v), (14, vL eN (splS s)), (15, vI ((List.length (splS s) : Nat) : Int)), (16, vI ((k : Nat) : Int))], [(5, .arr v 2 174 (List.map eF out))]⟩ (sb rfl rfl rfl) rfl ?_
  refine RO (Body.lss rfl rfl) ?_
  refine RN ?_
  refine Ap rfl ?_
  refine TK.norm ⟨[(4, .aref 5 v), (14, vL eN (splS s)), (15, vI ((List.length (splS s) : Nat) : Int)), (16, vI ((k : Nat) : Int)), (17, vB (decide (((k : Nat) : Int) < ((List.length (splS s) : Nat) : Int))))], [(5, .arr v 2 174 (List.map eF out))]⟩ (sb rfl rfl rfl) ?_
  refine TK.condP rfl (fun h2 => ?_) (fun h2 => ?_)
  ·
   refine At rfl ?_
   refine NR ⟨[(4, .aref 5 v), (14, vL eN (splS s)), (15, vI ((List.length (splS s) : Nat) : Int)), (16, vI ((k : Nat) : Int))], [(5, .arr v 2 174 (List.map eF out))]⟩ (sb rfl rfl rfl) rfl ?_
   refine RO (Body.idx (z := []) (i := k) rfl rfl un73 sz9 (fun _ => rfl) rfl (by first | omega | (have hc2 := hc; simp only [beq_iff_eq, decide_eq_true_eq, decide_eq_false_iff_not] at hc2; omega) | (simp only [List.length_append, List.length_cons, List.length_nil, List.length_take, List.length_drop]; omega))) ?_
   refine RO (Body.loadP rfl ag9 sz9) ?_
   refine ag rfl ?_
   refine RN ?_
   refine Ap rfl ?_
   refine TK.norm ⟨[(4, .aref 5 v), (6, vS (bsO (List.getD (splS s) k []))), (14, vL eN (splS s)), (15, vI ((List.length (splS s) : Nat) : Int)), (16, vI ((k : Nat) : Int))], [(5, .arr v 2 174 (List.map eF out))]⟩ (sb rfl rfl rfl) ?_
   have hpl := spl_part s [] _ (getD_mem (l := splS s) (k := k) (z := []) (by omega))
   simp only [List.length_nil, Nat.zero_add] at hpl
   refine TK.rg (Y := tab) mixed rfl ?_
   refine mv rfl ?_
   refine RO (Body.call (w117 hp (List.getD (splS s) k []) 61 (by omega)) rfl rfl rfl) ?_
   refine rn rfl ?_
   refine rn rfl ?_
   refine rn rfl ?_
   refine rn rfl ?_
   refine ag rfl ?_
   refine ag rfl ?_
   refine ag rfl ?_
   refine RN ?_
   refine Ap rfl ?_
   refine NR ⟨[(4, .aref 5 v), (7, vS (bsO (cut3 (List.getD (splS s) k []) 61).1)), (8, vS (bsO (cut3 (List.getD (splS s) k []) 61).2.1)), (9, vB (cut3 (List.getD (splS s) k []) 61).2.2), (14, vL eN (splS s)), (15, vI ((List.length (splS s) : Nat) : Int)), (16, vI ((k : Nat) : Int))], [(5, .arr v 2 174 (List.map eF out))]⟩ (sb rfl rfl rfl) rfl ?_
   refine mv rfl ?_
   refine RO (Body.not rfl) ?_
   refine RN ?_
   refine Ap rfl ?_
   refine TK.norm ⟨[(4, .aref 5 v), (7, vS (bsO (cut3 (List.getD (splS s) k []) 61).1)), (8, vS (bsO (cut3 (List.getD (splS s) k []) 61).2.1)), (14, vL eN (splS s)), (15, vI ((List.length (splS s) : Nat) : Int)), (16, vI ((k : Nat) : Int)), (27, vB (!(cut3 (List.getD (splS s) k []) 61).2.2))], [(5, .arr v 2 174 (List.map eF out))]⟩ (sb rfl rfl rfl) ?_
   refine TK.cond rfl (fun h3 => ?_) (fun h3 => ?_)
   ·
    refine At rfl ?_
    refine NR ⟨[], []⟩ (sb rfl rfl rfl) rfl ?_
    refine RO (Body.nilS (enc := eF) rfl) ?_
    refine ag rfl ?_
    refine RN ?_
    refine Ap rfl ?_
    refine TK.ret ?_
    refine PK.ret ?_
    refine leaf (val0 := .tup [vL eF [], vI 25]) (by kernel_rfl) ?_
    exact tup2 (lsl (by first
          | rw [parF_nil h1]
          | rw [parF_none h1 (par_none hI0.2.2.1 (by omega) ((cutP_cut3 _).2 (bnot_t h3)))]
          | rw [parF_bad h1 hpe (by assumption)]
          | rw [parF_ok h1 hpe (by assumption)])) (li (by first
          | rw [parF_nil h1]
          | rw [parF_none h1 (par_none hI0.2.2.1 (by omega) ((cutP_cut3 _).2 (bnot_t h3)))]
          | rw [parF_bad h1 hpe (by assumption)]
          | rw [parF_ok h1 hpe (by assumption)]))
   ·
    refine At rfl ?_
    refine NR ⟨[(4, .aref 5 v), (7, vS (bsO (cut3 (List.getD (splS s) k []) 61).1)), (8, vS (bsO (cut3 (List.getD (splS s) k []) 61).2.1)), (14, vL eN (splS s)), (15, vI ((List.length (splS s) : Nat) : Int)), (16, vI ((k : Nat) : Int))], [(5, .arr v 2 174 (List.map eF out))]⟩ (sb rfl rfl rfl) rfl ?_
    refine rn rfl ?_
    refine mv rfl ?_
    refine mv rfl ?_
    refine rn rfl ?_
    refine RO (Body.runZ (val := .pv (.slice (List.map eF [((cut3 (List.getD (splS s) k []) 61).1, (cut3 (List.getD (splS s) k []) 61).2.1)]))) rfl (fun l => Frz.arr l _ _ _ _ _) rfl) ?_
    refine RO (Body.append rfl rfl rfl un59 in174 rfl (fun _ => rfl) by174 (by first | omega | (have hc2 := hc; simp only [beq_iff_eq, decide_eq_true_eq, decide_eq_false_iff_not] at hc2; omega) | (simp only [List.length_append, List.length_cons, List.length_nil, List.length_take, List.length_drop]; omega))) ?_
    refine rn rfl ?_
    refine RN ?_
    refine Ap rfl ?_
    refine NR ⟨[(4, .aref 5 (v + 1)), (14, vL eN (splS s)), (15, vI ((List.length (splS s) : Nat) : Int)), (16, vI ((k : Nat) : Int))], [(5, .arr (v + 1) 2 174 (List.map eF (out ++ [((cut3 (List.getD (splS s) k []) 61).1, (cut3 (List.getD (splS s) k []) 61).2.1)])))]⟩ (sb rfl rfl rfl) rfl ?_
    refine RO (Body.add rfl rfl (by unfold R64; omega)) ?_
    refine mv rfl ?_
    refine RN ?_
    refine Aq rfl ?_
    refine PK.lp ?_
    refine LP.mk ((k + 1), (v + 1), (out ++ [((cut3 (List.getD (splS s) k []) 61).1, (cut3 (List.getD (splS s) k []) 61).2.1)])) ?_ ?_ (sb rfl rfl rfl)
    · show (k + 1) ≤ List.length (splS s) ∧ List.length (out ++ [((cut3 (List.getD (splS s) k []) 61).1, (cut3 (List.getD (splS s) k []) 61).2.1)]) = (k + 1) ∧ parGo (splS s) = Option.map (fun r => (out ++ [((cut3 (List.getD (splS s) k []) 61).1, (cut3 (List.getD (splS s) k []) 61).2.1)]) ++ r) (parGo (List.drop (k + 1) (splS s))) ∧ (∀ f : Fld, f ∈ (out ++ [((cut3 (List.getD (splS s) k []) 61).1, (cut3 (List.getD (splS s) k []) 61).2.1)]) → List.length (Prod.snd f) ≤ List.length s)
      refine ⟨by omega, by simp only [List.length_append, List.length_cons, List.length_nil]; omega, par_some hI0.2.2.1 (by omega) ((cutP_cut3 _).1 (bnot_f h3)), out_len hI0.2.2.2 hpl⟩
    · show List.length (splS s) - (k + 1) < List.length (splS s) - k
      omega
  ·
   refine At rfl ?_
   refine TK.exit ?_
   refine PK.exit rfl ?_
   refine Ap rfl ?_
   refine TK.norm ⟨[(4, .aref 5 v)], [(5, .arr v 2 174 (List.map eF out))]⟩ (sb rfl rfl rfl) ?_
   have hpe := par_end hI0.2.2.1 (by omega)
   have hcq : ∀ f ∈ out, f.2.length ≤ 1000000000000000 := fun f hf => Nat.le_trans (hI0.2.2.2 f hf) (by omega)
   refine TK.frz (t := 4) rfl rfl ?_
   refine NR ⟨[(4, vL eF out)], []⟩ (sb rfl rfl rfl) rfl ?_
   refine mv rfl ?_
   refine RO (Body.call (w41 out (by omega) hcq) rfl rfl rfl) ?_
   refine ag rfl ?_
   refine RN ?_
   refine Ap rfl ?_
   refine NR ⟨[(4, vL eF out), (10, vI (chkFl out))], []⟩ (sb rfl rfl rfl) rfl ?_
   refine mv rfl ?_
   refine RO (Body.neq rfl rfl) ?_
   refine RN ?_
   refine Ap rfl ?_
   refine TK.norm ⟨[(4, vL eF out), (10, vI (chkFl out)), (38, vB (decide ((chkFl out) ≠ 0)))], []⟩ (sb rfl rfl rfl) ?_
   refine TK.condP rfl (fun h4 => ?_) (fun h4 => ?_)
   ·
    refine At rfl ?_
    refine NR ⟨[(10, vI (chkFl out))], []⟩ (sb rfl rfl rfl) rfl ?_
    refine mv rfl ?_
    refine RO (Body.nilS (enc := eF) rfl) ?_
    refine ag rfl ?_
    refine RN ?_
    refine Ap rfl ?_
    refine TK.ret ?_
    refine PK.ret ?_
    refine leaf (val0 := .tup [vL eF [], vI (chkFl out)]) (by kernel_rfl) ?_
    exact tup2 (lsl (by first
          | rw [parF_nil h1]
          | rw [parF_none h1 (par_none hI0.2.2.1 (by omega) ((cutP_cut3 _).2 (bnot_t h3)))]
          | rw [parF_bad h1 hpe (by assumption)]
          | rw [parF_ok h1 hpe (by assumption)])) (li (by first
          | rw [parF_nil h1]
          | rw [parF_none h1 (par_none hI0.2.2.1 (by omega) ((cutP_cut3 _).2 (bnot_t h3)))]
          | rw [parF_bad h1 hpe (by assumption)]
          | rw [parF_ok h1 hpe (by assumption)]))
   ·
    refine At rfl ?_
    refine NR ⟨[(4, vL eF out)], []⟩ (sb rfl rfl rfl) rfl ?_
    refine mv rfl ?_
    refine ag rfl ?_
    refine ag rfl ?_
    refine RN ?_
    refine Ap rfl ?_
    refine TK.ret ?_
    refine PK.ret ?_
    refine leaf (val0 := .tup [vL eF out, vI 0]) (by kernel_rfl) ?_
    exact tup2 (lsl (by first
          | rw [parF_nil h1]
          | rw [parF_none h1 (par_none hI0.2.2.1 (by omega) ((cutP_cut3 _).2 (bnot_t h3)))]
          | rw [parF_bad h1 hpe (by assumption)]
          | rw [parF_ok h1 hpe (by assumption)])) (li (by first
          | rw [parF_nil h1]
          | rw [parF_none h1 (par_none hI0.2.2.1 (by omega) ((cutP_cut3 _).2 (bnot_t h3)))]
          | rw [parF_bad h1 hpe (by assumption)]
          | rw [parF_ok h1 hpe (by assumption)]))
end Go.Lens.Tm
end
section
namespace Go.Lens.Tb
set_option linter.unusedSectionVars false
def badB (start : Int) (W : List Int) (t : Tgt) (e : Int) : Int := firstF [chkNightF start W, chkTgtsF [t], withinF e 0 1440]
def begT (start : Int) (W : List Int) (t : Tgt) (e : Int) : Int := if badB start W t e ≠ 0 then 0 else if begF W t e < 0 then 0 else begF W t e
def begE (start : Int) (W : List Int) (t : Tgt) (e : Int) : Int := if badB start W t e ≠ 0 then badB start W t e else if begF W t e < 0 then 7 else 0
def badT (start : Int) (W : List Int) (l : List Tgt) (o : List Int) : Int := firstF [chkNightF start W, chkTgtsF l, chkOrdF l.length o]
def tlT (start : Int) (W : List Int) (l : List Tgt) (o : List Int) : List Int := if badT start W l o ≠ 0 then [] else (tlF start W l o).getD []
def tlE (start : Int) (W : List Int) (l : List Tgt) (o : List Int) : Int := if badT start W l o ≠ 0 then badT start W l o else (bif (tlF start W l o).isSome then 0 else 23)
def afterF (start : Int) (l : List Tgt) (o : List Int) (b : Int) (t : Tgt) : Int := if o.length = 0 then start else b + (l.getD (o.getD (o.length - 1) 0).toNat default).length + apartF (l.getD (o.getD (o.length - 1) 0).toNat default).place t.place
end Go.Lens.Tb
end
section
namespace Go.Lens.Tb
open Go.Proofs
variable [Lz]
set_option linter.unusedSectionVars false
set_option maxRecDepth 100000
attribute [local irreducible] TK PK T RG EfR Body
end Go.Lens.Tb
end
section
namespace Go.Lens.Tb
set_option linter.unusedSectionVars false
def atB (start : Int) (l : List Tgt) (o : List Int) (i : Nat) (b : Int) : Int := if i = 0 then start else b + (l.getD (o.getD (i - 1) 0).toNat default).length
end Go.Lens.Tb
end
section
namespace Go.Lens.Tb
open Go.Proofs
variable [Lz]
set_option linter.unusedSectionVars false
set_option maxRecDepth 100000
attribute [local irreducible] TK PK T RG EfR Body
end Go.Lens.Tb
end
section
namespace Go.Lens.Tb
set_option linter.unusedSectionVars false
section
variable {start : Int} {W : List Int} {l : List Tgt} {o : List Int} {t : Tgt} {e : Int}
end
end Go.Lens.Tb
end
section
namespace Go.Lens.Tb
open Go.Proofs
structure Ch where
 order : List Int
 bright : Int
 end_ : Int
section
variable (S : Int) (W : List Int) (l : List Tgt)
def endF (o : List Int) (b : Int) : Int := if o.length = 0 then S else b + (l.getD (o.getD (o.length - 1) 0).toNat default).length
def betC (a c : Ch) : Bool := decide (c.bright < a.bright) || (decide (a.bright = c.bright) && decide (a.end_ < c.end_))
def updC (o : List Int) (b br : Int) (c : Ch) : Ch := bif betC ⟨o, br, endF S l o b⟩ c then ⟨o, br, endF S l o b⟩ else c
def nxtB (o : List Int) (b : Int) (i : Nat) : Int := begF W (l.getD i default) (afterF S l o b (l.getD i default))
def stepC (R : List Int → Int → Int → Ch → Ch) (o : List Int) (b br : Int) (i : Nat) (c : Ch) : Ch :=
 bif o.any (fun j => decide (j = (i : Int))) then c else if nxtB S W l o b i < 0 then c else R (o ++ [(i : Int)]) (nxtB S W l o b i) (br + (l.getD i default).bright) c
def loopC (R : List Int → Int → Int → Ch → Ch) (o : List Int) (b br : Int) (c : Ch) : Nat → Ch
 | 0 => c
 | k + 1 => stepC S W l R o b br k (loopC R o b br c k)
def recC : Nat → List Int → Int → Int → Ch → Ch
 | 0, _, _, _, c => c
 | n + 1, o, b, br, c => loopC S W l (recC n) o b br (updC S l o b br c) l.length
def lastD (r : List Int) : Int := r.getD (r.length - 1) 0
def brightS : List Int → Int
 | [] => 0
 | j :: o => (l.getD j.toNat default).bright + brightS o
def refC (n : Nat) (o : List Int) (c : Ch) : Ch := match tlF S W l o with
 | none => c
 | some r => recC S W l n o (lastD r) (brightS l o) c
def gdO (o : List Int) : Prop := o.Nodup ∧ ∀ i ∈ o, 0 ≤ i ∧ i < (l.length : Int)
end
def lastP (l : List Tgt) (prev : Option Tgt) (o : List Int) : Option Tgt := if o.length = 0 then prev else some (l.getD (o.getD (o.length - 1) 0).toNat default)
def lastA (l : List Tgt) (a : Int) (o r : List Int) : Int := if o.length = 0 then a else lastD r + (l.getD (o.getD (o.length - 1) 0).toNat default).length
def badP (S : Int) (W : List Int) (l : List Tgt) : Int := firstF [chkNightF S W, chkTgtsF l, whenF (decide (8 < (l.length : Int))) 22]
def planC (S : Int) (W : List Int) (l : List Tgt) : Ch := recC S W l (l.length + 1) [] 0 0 ⟨[], 0, S⟩
end Go.Lens.Tb
end
section
namespace Go.Lens.Tb
open Go.Proofs
set_option linter.unusedSectionVars false
theorem TK.condJ [Lz] {P : Program} {n nb : Nat} {Q : Exit → St → Prop} {s : St} {x x' y : Code} {K M : List Fr} {o : Operand} {b : Bool} (S : St) (hc : evS s o = lit (.bool b)) (e : adv 40 (.p K) = .t y M)
  (hx : b = true → TK P n nb Q x (.lp (fun s' => Sub nb s' S) :: K) s) (hy : b = false → TK P n nb Q x' (.lp (fun s' => Sub nb s' S) :: K) s) (k : TK P n nb Q y M S) : TK P n nb Q (.cond o x x') K s := by
 have conv : ∀ e s', PK P n nb Q (.lp (fun s' => Sub nb s' S) :: K) e s' → PK P n nb Q K e s' := by
  intro e1 s' h
  cases e1 with
  | normal =>
   have h' : Sub nb s' S := h
   exact Ap e (TK.norm S h' k)
  | _ => exact h
 exact T.cond hc (fun h => T.mono (hx h) conv) (fun h => T.mono (hy h) conv)
section
variable {S : Int} {W : List Int} {l : List Tgt} {R : List Int → Int → Int → Ch → Ch} {o : List Int} {b br : Int} {i : Nat} {c : Ch}
end
def endK (S : Int) (l : List Tgt) (o r : List Int) (k : Nat) : Int := if k = 0 then S else r.getD (k - 1) 0 + (l.getD (o.getD (k - 1) 0).toNat default).length
end Go.Lens.Tb
end
section
namespace Go.Lens.Tm
open Go.Lens.Tb Go.Proofs
set_option linter.unusedSectionVars false
variable [Lz]
def joinF : List (List UInt8) → List UInt8
 | [] => []
 | w :: r => w ++ r.flatMap fun x => 32 :: x
def JoinOk : Prop := ∀ ws : List (List UInt8), ws.length ≤ 1000 → (∀ w ∈ ws, w.length ≤ 1000) → CallOk Tryz.prog 169 [vL eN ws, vS (bsO [32])] (lookM []) (vS (bsO (joinF ws))) []
theorem join_snoc (l : List (List UInt8)) (w : List UInt8) (h : l ≠ []) : joinF (l ++ [w]) = joinF l ++ 32 :: w := by
 cases l with
 | nil => exact absurd rfl h
 | cons a l => simp [joinF]
theorem join_prt (l : List Fld) : ∀ k, k ≤ l.length → joinF ((l.take k).map fldP) = prtK l k
 | 0, _ => rfl
 | k + 1, hk => by
  have ih := join_prt l k (by omega)
  rw [take_fld l k (by omega), List.map_append, List.map_cons, List.map_nil]
  simp only [prtK]
  by_cases h0 : 0 < k
  ·rw [join_snoc _ _ (by
     intro e
     have := congrArg List.length e
     rw [List.length_map, List.length_take, List.length_nil] at this
     omega), ih, decide_eq_true h0]
   simp [fldP]
  ·have : k = 0 := by omega
   subst this
   simp [joinF, fldP, prtK]
theorem join_all (l : List Fld) : joinF (l.map fldP) = prtF l := by
 have := join_prt l l.length (Nat.le_refl _)
 rwa [List.take_of_length_le (Nat.le_refl _)] at this
theorem words_le {l : List Fld} (h : l.length ≤ 26 ∧ ∀ f ∈ l, f.1.length ≤ 60 ∧ f.2.length ≤ 100) : ∀ w ∈ l.map fldP, w.length ≤ 1000 := by
 intro w hw
 obtain ⟨f, hf, rfl⟩ := List.mem_map.1 hw
 have := h.2 f hf
 simp only [fldP, List.length_append, List.length_cons, List.length_nil]; omega
def prtX (l : List Fld) : List UInt8 := if chkFl l = 0 then prtF l else []
theorem prtX_ok {l : List Fld} (h : chkFl l = 0) : prtX l = prtF l := by unfold prtX; exact if_pos h
theorem prtX_no {l : List Fld} (h : chkFl l ≠ 0) : prtX l = [] := by unfold prtX; exact if_neg h
theorem shortF_all {l : List Fld} {n : Int} (h : shortF l n = true) : l.length ≤ 26 ∧ ∀ f ∈ l, f.1.length ≤ 60 ∧ f.2.length ≤ 100 := by
 unfold shortF at h
 cases hq : ((decide (n < (l.length : Int)) && decide ((l.length : Int) ≤ 24)) || decide (26 < (l.length : Int))) with
 | true => rw [hq] at h; cases h
 | false =>
  rw [hq, cond_false, List.all_eq_true] at h
  simp only [Bool.or_eq_false_iff, decide_eq_false_iff_not] at hq
  refine ⟨by omega, fun f hf => ?_⟩
  have := h f hf
  simpa using this
theorem short_small {l : List Fld} (h : l.length ≤ 26 ∧ ∀ f ∈ l, f.1.length ≤ 60 ∧ f.2.length ≤ 100) : Small l := ⟨by omega, fun f hf => by have := h.2 f hf; omega⟩
theorem parF_cases (s : List UInt8) : (parF s).1 = [] ∨ chkFl (parF s).1 = 0 := by
 unfold parF
 split
 ·exact .inl rfl
 ·split
  ·exact .inl rfl
  ·rename_i l _
   by_cases hq : chkFl l = 0
   ·right
    show chkFl (if chkFl l = 0 then (l, 0) else ([], chkFl l)).1 = 0
    rw [if_pos hq]; exact hq
   ·left
    show (if chkFl l = 0 then (l, 0) else ([], chkFl l)).1 = []
    rw [if_neg hq]
theorem parF_fit (s : List UInt8) : (parF s).1.length ≤ 26 ∧ ∀ f ∈ (parF s).1, f.1.length ≤ 60 ∧ f.2.length ≤ 100 := by
 rcases parF_cases s with h | h
 ·rw [h]; exact ⟨by simp, fun f hf => by cases hf⟩
 ·obtain ⟨h1, h2⟩ := chk_parts h
  refine ⟨by omega, fun f hf => ?_⟩
  obtain ⟨j, hj, rfl⟩ := mem_getD ([], []) hf
  have := chkF_len (h2 j hj).1
  omega
theorem rm_len (B M T : List Fld) : ∀ L, (rmGo B M T L).2.length ≤ L.length
 | [] => Nat.le_refl _
 | x :: L => by
  have := rm_len B M T L
  simp only [rmGo]
  split
  ·simp only [List.length_cons]; omega
  ·simp only [List.length_cons]; omega
theorem mf_len (e : Int) (B M T : List Fld) (h : B.length ≤ 26 ∧ M.length ≤ 26 ∧ T.length ≤ 26) : (mfG e (refM B M T)).1.length ≤ 24 ∧ (mfG e (refM B M T)).2.1.length ≤ 1000 := by
 have h1 := rm_len B M T (refNm (B ++ M ++ T))
 have h2 := nmK_len (B ++ M ++ T) (B ++ M ++ T).length (Nat.le_refl _)
 rw [List.take_of_length_le (Nat.le_refl _)] at h2
 simp only [List.length_append] at h2
 have h3 : (refM B M T).2.length ≤ 1000 := by
  unfold refM
  split
  ·show (rmGo B M T (refNm (B ++ M ++ T))).2.length ≤ 1000
   omega
  ·simp
 unfold mfG
 split
 ·simp
 ·split
  ·exact ⟨by simp, h3⟩
  ·split
   ·simp
   ·rename_i hq
    exact ⟨by show (refM B M T).1.length ≤ 24; omega, by simp⟩
theorem nf_early {b m : List Fld} {s : List UInt8} (h : (bif (bif (!(shortF b 8)) then true else (!(shortF m 8))) then true else (decide (300 < ((List.length s : Nat) : Int)))) = false) : shortF b 8 = true ∧ shortF m 8 = true ∧ s.length ≤ 300 := by
 simp only [bif_or, Bool.or_eq_false_iff, Bool.not_eq_false', decide_eq_false_iff_not] at h
 exact ⟨h.1.1, h.1.2, by omega⟩
end Go.Lens.Tm
end
section
namespace Go.Lens.Tm
open Go.Lens.Tb Go.Proofs
variable [Lz]
set_option linter.unusedSectionVars false
set_option maxRecDepth 100000
attribute [local irreducible] TK PK T RG EfR Body
set_option maxHeartbeats 4000000 in
theorem w115 (hj : JoinOk) (l : List Fld) (hb : l.length ≤ 26 ∧ ∀ f ∈ l, f.1.length ≤ 60 ∧ f.2.length ≤ 100) : CallOk Tryz.prog 115 [vL eF l] (lookM []) (vS (bsO (prtF l))) [] := by
 haveI := tab_ok
 obtain ⟨fn, f1, f2, f3, f4, _, f6⟩ := qf115
 refine callOk_of (Y := tab) (F := fn115) f1 (f2.trans rfl) f3 f4 f6 (Nat.le_of_ble_eq_true rfl) rfl ?_
 clear f1 f2 f3 f4 f6
 show TK _ _ _ _ _ _ ⟨[(0, vL eF l)], []⟩
 refine At rfl ?_
 refine NR ⟨[(0, vL eF l)], []⟩ (sb rfl rfl rfl) rfl ?_
 refine ag rfl ?_
 refine RN ?_
 refine Ap rfl ?_
 refine NR ⟨[(0, vL eF l)], []⟩ (sb rfl rfl rfl) rfl ?_
 refine RO (Body.adopt 4 1 9 rfl rfl) ?_
 refine RN ?_
 refine Ap rfl ?_
 refine NR ⟨[(0, vL eF l), (3, .aref 4 0)], [(4, .arr 0 1 9 (List.map eN []))]⟩ (sb rfl rfl rfl) rfl ?_
 refine mv rfl ?_
 refine RO (Body.lenL rfl un59) ?_
 refine mv rfl ?_
 refine RN ?_
 refine Ap rfl ?_
 refine TK.loop (α := Nat × Nat × List (List UInt8)) (fun x => ⟨[(3, .aref 4 x.2.1), (6, vL eF l), (7, vI ((List.length l : Nat) : Int)), (8, vI ((x.1 : Nat) : Int))], [(4, .arr x.2.1 1 9 (List.map eN x.2.2))]⟩) (fun x => x.1 ≤ List.length l ∧ List.length x.2.2 = x.1 ∧ x.2.2 = List.map fldP (List.take x.1 l)) (fun x => List.length l - x.1) (0, 0, []) ?_ (sb rfl rfl rfl) ?_
 · show 0 ≤ List.length l ∧ List.length [] = 0 ∧ [] = List.map fldP (List.take 0 l)
   exact ⟨Nat.zero_le _, rfl, rfl⟩
 rintro ⟨k, v, out⟩ hI0
 replace hI0 : k ≤ List.length l ∧ List.length out = k ∧ out = List.map fldP (List.take k l) := hI0
 show TK _ _ _ _ _ _ ⟨[(3, .aref 4 v), (6, vL eF l), (7, vI ((List.length l : Nat) : Int)), (8, vI ((k : Nat) : Int))], [(4, .arr v 1 9 (List.map eN out))]⟩
 refine At rfl ?_
 refine NR ⟨[(3, .aref 4 v), (6, vL eF l), (7, vI ((List.length l : Nat) : Int)), (8, vI ((k : Nat) : Int))], [(4, .arr v 1 9 (List.map eN out))]⟩ (sb rfl rfl rfl) rfl ?_
 refine RO (Body.lss rfl rfl) ?_
 refine RN ?_
 refine Ap rfl ?_
 refine TK.norm ⟨[(3, .aref 4 v), (6, vL eF l), (7, vI ((List.length l : Nat) : Int)), (8, vI ((k : Nat) : Int)), (9, vB (decide (((k : Nat) : Int) < ((List.length l : Nat) : Int))))], [(4, .arr v 1 9 (List.map eN out))]⟩ (sb rfl rfl rfl) ?_
 refine TK.condP rfl (fun h1 => ?_) (fun h1 => ?_)
 ·
  refine At rfl ?_
  refine NR ⟨[(3, .aref 4 v), (6, vL eF l), (7, vI ((List.length l : Nat) : Int)), (8, vI ((k : Nat) : Int))], [(4, .arr v 1 9 (List.map eN out))]⟩ (sb rfl rfl rfl) rfl ?_
  refine RO (Body.idx (z := ([], [])) (i := k) rfl rfl un59 sz174 (fun _ => rfl) rfl (by first | omega | (have hc2 := hc; simp only [beq_iff_eq, decide_eq_true_eq, decide_eq_false_iff_not] at hc2; omega) | (simp only [List.length_append, List.length_cons, List.length_nil, List.length_take, List.length_drop]; omega))) ?_
  refine RO (Body.loadA (ds := [pS (bsO (Prod.fst (List.getD l k ([], [])))), pS (bsO (Prod.snd (List.getD l k ([], []))))]) rfl ag174 sz174 (Nat.le_of_ble_eq_true rfl) rfl) ?_
  refine rn rfl ?_
  refine rn rfl ?_
  refine RN ?_
  refine Ap rfl ?_
  refine TK.norm ⟨[(3, .aref 4 v), (5, .bref 6 0), (6, vL eF l), (7, vI ((List.length l : Nat) : Int)), (8, vI ((k : Nat) : Int))], [(4, .arr v 1 9 (List.map eN out)), (6, .box 174 [vS (bsO (Prod.fst (List.getD l k ([], [])))), vS (bsO (Prod.snd (List.getD l k ([], []))))])]⟩ (sb rfl rfl rfl) ?_
  have hkb := hb.2 _ (getD_mem (l := l) (k := k) (z := ([], [])) (by omega))
  refine TK.rg (Y := tab) mixed rfl ?_
  refine rn rfl ?_
  refine RO (Body.fadB rfl fa174_0 rfl) ?_
  refine RO (Body.loadB rfl rfl rfl ag9 sz9 rfl) ?_
  refine RO (Body.catB (a := (Prod.fst (List.getD l k ([], [])))) (b := [61]) rfl rfl (by first | omega | (simp only [List.length_append, List.length_cons, List.length_nil]; omega))) ?_
  refine RO (Body.fadB rfl fa174_1 rfl) ?_
  refine RO (Body.loadB rfl rfl rfl ag9 sz9 rfl) ?_
  refine RO (Body.catB (a := ((Prod.fst (List.getD l k ([], []))) ++ [61])) (b := (Prod.snd (List.getD l k ([], [])))) rfl rfl (by first | omega | (simp only [List.length_append, List.length_cons, List.length_nil]; omega))) ?_
  refine RO (Body.runZ (val := .pv (.slice (List.map eN [(((Prod.fst (List.getD l k ([], []))) ++ [61]) ++ (Prod.snd (List.getD l k ([], []))))]))) rfl (fun l => Frz.arr l _ _ _ _ _) rfl) ?_
  refine RO (Body.append rfl rfl rfl un73 in9 rfl (fun _ => rfl) by9 (by first | omega | (have hc2 := hc; simp only [beq_iff_eq, decide_eq_true_eq, decide_eq_false_iff_not] at hc2; omega) | (simp only [List.length_append, List.length_cons, List.length_nil, List.length_take, List.length_drop]; omega))) ?_
  refine rn rfl ?_
  refine RN ?_
  refine Ap rfl ?_
  refine NR ⟨[(3, .aref 4 (v + 1)), (6, vL eF l), (7, vI ((List.length l : Nat) : Int)), (8, vI ((k : Nat) : Int))], [(4, .arr (v + 1) 1 9 (List.map eN (out ++ [(((Prod.fst (List.getD l k ([], []))) ++ [61]) ++ (Prod.snd (List.getD l k ([], []))))])))]⟩ (sb rfl rfl rfl) rfl ?_
  refine RO (Body.add rfl rfl (by unfold R64; omega)) ?_
  refine mv rfl ?_
  refine RN ?_
  refine Aq rfl ?_
  refine PK.lp ?_
  refine LP.mk ((k + 1), (v + 1), (out ++ [(((Prod.fst (List.getD l k ([], []))) ++ [61]) ++ (Prod.snd (List.getD l k ([], []))))])) ?_ ?_ (sb rfl rfl rfl)
  · show (k + 1) ≤ List.length l ∧ List.length (out ++ [(((Prod.fst (List.getD l k ([], []))) ++ [61]) ++ (Prod.snd (List.getD l k ([], []))))]) = (k + 1) ∧ (out ++ [(((Prod.fst (List.getD l k ([], []))) ++ [61]) ++ (Prod.snd (List.getD l k ([], []))))]) = List.map fldP (List.take (k + 1) l)
    refine ⟨by omega, by simp only [List.length_append, List.length_cons, List.length_nil]; omega, ?_⟩; rw [take_fld l k (by omega), List.map_append, hI0.2.2]; rfl
  · show List.length l - (k + 1) < List.length l - k
    omega
 ·
  refine At rfl ?_
  refine TK.exit ?_
  refine PK.exit rfl ?_
  refine Ap rfl ?_
  refine TK.norm ⟨[(3, .aref 4 v)], [(4, .arr v 1 9 (List.map eN out))]⟩ (sb rfl rfl rfl) ?_
  have hou : out = l.map fldP := by rw [hI0.2.2, List.take_of_length_le (by omega)]
  have hjw : ∀ w ∈ out, w.length ≤ 1000 := by rw [hou]; exact words_le hb
  refine TK.frz (t := 3) rfl rfl ?_
  refine NR ⟨[(3, vL eN out)], []⟩ (sb rfl rfl rfl) rfl ?_
  refine mv rfl ?_
  refine RO (Body.call (hj out (by omega) hjw) rfl rfl rfl) ?_
  refine ag rfl ?_
  refine RN ?_
  refine Ap rfl ?_
  refine TK.ret ?_
  refine PK.ret ?_
  refine leaf (val0 := vS (bsO (joinF out))) (by kernel_rfl) ?_
  exact ls (by rw [hou, join_all l])
set_option maxHeartbeats 4000000 in
theorem w36 (hj : JoinOk) (l : List Fld) (hb : l.length ≤ 26 ∧ ∀ f ∈ l, f.1.length ≤ 60 ∧ f.2.length ≤ 100) : CallOk Tryz.prog 36 [vL eF l] (lookM []) (.tup [vS (bsO (prtX l)), vI (chkFl l)]) [] := by
 haveI := tab_ok
 obtain ⟨fn, f1, f2, f3, f4, _, f6⟩ := qf36
 refine callOk_of (Y := tab) (F := fn36) f1 (f2.trans rfl) f3 f4 f6 (Nat.le_of_ble_eq_true rfl) rfl ?_
 clear f1 f2 f3 f4 f6
 show TK _ _ _ _ _ _ ⟨[(0, vL eF l)], []⟩
 refine At rfl ?_
 refine NR ⟨[(0, vL eF l)], []⟩ (sb rfl rfl rfl) rfl ?_
 refine ag rfl ?_
 refine ag rfl ?_
 refine RN ?_
 refine Ap rfl ?_
 refine NR ⟨[(0, vL eF l)], []⟩ (sb rfl rfl rfl) rfl ?_
 refine mv rfl ?_
 refine RO (Body.call (w41 l (by omega) (fun f hf => by have := hb.2 f hf; omega)) rfl rfl rfl) ?_
 refine ag rfl ?_
 refine RN ?_
 refine Ap rfl ?_
 refine NR ⟨[(0, vL eF l), (4, vI (chkFl l))], []⟩ (sb rfl rfl rfl) rfl ?_
 refine mv rfl ?_
 refine RO (Body.neq rfl rfl) ?_
 refine RN ?_
 refine Ap rfl ?_
 refine TK.norm ⟨[(0, vL eF l), (4, vI (chkFl l)), (8, vB (decide ((chkFl l) ≠ 0)))], []⟩ (sb rfl rfl rfl) ?_
 refine TK.condP rfl (fun h1 => ?_) (fun h1 => ?_)
 ·
  refine At rfl ?_
  refine NR ⟨[(4, vI (chkFl l))], []⟩ (sb rfl rfl rfl) rfl ?_
  refine mv rfl ?_
  refine ag rfl ?_
  refine ag rfl ?_
  refine RN ?_
  refine Ap rfl ?_
  refine TK.ret ?_
  refine PK.ret ?_
  refine leaf (val0 := .tup [vS (bsO []), vI (chkFl l)]) (by kernel_rfl) ?_
  exact tup2 (ls (by first | rw [prtX_no h1] | rw [prtX_ok (Decidable.not_not.1 h1)] | exact (Decidable.not_not.1 h1).symm)) (rfl)
 ·
  refine At rfl ?_
  refine NR ⟨[(0, vL eF l)], []⟩ (sb rfl rfl rfl) rfl ?_
  refine mv rfl ?_
  refine RO (Body.call (w115 hj l hb) rfl rfl rfl) ?_
  refine ag rfl ?_
  refine ag rfl ?_
  refine RN ?_
  refine Ap rfl ?_
  refine TK.ret ?_
  refine PK.ret ?_
  refine leaf (val0 := .tup [vS (bsO (prtF l)), vI 0]) (by kernel_rfl) ?_
  exact tup2 (ls (by first | rw [prtX_no h1] | rw [prtX_ok (Decidable.not_not.1 h1)] | exact (Decidable.not_not.1 h1).symm)) (li (by first | rw [prtX_no h1] | rw [prtX_ok (Decidable.not_not.1 h1)] | exact (Decidable.not_not.1 h1).symm))
set_option maxHeartbeats 4000000 in
theorem w5 (ha : CallOk Tryz.prog 19 [] (lookM []) (.pv (.lit (.bool true))) []) (hp : PowLaid) (hj : JoinOk) (b m : List Fld) (s : List UInt8) (hl1 : b.length * 32 ≤ 140737488355328) (hl2 : m.length * 32 ≤ 140737488355328) : CallOk Tryz.prog 5 [vL eF b, vL eF m, vS (bsO s)] (lookM []) (vB true) [] := by
 haveI := tab_ok
 obtain ⟨fn, f1, f2, f3, f4, _, f6⟩ := qf5
 refine callOk_of (Y := tab) (F := fn5) f1 (f2.trans rfl) f3 f4 f6 (Nat.le_of_ble_eq_true rfl) rfl ?_
 clear f1 f2 f3 f4 f6
 show TK _ _ _ _ _ _ ⟨[(0, vL eF b), (1, vL eF m), (2, vS (bsO s))], []⟩
 refine At rfl ?_
 refine NR ⟨[(0, vL eF b), (1, vL eF m), (2, vS (bsO s))], []⟩ (sb rfl rfl rfl) rfl ?_
 refine ag rfl ?_
 refine RN ?_
 refine Ap rfl ?_
 refine NR ⟨[(0, vL eF b), (1, vL eF m), (2, vS (bsO s))], []⟩ (sb rfl rfl rfl) rfl ?_
 refine mv rfl ?_
 refine RO (Body.call (w34 b (by omega)) rfl rfl rfl) ?_
 refine mv rfl ?_
 refine RO (Body.call (w34 m (by omega)) rfl rfl rfl) ?_
 refine ag rfl ?_
 refine ag rfl ?_
 refine RN ?_
 refine Ap rfl ?_
 refine NR ⟨[(0, vL eF b), (1, vL eF m), (2, vS (bsO s)), (7, vL eF b), (8, vL eF m)], []⟩ (sb rfl rfl rfl) rfl ?_
 refine mv rfl ?_
 refine RO (Body.call (w35 b 8 (by omega)) rfl rfl rfl) ?_
 refine RO (Body.not rfl) ?_
 refine mv rfl ?_
 refine RG.cons (EfR.sym rfl (fun hc => Body.move rfl) rfl) ?_
 refine RG.cons (EfR.sym rfl (fun hc => Body.call (w35 m 8 (by omega)) rfl (ds2 (ev1_gd rfl hc) rfl) rfl) rfl) ?_
 refine RG.cons (EfR.sym rfl (fun hc => Body.not (ev1_gd rfl hc)) rfl) ?_
 refine RO (Body.pick rfl rfl rfl rfl (gdB rfl) (pick_or _)) ?_
 refine mv rfl ?_
 refine RG.cons (EfR.sym rfl (fun hc => Body.move rfl) rfl) ?_
 refine RG.cons (EfR.sym rfl (fun hc => Body.lenB (a := s) (ev1_gd rfl hc) un9) rfl) ?_
 refine RG.cons (EfR.sym rfl (fun hc => Body.gtr (ev1_gd rfl hc) rfl) rfl) ?_
 refine RO (Body.pick rfl rfl rfl rfl (gdB rfl) (pick_or _)) ?_
 refine RN ?_
 refine Ap rfl ?_
 refine TK.norm ⟨[(0, vL eF b), (1, vL eF m), (2, vS (bsO s)), (7, vL eF b), (8, vL eF m), (39, vB (bif (bif (!(shortF b 8)) then true else (!(shortF m 8))) then true else (decide (300 < ((List.length s : Nat) : Int)))))], []⟩ (sb rfl rfl rfl) ?_
 refine TK.cond rfl (fun h1 => ?_) (fun h1 => ?_)
 ·
  refine At rfl ?_
  refine NR ⟨[], []⟩ (sb rfl rfl rfl) rfl ?_
  refine RO (Body.call (ha) rfl rfl rfl) ?_
  refine ag rfl ?_
  refine RN ?_
  refine Ap rfl ?_
  refine TK.ret ?_
  refine PK.ret ?_
  refine leaf (val0 := vB true) (by kernel_rfl) ?_
  exact rfl
 ·
  refine At rfl ?_
  refine TK.norm ⟨[(0, vL eF b), (1, vL eF m), (2, vS (bsO s)), (7, vL eF b), (8, vL eF m)], []⟩ (sb rfl rfl rfl) ?_
  obtain ⟨hsb, hsm, hs300⟩ := nf_early h1
  have hfb := shortF_all hsb
  have hfm := shortF_all hsm
  have hfs := parF_fit s
  have hb26 := hfb.1
  have hm26 := hfm.1
  have hs26 := hfs.1
  refine TK.rg (Y := tab) mixed rfl ?_
  refine mv rfl ?_
  refine RO (Body.call (w36 hj b hfb) rfl rfl rfl) ?_
  refine rn rfl ?_
  refine rn rfl ?_
  refine rn rfl ?_
  refine ag rfl ?_
  refine ag rfl ?_
  refine RN ?_
  refine Ap rfl ?_
  refine NR ⟨[(0, vL eF b), (1, vL eF m), (2, vS (bsO s)), (7, vL eF b), (8, vL eF m), (9, vS (bsO (prtX b))), (10, vI (chkFl b))], []⟩ (sb rfl rfl rfl) rfl ?_
  refine mv rfl ?_
  refine RO (Body.call (w37 hp s (by omega)) rfl rfl rfl) ?_
  refine rn rfl ?_
  refine rn rfl ?_
  refine rn rfl ?_
  refine ag rfl ?_
  refine ag rfl ?_
  refine RN ?_
  refine Ap rfl ?_
  refine NR ⟨[(0, vL eF b), (1, vL eF m), (2, vS (bsO s)), (7, vL eF b), (8, vL eF m), (9, vS (bsO (prtX b))), (10, vI (chkFl b)), (11, vL eF (parF s).1), (12, vI (parF s).2)], []⟩ (sb rfl rfl rfl) rfl ?_
  refine mv rfl ?_
  refine RO (Body.call (w38 b (by omega)) rfl rfl rfl) ?_
  refine ag rfl ?_
  refine RN ?_
  refine Ap rfl ?_
  refine NR ⟨[(0, vL eF b), (1, vL eF m), (2, vS (bsO s)), (7, vL eF b), (8, vL eF m), (9, vS (bsO (prtX b))), (10, vI (chkFl b)), (11, vL eF (parF s).1), (12, vI (parF s).2), (13, vI (chkFl b))], []⟩ (sb rfl rfl rfl) rfl ?_
  refine ag rfl ?_
  refine RN ?_
  refine Ap rfl ?_
  refine NR ⟨[(0, vL eF b), (1, vL eF m), (2, vS (bsO s)), (7, vL eF b), (8, vL eF m), (9, vS (bsO (prtX b))), (10, vI (chkFl b)), (11, vL eF (parF s).1), (12, vI (parF s).2), (13, vI (chkFl b)), (14, vS (bsO []))], []⟩ (sb rfl rfl rfl) rfl ?_
  refine mv rfl ?_
  refine RO (Body.eql rfl rfl) ?_
  refine RN ?_
  refine Ap rfl ?_
  refine TK.norm ⟨[(0, vL eF b), (1, vL eF m), (2, vS (bsO s)), (7, vL eF b), (8, vL eF m), (9, vS (bsO (prtX b))), (10, vI (chkFl b)), (11, vL eF (parF s).1), (12, vI (parF s).2), (13, vI (chkFl b)), (14, vS (bsO [])), (54, vB (decide ((chkFl b) = 0)))], []⟩ (sb rfl rfl rfl) ?_
  refine TK.condJ ⟨[(0, vL eF b), (1, vL eF m), (2, vS (bsO s)), (7, vL eF b), (8, vL eF m), (9, vS (bsO (prtX b))), (10, vI (chkFl b)), (11, vL eF (parF s).1), (12, vI (parF s).2), (13, vI (chkFl b)), (14, vS (bsO (prtX b)))], []⟩ rfl rfl (fun h2 => ?_) (fun h2 => ?_) ?_
  ·
   replace h2 := of_decide_eq_true h2
   refine At rfl ?_
   refine NR ⟨[(0, vL eF b), (1, vL eF m), (2, vS (bsO s)), (7, vL eF b), (8, vL eF m), (9, vS (bsO (prtX b))), (10, vI (chkFl b)), (11, vL eF (parF s).1), (12, vI (parF s).2), (13, vI (chkFl b))], []⟩ (sb rfl rfl rfl) rfl ?_
   refine mv rfl ?_
   refine RO (Body.call (w39 b (by omega) (fun f hf => by have := hfb.2 f hf; omega)) rfl rfl rfl) ?_
   refine ag rfl ?_
   refine RN ?_
   refine Aq rfl ?_
   refine PK.lp ?_
   first | rw [prtX_ok h2] | rw [prtX_no h2]
   exact sb rfl rfl rfl
  ·
   replace h2 := of_decide_eq_false h2
   refine Au rfl ?_
   refine PK.lp ?_
   first | rw [prtX_ok h2] | rw [prtX_no h2]
   exact sb rfl rfl rfl
  ·
   refine At rfl ?_
   refine NR ⟨[(0, vL eF b), (1, vL eF m), (2, vS (bsO s)), (7, vL eF b), (8, vL eF m), (9, vS (bsO (prtX b))), (10, vI (chkFl b)), (11, vL eF (parF s).1), (12, vI (parF s).2), (13, vI (chkFl b)), (14, vS (bsO (prtX b)))], []⟩ (sb rfl rfl rfl) rfl ?_
   refine mv rfl ?_
   refine RO (Body.call (w40 s (by omega)) rfl rfl rfl) ?_
   refine rn rfl ?_
   refine rn rfl ?_
   refine rn rfl ?_
   refine ag rfl ?_
   refine ag rfl ?_
   refine RN ?_
   refine Ap rfl ?_
   refine NR ⟨[(0, vL eF b), (1, vL eF m), (7, vL eF b), (8, vL eF m), (9, vS (bsO (prtX b))), (10, vI (chkFl b)), (11, vL eF (parF s).1), (12, vI (parF s).2), (13, vI (chkFl b)), (14, vS (bsO (prtX b))), (15, vL eF (parF s).1), (16, vI (parF s).2)], []⟩ (sb rfl rfl rfl) rfl ?_
   refine mv rfl ?_
   refine RO (Body.call (w41 b (by omega) (fun f hf => by have := hfb.2 f hf; omega)) rfl rfl rfl) ?_
   refine mv rfl ?_
   refine RO (Body.neq rfl rfl) ?_
   refine mv rfl ?_
   refine RG.cons (EfR.sym rfl (fun hc => Body.move rfl) rfl) ?_
   refine RG.cons (EfR.sym rfl (fun hc => Body.move rfl) rfl) ?_
   refine RG.cons (EfR.sym rfl (fun hc => Body.neq (ev1_gd rfl hc) (ev1_gd rfl hc)) rfl) ?_
   refine RO (Body.pick rfl rfl rfl rfl (gdB rfl) (pick_or _)) ?_
   refine mv rfl ?_
   refine RG.cons (EfR.sym rfl (fun hc => Body.move rfl) rfl) ?_
   refine RG.cons (EfR.sym rfl (fun hc => Body.move rfl) rfl) ?_
   refine RG.cons (EfR.sym rfl (fun hc => Body.sneB (a := (prtX b)) (b := (prtX b)) (ev1_gd rfl hc) (ev1_gd rfl hc)) rfl) ?_
   refine RO (Body.pick rfl rfl rfl rfl (gdB rfl) (pick_or _)) ?_
   refine mv rfl ?_
   refine RG.cons (EfR.sym rfl (fun hc => Body.move rfl) rfl) ?_
   refine RG.cons (EfR.sym rfl (fun hc => Body.move rfl) rfl) ?_
   refine RG.cons (EfR.sym rfl (fun hc => Body.neq (ev1_gd rfl hc) (ev1_gd rfl hc)) rfl) ?_
   refine RO (Body.pick rfl rfl rfl rfl (gdB rfl) (pick_or _)) ?_
   refine mv rfl ?_
   refine RG.cons (EfR.sym rfl (fun hc => Body.move rfl) rfl) ?_
   refine RG.cons (EfR.sym rfl (fun hc => Body.call (w34 (parF s).1 (by omega)) rfl (ds1 (ev1_gd rfl hc)) rfl) rfl) ?_
   refine RG.cons (EfR.sym rfl (fun hc => Body.move rfl) rfl) ?_
   refine RG.cons (EfR.sym rfl (fun hc => Body.call (w42 (parF s).1 (parF s).1 (by omega)) rfl (ds2 (ev1_gd rfl hc) (ev1_gd rfl hc)) rfl) rfl) ?_
   refine RG.cons (EfR.sym rfl (fun hc => Body.not (ev1_gd rfl hc)) rfl) ?_
   refine RO (Body.pick rfl rfl rfl rfl (gdB rfl) (pick_or _)) ?_
   refine RN ?_
   refine Ap rfl ?_
   refine TK.norm ⟨[(0, vL eF b), (1, vL eF m), (7, vL eF b), (8, vL eF m), (11, vL eF (parF s).1), (15, vL eF (parF s).1), (87, vB (bif (bif (bif (bif (decide ((chkFl b) ≠ (chkFl b))) then true else (decide ((chkFl b) ≠ (chkFl b)))) then true else (decide ((prtX b) ≠ (prtX b)))) then true else (decide ((parF s).2 ≠ (parF s).2))) then true else (!(decide ((parF s).1 = (parF s).1)))))], []⟩ (sb rfl rfl rfl) ?_
   refine TK.cond rfl (fun h3 => ?_) (fun h3 => ?_)
   ·
    refine At rfl ?_
    refine NR ⟨[], []⟩ (sb rfl rfl rfl) rfl ?_
    refine ag rfl ?_
    refine RN ?_
    refine Ap rfl ?_
    refine TK.ret ?_
    refine PK.ret ?_
    refine leaf (val0 := vB false) (by kernel_rfl) ?_
    exact lb (by first
          | rfl
          | exact absurd (h3 : _ = true) (by simp)
          | simp)
   ·
    refine At rfl ?_
    refine NR ⟨[(0, vL eF b), (1, vL eF m), (7, vL eF b), (8, vL eF m), (11, vL eF (parF s).1), (15, vL eF (parF s).1)], []⟩ (sb rfl rfl rfl) rfl ?_
    refine mv rfl ?_
    refine mv rfl ?_
    refine mv rfl ?_
    refine RO (Body.call (w43 b m (parF s).1 (by omega) (by omega) (by omega) (short_small hfb) (fun f hf => by have := hfb.2 f hf; omega) (short_small hfm) (fun f hf => by have := hfm.2 f hf; omega) (short_small hfs) (fun f hf => by have := hfs.2 f hf; omega)) rfl rfl rfl) ?_
    refine rn rfl ?_
    refine rn rfl ?_
    refine rn rfl ?_
    refine rn rfl ?_
    refine ag rfl ?_
    refine ag rfl ?_
    refine ag rfl ?_
    refine RN ?_
    refine Ap rfl ?_
    refine TK.norm ⟨[(7, vL eF b), (8, vL eF m), (15, vL eF (parF s).1), (17, vL eF (mfG (firstF [chkFl b, chkFl m, chkFl (parF s).1]) (mgR b m (parF s).1)).1), (18, vL eN (mfG (firstF [chkFl b, chkFl m, chkFl (parF s).1]) (mgR b m (parF s).1)).2.1), (19, vI (mfG (firstF [chkFl b, chkFl m, chkFl (parF s).1]) (mgR b m (parF s).1)).2.2)], []⟩ (sb rfl rfl rfl) ?_
    rw [merge_same b m (parF s).1]
    have hml := mf_len (firstF [chkFl b, chkFl m, chkFl (parF s).1]) b m (parF s).1 ⟨by omega, by omega, by omega⟩
    refine TK.rg (Y := tab) mixed rfl ?_
    refine mv rfl ?_
    refine mv rfl ?_
    refine mv rfl ?_
    refine RO (Body.call (w44 b m (parF s).1 (by omega) (by omega) (by omega)) rfl rfl rfl) ?_
    refine rn rfl ?_
    refine rn rfl ?_
    refine rn rfl ?_
    refine rn rfl ?_
    refine ag rfl ?_
    refine ag rfl ?_
    refine ag rfl ?_
    refine RN ?_
    refine Ap rfl ?_
    refine NR ⟨[(17, vL eF (mfG (firstF [chkFl b, chkFl m, chkFl (parF s).1]) (refM b m (parF s).1)).1), (18, vL eN (mfG (firstF [chkFl b, chkFl m, chkFl (parF s).1]) (refM b m (parF s).1)).2.1), (19, vI (mfG (firstF [chkFl b, chkFl m, chkFl (parF s).1]) (refM b m (parF s).1)).2.2), (20, vL eF (mfG (firstF [chkFl b, chkFl m, chkFl (parF s).1]) (refM b m (parF s).1)).1), (21, vL eN (mfG (firstF [chkFl b, chkFl m, chkFl (parF s).1]) (refM b m (parF s).1)).2.1), (22, vI (mfG (firstF [chkFl b, chkFl m, chkFl (parF s).1]) (refM b m (parF s).1)).2.2)], []⟩ (sb rfl rfl rfl) rfl ?_
    refine mv rfl ?_
    refine mv rfl ?_
    refine RO (Body.eql rfl rfl) ?_
    refine mv rfl ?_
    refine RG.cons (EfR.sym rfl (fun hc => Body.move rfl) rfl) ?_
    refine RG.cons (EfR.sym rfl (fun hc => Body.call (w34 (mfG (firstF [chkFl b, chkFl m, chkFl (parF s).1]) (refM b m (parF s).1)).1 (by omega)) rfl (ds1 (ev1_gd rfl hc)) rfl) rfl) ?_
    refine RG.cons (EfR.sym rfl (fun hc => Body.move rfl) rfl) ?_
    refine RG.cons (EfR.sym rfl (fun hc => Body.call (w42 (mfG (firstF [chkFl b, chkFl m, chkFl (parF s).1]) (refM b m (parF s).1)).1 (mfG (firstF [chkFl b, chkFl m, chkFl (parF s).1]) (refM b m (parF s).1)).1 (by omega)) rfl (ds2 (ev1_gd rfl hc) (ev1_gd rfl hc)) rfl) rfl) ?_
    refine RO (Body.pick rfl rfl rfl (gdB rfl) rfl (pick_and _)) ?_
    refine mv rfl ?_
    refine RG.cons (EfR.sym rfl (fun hc => Body.move rfl) rfl) ?_
    refine RG.cons (EfR.sym rfl (fun hc => Body.move rfl) rfl) ?_
    refine RG.cons (EfR.sym rfl (fun hc => Body.call (w45 (mfG (firstF [chkFl b, chkFl m, chkFl (parF s).1]) (refM b m (parF s).1)).2.1 (mfG (firstF [chkFl b, chkFl m, chkFl (parF s).1]) (refM b m (parF s).1)).2.1 (by omega)) rfl (ds2 (ev1_gd rfl hc) (ev1_gd rfl hc)) rfl) rfl) ?_
    refine RO (Body.pick rfl rfl rfl (gdB rfl) rfl (pick_and _)) ?_
    refine mv rfl ?_
    refine RG.cons (EfR.sym rfl (fun hc => Body.call (ha) rfl rfl rfl) rfl) ?_
    refine RO (Body.pick rfl rfl rfl (gdB rfl) rfl (pick_and _)) ?_
    refine ag rfl ?_
    refine RN ?_
    refine Ap rfl ?_
    refine TK.ret ?_
    refine PK.ret ?_
    refine leaf (val0 := vB (bif (bif (bif (decide ((mfG (firstF [chkFl b, chkFl m, chkFl (parF s).1]) (refM b m (parF s).1)).2.2 = (mfG (firstF [chkFl b, chkFl m, chkFl (parF s).1]) (refM b m (parF s).1)).2.2)) then (decide ((mfG (firstF [chkFl b, chkFl m, chkFl (parF s).1]) (refM b m (parF s).1)).1 = (mfG (firstF [chkFl b, chkFl m, chkFl (parF s).1]) (refM b m (parF s).1)).1)) else false) then (decide ((mfG (firstF [chkFl b, chkFl m, chkFl (parF s).1]) (refM b m (parF s).1)).2.1 = (mfG (firstF [chkFl b, chkFl m, chkFl (parF s).1]) (refM b m (parF s).1)).2.1)) else false) then true else false)) (by kernel_rfl) ?_
    exact lb (by first
          | rfl
          | exact absurd (h3 : _ = true) (by simp)
          | simp)
end Go.Lens.Tm
end
section
namespace Go.Proofs
open Go.Shelf
def Tryz.lays156_ren : Go.Shelf.Ren := ⟨fun | 156 => 169 | 165 => 242 | 166 => 157 | 169 => 158 | 240 => 218 | 241 => 284 | 276 => 281 | 277 => 308 | n => n, fun | 31 => 73 | 9 => 9 | 3 => 3 | 4 => 4 | 0 => 0 | 20 => 20 | 72 => 271 | 76 => 274 | 70 => 269 | 37 => 150 | 75 => 273 | 127 => 333 | 164 => 371 | 5 => 5 | 80 => 145 | n => n, fun | n => n⟩
theorem Tryz.lays156 : Go.Proofs.Lays.n156 Tryz.prog Tryz.lays156_ren := {
  mixed := by kernel_rfl
  f156 := Tryz.func169.trans (congrArg some (by kernel_rfl))
  f165 := Tryz.func242.trans (congrArg some (by kernel_rfl))
  f166 := Tryz.func157.trans (congrArg some (by kernel_rfl))
  f169 := Tryz.func158.trans (congrArg some (by kernel_rfl))
  f240 := Tryz.func218.trans (congrArg some (by kernel_rfl))
  f241 := Tryz.func284.trans (congrArg some (by kernel_rfl))
  f276 := Tryz.func281.trans (congrArg some (by kernel_rfl))
  f277 := Tryz.func308.trans (congrArg some (by kernel_rfl))
  t0 := Tryz.underlying0
  a0 := Tryz.isAgg0
  z0 := Tryz.sizeOf0
  v0 := Tryz.zeroValue0
  t3 := Tryz.underlying3
  a3 := Tryz.isAgg3
  z3 := Tryz.sizeOf3
  v3 := Tryz.zeroValue3
  t4 := Tryz.underlying4
  a4 := Tryz.isAgg4
  z4 := Tryz.sizeOf4
  v4 := Tryz.zeroValue4
  t9 := Tryz.underlying9
  a9 := Tryz.isAgg9
  z9 := Tryz.sizeOf9
  v9 := Tryz.zeroValue9
  t20 := Tryz.underlying20
  a20 := Tryz.isAgg20
  z20 := Tryz.sizeOf20
  v20 := Tryz.zeroValue20
  t31 := Tryz.underlying73
  a31 := Tryz.isAgg73
  z31 := Tryz.sizeOf73
  v31 := Tryz.zeroValue73
  t37 := Tryz.underlying150
  a37 := Tryz.isAgg150
  z37 := Tryz.sizeOf150
  v37 := Tryz.zeroValue150
  t70 := Tryz.underlying269
  a70 := Tryz.isAgg269
  z70 := Tryz.sizeOf269
  v70 := Tryz.zeroValue269
  t72 := Tryz.underlying271
  a72 := Tryz.isAgg271
  z72 := Tryz.sizeOf271
  v72 := Tryz.zeroValue271
  t75 := Tryz.underlying273
  a75 := Tryz.isAgg273
  z75 := Tryz.sizeOf273
  v75 := Tryz.zeroValue273
  t76 := Tryz.underlying274
  a76 := Tryz.isAgg274
  z76 := Tryz.sizeOf274
  v76 := Tryz.zeroValue274
  t127 := Tryz.underlying333
  a127 := Tryz.isAgg333
  z127 := Tryz.sizeOf333
  v127 := Tryz.zeroValue333
  t164 := Tryz.underlying371
  a164 := Tryz.isAgg371
  z164 := Tryz.sizeOf371
  v164 := Tryz.zeroValue371 }
theorem Tryz.Builder_Extra_156 : Builder.Extra Tryz.prog Tryz.lays156_ren := {
  sizeBuilder := by kernel_rfl
  liesBuilder := by kernel_rfl
  t5 := Tryz.underlying5
  a5 := Tryz.isAgg5
  z5 := Tryz.sizeOf5
  v5 := Tryz.zeroValue5
  infoByte := by kernel_rfl
  cellsByte := by kernel_rfl
  sizeByte := by kernel_rfl
  neB5 := by decide }
open Go.RowKit in
theorem Tryz.strings_Join_none (a : Option Addr) (c : Nat) (sep : ByteArray) (w : World) :
    Calls Tryz.prog 169 #[.slice a 0 c, .string sep] w fun e w' => e = .returned (.string ⟨#[]⟩) ∧ w' = w := Any.strings_Join_none Tryz.lays156 Tryz.Builder_Extra_156 a c sep w
open Go.RowKit in
theorem Tryz.strings_Join (bk o c : Nat) (xs : List ByteArray) (sep : ByteArray) (w : World) (hcells : ∀ (j : Nat) x, xs[j]? = some x → w.cell? ⟨bk, o + j, none⟩ = some (.string x)) (hbk : bk < w.heap.size) (hN : xs.length ≤ 140737488355328) (hcap : xs.length ≤ c) (hlen : (Lib.join (xs.map (·.data.toList)) sep.data.toList).length ≤ 140737488355328) :
    Calls Tryz.prog 169 #[.slice (some ⟨bk, o, none⟩) xs.length c, .string sep] w fun e w' => e = .returned (.string ⟨(Lib.join (xs.map (·.data.toList)) sep.data.toList).toArray⟩) ∧ Below w.heap.size w w' := Any.strings_Join Tryz.lays156 Tryz.Builder_Extra_156 bk o c xs sep w hcells hbk hN hcap hlen
end Go.Proofs
end
section
namespace Go.Lens.Tm
open Go.Lens.Tb Go.Proofs Go.RowKit
set_option linter.unusedSectionVars false
variable [Lz]
theorem elems_cells {R : Rd} {b esz : Nat} : ∀ (l : List (List UInt8)) (off : Nat), RelElems R (l.map eN) b off esz → ∀ (j : Nat) (x : List UInt8), l[j]? = some x → R.cell b (off + j) = some (.string (bsO x))
 | [], _, _, j, x, h => by simp at h
 | a :: l, off, H, j, x, h => by
  simp only [List.map_cons, RelElems] at H
  obtain ⟨h1, h2, h3⟩ := H
  have e1 : esz = 1 := h1.symm
  subst e1
  cases j with
  | zero =>
   have hx : a = x := by simpa using h
   subst hx
   simp only [eN, RelCells, RelPV] at h2
   obtain ⟨⟨v, k1, _, k2, _⟩, _⟩ := h2
   rw [Nat.add_zero, k1, k2]
  | succ j =>
   have := elems_cells l (off + 1) h3 j x (by simpa using h)
   rwa [show off + (j + 1) = off + 1 + j by omega]
theorem join_lib : ∀ ws : List (List UInt8), Lib.join ws [32] = joinF ws
 | [] => rfl
 | w :: r => by
  rw [Lib.join_cons]
  simp only [Lib.joinTail, joinF, List.flatMap]
  rfl
theorem join_len (ws : List (List UInt8)) (N : Nat) (h : ∀ w ∈ ws, w.length ≤ N) : (joinF ws).length ≤ ws.length * (N + 1) := by
 cases ws with
 | nil => simp [joinF]
 | cons w r =>
  have key : ∀ r : List (List UInt8), (∀ w ∈ r, w.length ≤ N) → (r.flatMap fun x => 32 :: x).length ≤ r.length * (N + 1) := by
   intro r
   induction r with
   | nil => intro _; simp
   | cons a r ih =>
    intro hr
    have h1 := ih fun w hw => hr w (by simp [hw])
    have h2 := hr a (by simp)
    simp only [List.flatMap_cons, List.length_append, List.length_cons, Nat.add_mul, Nat.one_mul]
    omega
  have h1 := key r fun w hw => h w (by simp [hw])
  have h2 := h w (by simp)
  simp only [joinF, List.length_append, List.length_cons, Nat.add_mul, Nat.one_mul]
  omega
theorem join_ok : JoinOk := by
 intro ws hn hw
 refine ⟨fun k hk => ?_, fun G w vs M hv => .inl ?_⟩
 ·simp [DV.refsL, DV.refs] at hk
 obtain ⟨v, v2, rfl, h1, h2⟩ := hv.two
 have e2 := (RelDV_lit_eq h2).1
 subst e2
 simp only [RelDV, RelPV] at h1
 obtain ⟨a, cap, rfl, hcap, hes⟩ := h1
 refine ⟨Tryz.call169 _ _, ?_⟩
 have fin : ∀ w' : World, Below w.heap.size w w' → ∃ G', Stepped G w (lookM []) (vS (bsO (joinF ws))) [] G' w' (.string (bsO (joinF ws))) := fun w' hB =>
  ⟨G, stepped_grow M.ctx hB.os hB.tape hB.output hB.size (fun k hk => hB.block k hk) (RelDV_lit rfl) (by simp [DV.refs])⟩
 by_cases h0 : ws = []
 ·subst h0
  refine Calls.mono (Tryz.strings_Join_none a cap (bsO [32]) w) ?_
  rintro e w' ⟨he, hw'⟩
  exact ⟨_, he, fin w' (hw' ▸ Below.refl _ _)⟩
 ·rcases hes with hes | ⟨b, off, esz, rfl, hel⟩
  ·exact absurd (List.map_eq_nil_iff.1 hes) h0
  have hcell : ∀ (j : Nat) (x : ByteArray), (ws.map bsO)[j]? = some x → w.cell? ⟨b, off + j, none⟩ = some (.string x) := by
   intro j x hj
   rw [List.getElem?_map] at hj
   obtain ⟨y, hy, rfl⟩ := Option.map_eq_some_iff.1 hj
   exact M.readable.1 _ _ _ (elems_cells ws off hel j y hy)
  have hd : (ws.map bsO).map (·.data.toList) = ws := by
   rw [List.map_map]
   conv => rhs; rw [← List.map_id ws]
   rfl
  have hbk : b < w.heap.size := by
   obtain ⟨y, r, rfl⟩ := List.exists_cons_of_ne_nil h0
   have := hcell 0 (bsO y) rfl
   unfold World.cell? at this
   rcases Nat.lt_or_ge b w.heap.size with h | h
   ·exact h
   ·have hnone : w.heap[b]? = none := Array.getElem?_eq_none h
    simp [hnone] at this
  have hjl := join_len ws 1000 hw
  have hc := Tryz.strings_Join b off cap (ws.map bsO) (bsO [32]) w hcell hbk (by rw [List.length_map]; omega) (by rw [List.length_map] at hcap ⊢; exact hcap) (by
   rw [hd]
   have : Lib.join ws (bsO [32]).data.toList = joinF ws := join_lib ws
   rw [this]
   have : ws.length * (1000 + 1) ≤ 1000 * (1000 + 1) := Nat.mul_le_mul_right _ hn
   omega)
  rw [hd] at hc
  have hj : Lib.join ws (bsO [32]).data.toList = joinF ws := join_lib ws
  rw [hj, List.length_map] at hc
  rw [List.length_map]
  refine Calls.mono hc ?_
  rintro e w' ⟨he, hB⟩
  exact ⟨_, he, fin w' hB⟩
end Go.Lens.Tm
end
section
namespace Go.Lens.Tb
open Go.Proofs Go.Proofs.YtomghboflcafbaaGreatDoor Go.RowKit Go.ChangeShapes
set_option linter.unusedSectionVars false
set_option maxRecDepth 100000
theorem gPow : Tryz.prog.globalNamed "internal/strconv.uint64pow10" = some 3 := by kernel_rfl
theorem tPow : (Tryz.prog.globals[3]?).map (·.type) = some 434 := by kernel_rfl
theorem plainLaid : (Rows.nightFieldsRow.laid.all fun x => x.2.handleName?.isNone) = true := by kernel_rfl
theorem powDatum : (Rows.laid_internal_strconv_uint64pow10 : DataW Unit) = Lib.tabData .u64 Lib.pow10Tab := by kernel_rfl
theorem pow_of {W : World} (h : laidMetH Tryz.prog Rows.nightFieldsRow.laid W) : ∃ T fr, W.heap[3]? = some (.cells (Lib.pow10Tab.map fun z => Value.int .u64 z).toArray T fr) := by
  rw [MakeChecks.laidMetH_plain _ _ _ plainLaid] at h
  obtain ⟨ps, ⟨g0, t0, cs0, f0, p0, q0, _, _, _, _, ⟨g1, t1, cs1, f1, p1, q1, _, _, _, _, ⟨g2, t2, cs2, f2, p2, q2, hg, ht, hv, hd, _, _⟩, _⟩, _⟩, _, _⟩ := h
  obtain rfl := Option.some.inj (gPow.symm.trans hg)
  obtain rfl := Option.some.inj (tPow.symm.trans ht)
  have hd' : DataW.trod (fun _ => ()) Tryz.prog W 0 (fun _ => true) false f2 434 cs2.toList = some (Rows.laid_internal_strconv_uint64pow10, p2) := hd
  rw [powDatum] at hd'
  have hc := Lib.cells_of_tab Tryz.underlying434 Tryz.underlying406 (by kernel_rfl) (by kernel_rfl) hd'
  have hv' : (Tryz.prog.globalNamed "internal/strconv.uint64pow10").bind (fun g => match W.heap[g]? with | some (.cells cs _ _) => some cs | _ => none) = some cs2 := hv
  rw [gPow] at hv'
  simp only [Option.bind_some] at hv'
  split at hv'
  · rename_i cs T fr hb
    cases hv'
    refine ⟨T, fr, ?_⟩
    rw [hb, ← hc, Array.toArray_toList]
  · cases hv'
@[reducible] def lzOf (W : World) : Lz := ⟨fun b => if b = 3 then W.heap[3]? else none⟩
theorem lzOf_laid (W : World) : ∀ b o, (lzOf W).L b = some o → W.heap[b]? = some o := by
  intro b o h
  change (if b = 3 then W.heap[3]? else none) = some o at h
  split at h
  · rename_i e; subst e; exact h
  · cases h
theorem powLaid_of {W : World} (h : laidMetH Tryz.prog Rows.nightFieldsRow.laid W) : @PowLaid (lzOf W) := by
  obtain ⟨T, fr, hb⟩ := pow_of h
  exact ⟨3, T, fr, gPow, hb⟩
theorem bs_back (s : ByteArray) : bsO s.data.toList = s := rfl
section
variable {H : Type} {enc : TypeId × Value → H} {w : World} {base : Nat} {spare : Nat → Bool} {held : Bool}
theorem read_fld {n : Nat} {c : List Value} {y : DataW H × List MemPlace} (h : DataW.trod enc Tryz.prog w base spare held n 174 c = some y) :
    ∃ f : Fld, c = [.string (bsO f.1), .string (bsO f.2)] := by
  obtain ⟨xs, m, rfl, rfl, hl, hx, hf⟩ := DataW.trod_struct Tryz.underlying174 h
  have hl2 : c.length = 2 := hl.trans (by kernel_rfl)
  have hx2 : xs.length = 2 := hx
  match c, hl2, xs, hx2, hf with
  | [c0, c1], _, [x0, x1], _, hf =>
    have f0 := hf 0 _ rfl
    have f1 := hf 1 _ rfl
    obtain ⟨s, e0, _⟩ := DataW.trod_string Tryz.underlying9 f0
    obtain ⟨s2, e1, _⟩ := DataW.trod_string Tryz.underlying9 f1
    cases e0; cases e1
    exact ⟨(s.data.toList, s2.data.toList), rfl⟩
theorem read_flds {fuel : Nat} {cs : List Value} {x : DataW H × List MemPlace} (h : DataW.trod enc Tryz.prog w base spare held fuel 59 cs = some x) :
    ∃ (l : List Fld) (v : Value), cs = [v] ∧ RelPV (gh0.rd w) (.slice (l.map Go.Lens.Tm.eF)) v ∧ ((l = [] ∧ x.1 = .nil) ∨ ∃ es rest, x.1 = .slice es rest ∧ es.length = l.length) :=
  read_slice (encE := Go.Lens.Tm.eF) (vals := fun f : Fld => [.string (bsO f.1), .string (bsO f.2)]) Tryz.underlying59 (show Tryz.prog.cellsOf 174 = 2 by kernel_rfl) (by omega)
    (fun n c y hy => read_fld hy) (fun _ => rfl) (fun _ => rfl)
    (fun a b off hc => relCells_lits (vs := [.string (bsO a.1), .string (bsO a.2)]) (by simp [isLit]) hc) h
end
end Go.Lens.Tb
end
