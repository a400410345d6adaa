/- A part of the proof that NightPlansCardSaid holds, without conditions. -/
import Derived.Test.YtomghboflcafbaaGreatDoorB2
import Derived.Test.YtomghboflcafbaaGreatDoorTie
import Derived.Test.YtomghboflcafbaaGreatDoorCards
import Derived.Lay
import Derived.SevenTiedAt
set_option linter.unusedVariables false
set_option linter.unusedSimpArgs false
section
namespace Go.Lens.Tb
open Go.Proofs Go.Proofs.YtomghboflcafbaaGreatDoor Go.RowKit Go.ChangeShapes Go.WideShapes Go.ChangeAt
set_option linter.unusedSectionVars false
set_option maxRecDepth 100000
theorem ownK : ownKnob Tryz.prog.godebug = none := by kernel_rfl
theorem laidOut : laidOutB Tryz.prog = true := by kernel_rfl
theorem laid_witness (os : Os) (args : Array Value) : laidMetH Tryz.prog Rows.nightPlansRow.laid ((World.laidAll Tryz.prog os Rows.nightPlansRow.laid).forCall (fun _ _ => 0) ⟨#[], args, []⟩).memory := by
  rw [MakeChecks.laidMetH_plain _ _ _ plainLaid]; exact laidMet_laidAll _ (by kernel_rfl) (by kernel_rfl)
theorem below_of [Lz] {W W' : World} {val : DV} {ms : List (Nat × MO)} {G' : Gh} {r : Value} (S : Stepped gh0 W (lookM []) val ms G' W' r) : Below W.heap.size W W' :=
  ⟨S.later.os, S.later.tape, S.later.output, S.later.size, fun k hk => (S.later.cold k hk rfl).1⟩
theorem calls_of [Lz] {f : FuncId} {ds : List DV} {W : World} {args : Array Value} {b : Bool} (he : (callFunc f args).run Tryz.prog W = .ok (.enter f args) W) (hl : ∀ b o, Lz.L b = some o → W.heap[b]? = some o)
    (H : CallOk Tryz.prog f ds (lookM []) (.pv (.lit (.bool b))) []) (hr : RelDVs gh0 (gh0.rd W) ds args.toList) : Calls Tryz.prog f args W fun e W' => e = .returned (.bool b) ∧ Below W.heap.size W W' := by
  rcases H.call gh0 W args (inv0 W hl) hr with ⟨_, h⟩ | ⟨r, w', h, _⟩
  · refine h.mono ?_
    rintro e W' ⟨r, rfl, G', S⟩
    have hv := S.hval
    exact ⟨by rw [(RelDV_lit_eq (G := G') (R := G'.rd W') hv).1], below_of S⟩
  · rw [he] at h; cases h
theorem lifted_nightPlans (hm : ∀ [Lz], OrcOk Tryz.prog (mergeO 121)) (os : Os) (started : os.Started) (H : Type) (enc : TypeId × Value → H) :
    ReturnsInHanded {} Tryz.checked os 4 .any (fun w args => (Rows.nightPlansSpec.pre enc Tryz.prog Tryz.f4 [] false w args ∧ laidMetH Tryz.prog Rows.nightPlansRow.laid w) ∧ sizedMet enc Tryz.prog Tryz.f4 (OpenSpec.ofChange Rows.nightPlansSpec) false w args)
      (Rows.nightPlansSpec.post enc Tryz.prog Tryz.f4 false true false false) := by
  refine returnsInHanded_of_change_and (C := Tryz.checked) (X := fun w _ => laidMetH Tryz.prog Rows.nightPlansRow.laid w) (fun _ _ _ hh h => h.of_heap hh) ownK started (by kernel_rfl) Tryz.func4
    (ChangeSpec.witness_shaped (enc := enc) (C := Tryz.checked) (os := os) (X := fun w _ => laidMetH Tryz.prog Rows.nightPlansRow.laid w) false (World.laidAll Tryz.prog os Rows.nightPlansRow.laid) #[.agg #[.int .i64 0, .slice none 0 0], .slice none 0 0] 8 (World.laidAll_os _ _ _)
      (World.shaped_of_ZipB (by kernel_rfl) (by kernel_rfl)) (by kernel_rfl) (by kernel_rfl) (by kernel_rfl) (laid_witness os _)) ?_
  intro W base args ds gs before hval0 hW _ hsz0 hL _
  have hval : ∀ (j : Nat) t v, Tryz.f4.params[j]? = some t → args[j]? = some v → Value.okWide Tryz.prog W .any base t v := hval0
  have hsz : (DataW.weightsEach Tryz.prog (Tryz.f4.params.toList ++ Rows.nightPlansSpec.plain.varTypes Tryz.prog) (ds ++ gs)).all (· ≤ reachBytes) = true := hsz0
  have hW' := hW
  obtain ⟨p, q, hA0, hV, rfl, _, _⟩ := hW
  have hA : DataW.TrodAll enc Tryz.prog W 0 (fun _ => true) true Tryz.f4.params.toList args.toList ds p := hA0
  rw [Tryz.params4] at hA hval hsz
  obtain ⟨v0, v1, d0, d1, p0, p1, rfl, rfl, rfl, h0, h1⟩ := trodAll_two hA
  obtain ⟨rfl, rfl⟩ := trodVars_none hV
  simp only [List.append_nil] at hW' hsz
  have hlt : ∀ x ∈ p0 ++ p1, x.block < W.heap.size := fun x hx => by simpa using hW'.lt x hx
  obtain ⟨c0, rfl, _, _⟩ : ∃ cs, v0 = .agg cs ∧ cs.size = Tryz.prog.cellsOf 24 ∧ Row.okWide Tryz.prog W .any base 24 cs := by
    have := hval 0 24 v0 rfl rfl
    unfold Value.okWide at this
    rw [Tryz.underlying24] at this
    exact this
  obtain ⟨fuel0, hf0⟩ := h0
  obtain ⟨fuel1, hf1⟩ := h1
  obtain ⟨a1, n1, k1, rfl⟩ := okWide_slice Tryz.underlying25 (hval 1 25 v1 rfl rfl)
  obtain ⟨start, Wl, vW, e0, hr0⟩ := read_night hf0
  obtain ⟨l, v1', e1, hr1, hl1⟩ := read_tgts hf1
  obtain rfl : Value.slice a1 n1 k1 = v1' := by simpa [Value.cells] using e1
  have hlen : l.length * 64 ≤ 140737488355328 := by
    rcases hl1 with ⟨rfl, _⟩ | ⟨es, rest, hd, hn⟩
    · simp
    · simp only at hd
      subst hd
      have := sized_slice hsz (j := 1) (t := 25) (e := 46) rfl rfl Tryz.underlying25
      have hb : Tryz.prog.bytesOf 46 = 64 := by kernel_rfl
      rw [hb] at this
      simp only [reachBytes] at this
      omega
  letI : Lz := lzOf W
  have hone : vW.oneCell' = true := by
    simp only [RelPV] at hr0
    obtain ⟨a, cap, rfl, _⟩ := hr0
    rfl
  have hrel : RelDVs gh0 (gh0.rd W) [.pv (.agg [.lit (.int .i64 start), .slice (List.map eI Wl)]), .pv (.slice (List.map eT l))] #[Value.agg c0, .slice a1 n1 k1].toList := by
    have e0' : c0.toList = [.int .i64 start, vW] := e0
    simp only [RelDVs, RelDV]
    refine ⟨_, _, rfl, ?_, _, _, rfl, hr1, rfl⟩
    simp only [RelPV]
    refine ⟨c0, rfl, ?_, ?_⟩
    · rw [e0']
      intro x hx
      simp only [List.mem_cons, List.mem_nil_iff, or_false] at hx
      rcases hx with rfl | rfl
      · rfl
      · exact hone
    · rw [e0']
      simp only [RelVals]
      exact ⟨_, _, rfl, by simp only [RelPV]; exact ⟨trivial, rfl⟩, _, _, rfl, hr0, rfl⟩
  have hpow : PowLaid := powLaid_of hL
  have hc := calls_of (Tryz.call4 _ _) (lzOf_laid W) (w4 (awake_ok hpow hm) start Wl l hlen) hrel
  refine hc.mono fun e W' ⟨he, hb⟩ => ?_
  subst he
  have hargs : ∀ {t : TypeId} {v : Value} {d : DataW H} {ps : List MemPlace}, Tryz.prog.readableRec t = true → t < Tryz.prog.types.size → DataW.Trod enc Tryz.prog W 0 (fun _ => true) true t v d ps → (∀ x ∈ ps, x.block < W.heap.size) →
      DataW.Trod enc Tryz.prog W' 0 (fun b => decide (b < W.heap.size)) true t v d ps := fun hr ht h0 hl => Below.trod laidOut hr ht h0 hb hl
  refine ⟨_, rfl, _, _, _, [], p0 ++ p1, [], hW', ?_, trodAll_mk2 (hargs (by kernel_rfl) (of_decide_eq_true (by kernel_rfl)) ⟨fuel0, hf0⟩ fun x hx => hlt x (by simp [hx])) (hargs (by kernel_rfl) (of_decide_eq_true (by kernel_rfl)) ⟨fuel1, hf1⟩ fun x hx => hlt x (by simp [hx])), rfl, hb.frame _, fun h => by cases h⟩
  exact trodAll_mk1 (shut_bool Tryz.underlying4 _)
end Go.Lens.Tb
end
