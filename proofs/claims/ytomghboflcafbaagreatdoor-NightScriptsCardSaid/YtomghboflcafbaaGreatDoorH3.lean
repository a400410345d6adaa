/- A part of the proof that NightScriptsCardSaid holds, without conditions. -/
import Derived.Test.YtomghboflcafbaaGreatDoorS4
import Derived.Test.YtomghboflcafbaaGreatDoorS10
import Derived.Test.YtomghboflcafbaaGreatDoorH2
import Derived.Stop.LaidErr
import Derived.Stop.ErrReads
import Derived.Test.YtomghboflcafbaaGreatDoorRows
import Derived.MakeChecks
import Derived.Lib.LaidTab
import Derived.LaidLaws
import Derived.Stop.Joined
import Derived.RowKit
set_option linter.unusedVariables false
set_option linter.unusedSimpArgs false
section
namespace Go.Lens.Tb
open Go.Proofs Go.Proofs.YtomghboflcafbaaGreatDoor Go.RowKit Go.ChangeShapes
set_option linter.unusedSectionVars false
set_option maxRecDepth 100000
theorem gPow : Tryz.prog.globalNamed "internal/strconv.uint64pow10" = some 3 := by kernel_rfl
theorem tPow : (Tryz.prog.globals[3]?).map (·.type) = some 434 := by kernel_rfl
theorem plainLaid : (Rows.nightScriptsRow.laid.all fun x => x.2.handleName?.isNone) = true := by kernel_rfl
theorem powDatum : (Rows.laid_internal_strconv_uint64pow10 : DataW Unit) = Lib.tabData .u64 Lib.pow10Tab := by kernel_rfl
theorem pow_of {W : World} (h : laidMetH Tryz.prog Rows.nightScriptsRow.laid W) : ∃ T fr, W.heap[3]? = some (.cells (Lib.pow10Tab.map fun z => Value.int .u64 z).toArray T fr) := by
  rw [MakeChecks.laidMetH_plain _ _ _ plainLaid] at h
  obtain ⟨ps, ⟨g0, t0, cs0, f0, p0, q0, _, _, _, _, ⟨g1, t1, cs1, f1, p1, q1, _, _, _, _, ⟨g2, t2, cs2, f2, p2, q2, hg, ht, hv, hd, _, _⟩, _⟩, _⟩, _, _⟩ := h
  obtain rfl := Option.some.inj (gPow.symm.trans hg)
  obtain rfl := Option.some.inj (tPow.symm.trans ht)
  have hd' : DataW.trod (fun _ => ()) Tryz.prog W 0 (fun _ => true) false f2 434 cs2.toList = some (Rows.laid_internal_strconv_uint64pow10, p2) := hd
  rw [powDatum] at hd'
  have hc := Lib.cells_of_tab Tryz.underlying434 Tryz.underlying406 (by kernel_rfl) (by kernel_rfl) hd'
  have hv' : (Tryz.prog.globalNamed "internal/strconv.uint64pow10").bind (fun g => match W.heap[g]? with | some (.cells cs _ _) => some cs | _ => none) = some cs2 := hv
  rw [gPow] at hv'
  simp only [Option.bind_some] at hv'
  split at hv'
  · rename_i cs T fr hb
    cases hv'
    refine ⟨T, fr, ?_⟩
    rw [hb, ← hc, Array.toArray_toList]
  · cases hv'
theorem gSyn : Tryz.prog.globalNamed "strconv.ErrSyntax" = some 4 := by kernel_rfl
theorem gRng : Tryz.prog.globalNamed "strconv.ErrRange" = some 5 := by kernel_rfl
theorem tSyn : (Tryz.prog.globals[4]?).map (·.type) = some 273 := by kernel_rfl
theorem tRng : (Tryz.prog.globals[5]?).map (·.type) = some 273 := by kernel_rfl
theorem star : "*" ++ "errors.errorString" = "*errors.errorString" := by decide
theorem row445 (u : TypeId) (h : Tryz.prog.typeName? 3 u = some "*errors.errorString") : u = 445 :=
  typeName_ptr_named (nm := "errors.errorString") (by rw [star]; kernel_rfl) (by kernel_rfl) (by decide) u (by rw [star]; exact h)
theorem err_of {W : World} (h : laidMetH Tryz.prog Rows.nightScriptsRow.laid W) : (∃ tp p, W.var? Tryz.prog "strconv.ErrSyntax" = some #[.iface tp p]) ∧ ∃ tp p, W.var? Tryz.prog "strconv.ErrRange" = some #[.iface tp p] := by
  rw [MakeChecks.laidMetH_plain _ _ _ plainLaid] at h
  have h4 := h.tail.tail.tail.tail
  obtain ⟨a, _, h1, _⟩ := laid_sentinel h4 gRng tRng Tryz.underlying273 row445 Tryz.underlying445 Tryz.underlying447 rfl rfl Tryz.underlying9 (show Tryz.prog.cellsOf 447 = 1 by kernel_rfl) (show Tryz.prog.cellsOf 9 = 1 by kernel_rfl)
  obtain ⟨b, _, h2, _⟩ := laid_sentinel h4.tail gSyn tSyn Tryz.underlying273 row445 Tryz.underlying445 Tryz.underlying447 rfl rfl Tryz.underlying9 (show Tryz.prog.cellsOf 447 = 1 by kernel_rfl) (show Tryz.prog.cellsOf 9 = 1 by kernel_rfl)
  exact ⟨⟨_, _, h2⟩, _, _, h1⟩
@[reducible] def lzOf (W : World) : Lz := ⟨fun b => if b = 3 ∨ b = 4 ∨ b = 5 then W.heap[b]? else none⟩
theorem lzOf_laid (W : World) : ∀ b o, (lzOf W).L b = some o → W.heap[b]? = some o := by
  intro b o h
  change (if b = 3 ∨ b = 4 ∨ b = 5 then W.heap[b]? else none) = some o at h
  split at h
  · exact h
  · cases h
theorem powLaid_of {W : World} (h : laidMetH Tryz.prog Rows.nightScriptsRow.laid W) : @PowLaid (lzOf W) := by
  obtain ⟨T, fr, hb⟩ := pow_of h
  exact ⟨3, T, fr, gPow, hb⟩
theorem varLaid_of {W : World} {n : String} {g : Nat} (hg : Tryz.prog.globalNamed n = some g) (hb : (lzOf W).L g = W.heap[g]?) (h : ∃ tp p, W.var? Tryz.prog n = some #[.iface tp p]) : @Go.Lens.Tm.VarLaid (lzOf W) n := by
  obtain ⟨tp, p, hv⟩ := h
  unfold World.var? at hv
  rw [hg] at hv
  simp only [Option.bind_some] at hv
  split at hv
  · rename_i cs T fr hc
    cases hv
    exact ⟨g, tp, p, T, fr, hg, hb.trans hc⟩
  · cases hv
theorem errLaid_of {W : World} (h : laidMetH Tryz.prog Rows.nightScriptsRow.laid W) : @Go.Lens.Tm.ErrLaid (lzOf W) :=
  ⟨varLaid_of gSyn rfl (err_of h).1, varLaid_of gRng rfl (err_of h).2⟩
theorem bs_back (s : ByteArray) : bsO s.data.toList = s := rfl
section
variable {H : Type} {enc : TypeId × Value → H} {w : World} {base : Nat} {spare : Nat → Bool} {held : Bool}
theorem read_cmd {n : Nat} {c : List Value} {y : DataW H × List MemPlace} (h : DataW.trod enc Tryz.prog w base spare held n 116 c = some y) :
    ∃ f : Go.Lens.Tm.Cmd, c = [.string (bsO f.1), .string (bsO f.2.1), .int .i64 f.2.2] := by
  obtain ⟨xs, m, rfl, rfl, hl, hx, hf⟩ := DataW.trod_struct Tryz.underlying116 h
  have hl2 : c.length = 3 := hl.trans (by kernel_rfl)
  have hx2 : xs.length = 3 := hx
  match c, hl2, xs, hx2, hf with
  | [c0, c1, c2], _, [x0, x1, x2], _, hf =>
    have f0 := hf 0 _ rfl
    have f1 := hf 1 _ rfl
    have f2 := hf 2 _ rfl
    obtain ⟨s, e0, _⟩ := DataW.trod_string Tryz.underlying9 f0
    obtain ⟨s2, e1, _⟩ := DataW.trod_string Tryz.underlying9 f1
    obtain ⟨m2, e2, _⟩ := DataW.trod_int Tryz.underlying3 f2
    cases e0; cases e1; cases e2
    exact ⟨(s.data.toList, s2.data.toList, m2), rfl⟩
theorem read_cmds {fuel : Nat} {cs : List Value} {x : DataW H × List MemPlace} (h : DataW.trod enc Tryz.prog w base spare held fuel 82 cs = some x) :
    ∃ (l : List Go.Lens.Tm.Cmd) (v : Value), cs = [v] ∧ RelPV (gh0.rd w) (.slice (l.map Go.Lens.Tm.eC)) v ∧ ((l = [] ∧ x.1 = .nil) ∨ ∃ es rest, x.1 = .slice es rest ∧ es.length = l.length) :=
  read_slice (encE := Go.Lens.Tm.eC) (vals := fun f : Go.Lens.Tm.Cmd => [.string (bsO f.1), .string (bsO f.2.1), .int .i64 f.2.2]) Tryz.underlying82 (show Tryz.prog.cellsOf 116 = 3 by kernel_rfl) (by omega)
    (fun n c y hy => read_cmd hy) (fun _ => rfl) (fun _ => rfl)
    (fun a b off hc => relCells_lits (vs := [.string (bsO a.1), .string (bsO a.2.1), .int .i64 a.2.2]) (by simp [isLit]) hc) h
end
end Go.Lens.Tb
end
