/- Laws of a step by step reckoning of programs, and of the functions of the program that the claims share, without conditions. -/
import Derived.Test.YtomghboflcafbaaGreatDoorS3
import Derived.Test.YtomghboflcafbaaGreatDoorProg
import Derived.KernelRfl
import Derived.ProofKit
import Derived.LaidMore
import Derived.OpenShut
import Derived.SizedLaws
import Derived.Carry
import Derived.Shelf.LaysM
import Derived.Shelf.Strconv.Itoa3
set_option linter.unusedVariables false
set_option linter.unusedSimpArgs false
section
namespace Go.Lens.Tb
set_option linter.unusedSectionVars false
open Go.Proofs
variable [Lz]
theorem info_of {P : Program} {t : TypeId} {i : TypeInfo} (h : P.types[t]? = some i) : P.info? t = some i := by
  have hl : t < P.types.size := (Array.getElem?_eq_some_iff.1 h).1
  unfold Tables.info?
  rw [if_pos hl]; exact h
def AllT {α : Type} (Q : Nat → α → Prop) : Tr α → Prop
  | .nil => True
  | .node l k v r => AllT Q l ∧ Q k v ∧ AllT Q r
theorem AllT.mem {α : Type} {Q : Nat → α → Prop} : ∀ {t : Tr α}, AllT Q t → ∀ p ∈ t.toList, Q p.1 p.2
  | .nil, _, p, h => by cases h
  | .node l k v r, H, p, h => by
    obtain ⟨h1, h2, h3⟩ := H
    simp only [Tr.toList, List.mem_append, List.mem_cons] at h
    rcases h with h | rfl | h
    · exact AllT.mem h1 p h
    · exact h2
    · exact AllT.mem h3 p h
def QT (t : TypeId) (i : TI) : Prop := Tryz.prog.underlying t = some i.und ∧ Tryz.prog.info? t = some i.info ∧ (i.eqOk = true → (Tryz.prog.stoodInHeld t || Tryz.prog.eqGuardType Tryz.prog.depth t) = false)
def QF (f : FuncId) (F : FnI) : Prop := ∃ fn, Tryz.prog.funcs[f]? = some fn ∧ fn.body = F.body ∧ fn.ntmps = F.n ∧ fn.results = F.res ∧ (∀ c, F.body = some c → dstAll F.n c = true) ∧ ∀ args w, (callFunc f args).run Tryz.prog w = .ok (.enter f args) w
def dstB (F : FnI) : Bool := match F.body with | some c => dstAll F.n c | none => true
theorem dstB_ok {F : FnI} (h : dstB F = true) : ∀ c, F.body = some c → dstAll F.n c = true := by
  intro c hc; unfold dstB at h; rw [hc] at h; exact h
noncomputable def fn3 : FnI := ⟨147, 44236707781496605426493664413332868693967, Tryz.f3.results, Tryz.f3.body⟩
theorem qf3 : QF 3 fn3 := ⟨Tryz.f3, Tryz.func3, rfl, rfl, rfl, dstB_ok (by kernel_rfl), Tryz.call3⟩
noncomputable def fn4 : FnI := ⟨71, 1099513726967, Tryz.f4.results, Tryz.f4.body⟩
theorem qf4 : QF 4 fn4 := ⟨Tryz.f4, Tryz.func4, rfl, rfl, rfl, dstB_ok (by kernel_rfl), Tryz.call4⟩
noncomputable def fn5 : FnI := ⟨121, 154742504928687482636074951, Tryz.f5.results, Tryz.f5.body⟩
theorem qf5 : QF 5 fn5 := ⟨Tryz.f5, Tryz.func5, rfl, rfl, rfl, dstB_ok (by kernel_rfl), Tryz.call5⟩
noncomputable def fn6 : FnI := ⟨59, 16793551, Tryz.f6.results, Tryz.f6.body⟩
theorem qf6 : QF 6 fn6 := ⟨Tryz.f6, Tryz.func6, rfl, rfl, rfl, dstB_ok (by kernel_rfl), Tryz.call6⟩
noncomputable def fn7 : FnI := ⟨291, 3420619375024126586585221944706161541946826761511016355490057232966853066703, Tryz.f7.results, Tryz.f7.body⟩
theorem qf7 : QF 7 fn7 := ⟨Tryz.f7, Tryz.func7, rfl, rfl, rfl, dstB_ok (by kernel_rfl), Tryz.call7⟩
noncomputable def fn8 : FnI := ⟨248, 56539106073306819181641749634943762188675451122380306365180682641891622855, Tryz.f8.results, Tryz.f8.body⟩
theorem qf8 : QF 8 fn8 := ⟨Tryz.f8, Tryz.func8, rfl, rfl, rfl, dstB_ok (by kernel_rfl), Tryz.call8⟩
noncomputable def fn9 : FnI := ⟨93, 2251834173489139, Tryz.f9.results, Tryz.f9.body⟩
theorem qf9 : QF 9 fn9 := ⟨Tryz.f9, Tryz.func9, rfl, rfl, rfl, dstB_ok (by kernel_rfl), Tryz.call9⟩
noncomputable def fn10 : FnI := ⟨261, 26329679855183731044957103947801030930408923681587498015684292551, Tryz.f10.results, Tryz.f10.body⟩
theorem qf10 : QF 10 fn10 := ⟨Tryz.f10, Tryz.func10, rfl, rfl, rfl, dstB_ok (by kernel_rfl), Tryz.call10⟩
noncomputable def fn11 : FnI := ⟨90, 72057594046349303, Tryz.f11.results, Tryz.f11.body⟩
theorem qf11 : QF 11 fn11 := ⟨Tryz.f11, Tryz.func11, rfl, rfl, rfl, dstB_ok (by kernel_rfl), Tryz.call11⟩
noncomputable def fn12 : FnI := ⟨154, 166153539092324231390360539822554035, Tryz.f12.results, Tryz.f12.body⟩
theorem qf12 : QF 12 fn12 := ⟨Tryz.f12, Tryz.func12, rfl, rfl, rfl, dstB_ok (by kernel_rfl), Tryz.call12⟩
noncomputable def fn13 : FnI := ⟨294, 7957173683862691565021540912818990176847389432888493736138366910187684766304313196084123, Tryz.f13.results, Tryz.f13.body⟩
theorem qf13 : QF 13 fn13 := ⟨Tryz.f13, Tryz.func13, rfl, rfl, rfl, dstB_ok (by kernel_rfl), Tryz.call13⟩
noncomputable def fn14 : FnI := ⟨66, 526331, Tryz.f14.results, Tryz.f14.body⟩
theorem qf14 : QF 14 fn14 := ⟨Tryz.f14, Tryz.func14, rfl, rfl, rfl, dstB_ok (by kernel_rfl), Tryz.call14⟩
noncomputable def fn15 : FnI := ⟨264, 3705347064371957585253790636942349560615387524822564705759888924299251867958675, Tryz.f15.results, Tryz.f15.body⟩
theorem qf15 : QF 15 fn15 := ⟨Tryz.f15, Tryz.func15, rfl, rfl, rfl, dstB_ok (by kernel_rfl), Tryz.call15⟩
noncomputable def fn16 : FnI := ⟨18, 1005, Tryz.f16.results, Tryz.f16.body⟩
theorem qf16 : QF 16 fn16 := ⟨Tryz.f16, Tryz.func16, rfl, rfl, rfl, dstB_ok (by kernel_rfl), Tryz.call16⟩
noncomputable def fn17 : FnI := ⟨19, 7, Tryz.f17.results, Tryz.f17.body⟩
theorem qf17 : QF 17 fn17 := ⟨Tryz.f17, Tryz.func17, rfl, rfl, rfl, dstB_ok (by kernel_rfl), Tryz.call17⟩
noncomputable def fn18 : FnI := ⟨36, 34431041735, Tryz.f18.results, Tryz.f18.body⟩
theorem qf18 : QF 18 fn18 := ⟨Tryz.f18, Tryz.func18, rfl, rfl, rfl, dstB_ok (by kernel_rfl), Tryz.call18⟩
noncomputable def fn19 : FnI := ⟨274, 113078616574635686384709674657569084917063060932236928787824135861434154975, Tryz.f19.results, Tryz.f19.body⟩
theorem qf19 : QF 19 fn19 := ⟨Tryz.f19, Tryz.func19, rfl, rfl, rfl, dstB_ok (by kernel_rfl), Tryz.call19⟩
noncomputable def fn20 : FnI := ⟨28, 134759503, Tryz.f20.results, Tryz.f20.body⟩
theorem qf20 : QF 20 fn20 := ⟨Tryz.f20, Tryz.func20, rfl, rfl, rfl, dstB_ok (by kernel_rfl), Tryz.call20⟩
noncomputable def fn21 : FnI := ⟨36, 34897134669, Tryz.f21.results, Tryz.f21.body⟩
theorem qf21 : QF 21 fn21 := ⟨Tryz.f21, Tryz.func21, rfl, rfl, rfl, dstB_ok (by kernel_rfl), Tryz.call21⟩
noncomputable def fn22 : FnI := ⟨24, 15, Tryz.f22.results, Tryz.f22.body⟩
theorem qf22 : QF 22 fn22 := ⟨Tryz.f22, Tryz.func22, rfl, rfl, rfl, dstB_ok (by kernel_rfl), Tryz.call22⟩
noncomputable def fn23 : FnI := ⟨35, 4294983293, Tryz.f23.results, Tryz.f23.body⟩
theorem qf23 : QF 23 fn23 := ⟨Tryz.f23, Tryz.func23, rfl, rfl, rfl, dstB_ok (by kernel_rfl), Tryz.call23⟩
noncomputable def fn24 : FnI := ⟨91, 9671407101852590356561871, Tryz.f24.results, Tryz.f24.body⟩
theorem qf24 : QF 24 fn24 := ⟨Tryz.f24, Tryz.func24, rfl, rfl, rfl, dstB_ok (by kernel_rfl), Tryz.call24⟩
noncomputable def fn25 : FnI := ⟨15, 4597, Tryz.f25.results, Tryz.f25.body⟩
theorem qf25 : QF 25 fn25 := ⟨Tryz.f25, Tryz.func25, rfl, rfl, rfl, dstB_ok (by kernel_rfl), Tryz.call25⟩
noncomputable def fn26 : FnI := ⟨34, 8594654323, Tryz.f26.results, Tryz.f26.body⟩
theorem qf26 : QF 26 fn26 := ⟨Tryz.f26, Tryz.func26, rfl, rfl, rfl, dstB_ok (by kernel_rfl), Tryz.call26⟩
noncomputable def fn27 : FnI := ⟨58, 281475245281231, Tryz.f27.results, Tryz.f27.body⟩
theorem qf27 : QF 27 fn27 := ⟨Tryz.f27, Tryz.func27, rfl, rfl, rfl, dstB_ok (by kernel_rfl), Tryz.call27⟩
noncomputable def fn28 : FnI := ⟨7, 51, Tryz.f28.results, Tryz.f28.body⟩
theorem qf28 : QF 28 fn28 := ⟨Tryz.f28, Tryz.func28, rfl, rfl, rfl, dstB_ok (by kernel_rfl), Tryz.call28⟩
noncomputable def fn29 : FnI := ⟨26, 33571891, Tryz.f29.results, Tryz.f29.body⟩
theorem qf29 : QF 29 fn29 := ⟨Tryz.f29, Tryz.func29, rfl, rfl, rfl, dstB_ok (by kernel_rfl), Tryz.call29⟩
noncomputable def fn30 : FnI := ⟨34, 2099167, Tryz.f30.results, Tryz.f30.body⟩
theorem qf30 : QF 30 fn30 := ⟨Tryz.f30, Tryz.func30, rfl, rfl, rfl, dstB_ok (by kernel_rfl), Tryz.call30⟩
noncomputable def fn31 : FnI := ⟨18, 66783, Tryz.f31.results, Tryz.f31.body⟩
theorem qf31 : QF 31 fn31 := ⟨Tryz.f31, Tryz.func31, rfl, rfl, rfl, dstB_ok (by kernel_rfl), Tryz.call31⟩
noncomputable def fn32 : FnI := ⟨30, 1049087, Tryz.f32.results, Tryz.f32.body⟩
theorem qf32 : QF 32 fn32 := ⟨Tryz.f32, Tryz.func32, rfl, rfl, rfl, dstB_ok (by kernel_rfl), Tryz.call32⟩
noncomputable def fn33 : FnI := ⟨11, 23, Tryz.f33.results, Tryz.f33.body⟩
theorem qf33 : QF 33 fn33 := ⟨Tryz.f33, Tryz.func33, rfl, rfl, rfl, dstB_ok (by kernel_rfl), Tryz.call33⟩
noncomputable def fn34 : FnI := ⟨18, 1005, Tryz.f34.results, Tryz.f34.body⟩
theorem qf34 : QF 34 fn34 := ⟨Tryz.f34, Tryz.func34, rfl, rfl, rfl, dstB_ok (by kernel_rfl), Tryz.call34⟩
noncomputable def fn35 : FnI := ⟨42, 2199032168499, Tryz.f35.results, Tryz.f35.body⟩
theorem qf35 : QF 35 fn35 := ⟨Tryz.f35, Tryz.func35, rfl, rfl, rfl, dstB_ok (by kernel_rfl), Tryz.call35⟩
noncomputable def fn36 : FnI := ⟨12, 285, Tryz.f36.results, Tryz.f36.body⟩
theorem qf36 : QF 36 fn36 := ⟨Tryz.f36, Tryz.func36, rfl, rfl, rfl, dstB_ok (by kernel_rfl), Tryz.call36⟩
noncomputable def fn37 : FnI := ⟨41, 275012376541, Tryz.f37.results, Tryz.f37.body⟩
theorem qf37 : QF 37 fn37 := ⟨Tryz.f37, Tryz.func37, rfl, rfl, rfl, dstB_ok (by kernel_rfl), Tryz.call37⟩
noncomputable def fn38 : FnI := ⟨38, 137440004253, Tryz.f38.results, Tryz.f38.body⟩
theorem qf38 : QF 38 fn38 := ⟨Tryz.f38, Tryz.func38, rfl, rfl, rfl, dstB_ok (by kernel_rfl), Tryz.call38⟩
noncomputable def fn39 : FnI := ⟨30, 4381, Tryz.f39.results, Tryz.f39.body⟩
theorem qf39 : QF 39 fn39 := ⟨Tryz.f39, Tryz.func39, rfl, rfl, rfl, dstB_ok (by kernel_rfl), Tryz.call39⟩
noncomputable def fn40 : FnI := ⟨67, 18446752886982510077, Tryz.f40.results, Tryz.f40.body⟩
theorem qf40 : QF 40 fn40 := ⟨Tryz.f40, Tryz.func40, rfl, rfl, rfl, dstB_ok (by kernel_rfl), Tryz.call40⟩
noncomputable def fn41 : FnI := ⟨52, 562949953437309, Tryz.f41.results, Tryz.f41.body⟩
theorem qf41 : QF 41 fn41 := ⟨Tryz.f41, Tryz.func41, rfl, rfl, rfl, dstB_ok (by kernel_rfl), Tryz.call41⟩
noncomputable def fn42 : FnI := ⟨26, 33571891, Tryz.f42.results, Tryz.f42.body⟩
theorem qf42 : QF 42 fn42 := ⟨Tryz.f42, Tryz.func42, rfl, rfl, rfl, dstB_ok (by kernel_rfl), Tryz.call42⟩
noncomputable def fn43 : FnI := ⟨38, 73016545223, Tryz.f43.results, Tryz.f43.body⟩
theorem qf43 : QF 43 fn43 := ⟨Tryz.f43, Tryz.func43, rfl, rfl, rfl, dstB_ok (by kernel_rfl), Tryz.call43⟩
noncomputable def fn44 : FnI := ⟨45, 9346117812167, Tryz.f44.results, Tryz.f44.body⟩
theorem qf44 : QF 44 fn44 := ⟨Tryz.f44, Tryz.func44, rfl, rfl, rfl, dstB_ok (by kernel_rfl), Tryz.call44⟩
noncomputable def fn45 : FnI := ⟨26, 33571891, Tryz.f45.results, Tryz.f45.body⟩
theorem qf45 : QF 45 fn45 := ⟨Tryz.f45, Tryz.func45, rfl, rfl, rfl, dstB_ok (by kernel_rfl), Tryz.call45⟩
noncomputable def fn46 : FnI := ⟨18, 1005, Tryz.f46.results, Tryz.f46.body⟩
theorem qf46 : QF 46 fn46 := ⟨Tryz.f46, Tryz.func46, rfl, rfl, rfl, dstB_ok (by kernel_rfl), Tryz.call46⟩
noncomputable def fn47 : FnI := ⟨50, 2199032168499, Tryz.f47.results, Tryz.f47.body⟩
theorem qf47 : QF 47 fn47 := ⟨Tryz.f47, Tryz.func47, rfl, rfl, rfl, dstB_ok (by kernel_rfl), Tryz.call47⟩
noncomputable def fn48 : FnI := ⟨34, 2101199, Tryz.f48.results, Tryz.f48.body⟩
theorem qf48 : QF 48 fn48 := ⟨Tryz.f48, Tryz.func48, rfl, rfl, rfl, dstB_ok (by kernel_rfl), Tryz.call48⟩
noncomputable def fn49 : FnI := ⟨41, 36179919, Tryz.f49.results, Tryz.f49.body⟩
theorem qf49 : QF 49 fn49 := ⟨Tryz.f49, Tryz.func49, rfl, rfl, rfl, dstB_ok (by kernel_rfl), Tryz.call49⟩
noncomputable def fn50 : FnI := ⟨26, 33571891, Tryz.f50.results, Tryz.f50.body⟩
theorem qf50 : QF 50 fn50 := ⟨Tryz.f50, Tryz.func50, rfl, rfl, rfl, dstB_ok (by kernel_rfl), Tryz.call50⟩
noncomputable def fn51 : FnI := ⟨18, 1005, Tryz.f51.results, Tryz.f51.body⟩
theorem qf51 : QF 51 fn51 := ⟨Tryz.f51, Tryz.func51, rfl, rfl, rfl, dstB_ok (by kernel_rfl), Tryz.call51⟩
noncomputable def fn52 : FnI := ⟨52, 2251817010331871, Tryz.f52.results, Tryz.f52.body⟩
theorem qf52 : QF 52 fn52 := ⟨Tryz.f52, Tryz.func52, rfl, rfl, rfl, dstB_ok (by kernel_rfl), Tryz.call52⟩
noncomputable def fn53 : FnI := ⟨25, 525427, Tryz.f53.results, Tryz.f53.body⟩
theorem qf53 : QF 53 fn53 := ⟨Tryz.f53, Tryz.func53, rfl, rfl, rfl, dstB_ok (by kernel_rfl), Tryz.call53⟩
noncomputable def fn54 : FnI := ⟨12, 285, Tryz.f54.results, Tryz.f54.body⟩
theorem qf54 : QF 54 fn54 := ⟨Tryz.f54, Tryz.func54, rfl, rfl, rfl, dstB_ok (by kernel_rfl), Tryz.call54⟩
noncomputable def fn55 : FnI := ⟨46, 8800395995133, Tryz.f55.results, Tryz.f55.body⟩
theorem qf55 : QF 55 fn55 := ⟨Tryz.f55, Tryz.func55, rfl, rfl, rfl, dstB_ok (by kernel_rfl), Tryz.call55⟩
noncomputable def fn56 : FnI := ⟨55, 20442292120724093, Tryz.f56.results, Tryz.f56.body⟩
theorem qf56 : QF 56 fn56 := ⟨Tryz.f56, Tryz.func56, rfl, rfl, rfl, dstB_ok (by kernel_rfl), Tryz.call56⟩
noncomputable def fn57 : FnI := ⟨52, 2199157477661, Tryz.f57.results, Tryz.f57.body⟩
theorem qf57 : QF 57 fn57 := ⟨Tryz.f57, Tryz.func57, rfl, rfl, rfl, dstB_ok (by kernel_rfl), Tryz.call57⟩
noncomputable def fn58 : FnI := ⟨93, 1238242865656787508648779773, Tryz.f58.results, Tryz.f58.body⟩
theorem qf58 : QF 58 fn58 := ⟨Tryz.f58, Tryz.func58, rfl, rfl, rfl, dstB_ok (by kernel_rfl), Tryz.call58⟩
noncomputable def fn59 : FnI := ⟨51, 72883701348725, Tryz.f59.results, Tryz.f59.body⟩
theorem qf59 : QF 59 fn59 := ⟨Tryz.f59, Tryz.func59, rfl, rfl, rfl, dstB_ok (by kernel_rfl), Tryz.call59⟩
noncomputable def fn60 : FnI := ⟨26, 33571891, Tryz.f60.results, Tryz.f60.body⟩
theorem qf60 : QF 60 fn60 := ⟨Tryz.f60, Tryz.func60, rfl, rfl, rfl, dstB_ok (by kernel_rfl), Tryz.call60⟩
noncomputable def fn61 : FnI := ⟨40, 131645, Tryz.f61.results, Tryz.f61.body⟩
theorem qf61 : QF 61 fn61 := ⟨Tryz.f61, Tryz.func61, rfl, rfl, rfl, dstB_ok (by kernel_rfl), Tryz.call61⟩
noncomputable def fn62 : FnI := ⟨2, 1, Tryz.f62.results, Tryz.f62.body⟩
theorem qf62 : QF 62 fn62 := ⟨Tryz.f62, Tryz.func62, rfl, rfl, rfl, dstB_ok (by kernel_rfl), Tryz.call62⟩
noncomputable def fn63 : FnI := ⟨29, 16793527, Tryz.f63.results, Tryz.f63.body⟩
theorem qf63 : QF 63 fn63 := ⟨Tryz.f63, Tryz.func63, rfl, rfl, rfl, dstB_ok (by kernel_rfl), Tryz.call63⟩
noncomputable def fn64 : FnI := ⟨50, 4398047037693, Tryz.f64.results, Tryz.f64.body⟩
theorem qf64 : QF 64 fn64 := ⟨Tryz.f64, Tryz.func64, rfl, rfl, rfl, dstB_ok (by kernel_rfl), Tryz.call64⟩
noncomputable def fn65 : FnI := ⟨101, 1267805352180187889978824597747, Tryz.f65.results, Tryz.f65.body⟩
theorem qf65 : QF 65 fn65 := ⟨Tryz.f65, Tryz.func65, rfl, rfl, rfl, dstB_ok (by kernel_rfl), Tryz.call65⟩
noncomputable def fn66 : FnI := ⟨39, 137975825275, Tryz.f66.results, Tryz.f66.body⟩
theorem qf66 : QF 66 fn66 := ⟨Tryz.f66, Tryz.func66, rfl, rfl, rfl, dstB_ok (by kernel_rfl), Tryz.call66⟩
noncomputable def fn67 : FnI := ⟨55, 1099780345597, Tryz.f67.results, Tryz.f67.body⟩
theorem qf67 : QF 67 fn67 := ⟨Tryz.f67, Tryz.func67, rfl, rfl, rfl, dstB_ok (by kernel_rfl), Tryz.call67⟩
noncomputable def fn68 : FnI := ⟨60, 36034294581367805, Tryz.f68.results, Tryz.f68.body⟩
theorem qf68 : QF 68 fn68 := ⟨Tryz.f68, Tryz.func68, rfl, rfl, rfl, dstB_ok (by kernel_rfl), Tryz.call68⟩
noncomputable def fn69 : FnI := ⟨56, 9044587213504831, Tryz.f69.results, Tryz.f69.body⟩
theorem qf69 : QF 69 fn69 := ⟨Tryz.f69, Tryz.func69, rfl, rfl, rfl, dstB_ok (by kernel_rfl), Tryz.call69⟩
noncomputable def fn70 : FnI := ⟨28, 285, Tryz.f70.results, Tryz.f70.body⟩
theorem qf70 : QF 70 fn70 := ⟨Tryz.f70, Tryz.func70, rfl, rfl, rfl, dstB_ok (by kernel_rfl), Tryz.call70⟩
noncomputable def fn71 : FnI := ⟨82, 2417851639229258349429811, Tryz.f71.results, Tryz.f71.body⟩
theorem qf71 : QF 71 fn71 := ⟨Tryz.f71, Tryz.func71, rfl, rfl, rfl, dstB_ok (by kernel_rfl), Tryz.call71⟩
noncomputable def fn72 : FnI := ⟨34, 537919709, Tryz.f72.results, Tryz.f72.body⟩
theorem qf72 : QF 72 fn72 := ⟨Tryz.f72, Tryz.func72, rfl, rfl, rfl, dstB_ok (by kernel_rfl), Tryz.call72⟩
noncomputable def fn73 : FnI := ⟨25, 525565, Tryz.f73.results, Tryz.f73.body⟩
theorem qf73 : QF 73 fn73 := ⟨Tryz.f73, Tryz.func73, rfl, rfl, rfl, dstB_ok (by kernel_rfl), Tryz.call73⟩
noncomputable def fn74 : FnI := ⟨138, 43726367226248804931279956992153431842813, Tryz.f74.results, Tryz.f74.body⟩
theorem qf74 : QF 74 fn74 := ⟨Tryz.f74, Tryz.func74, rfl, rfl, rfl, dstB_ok (by kernel_rfl), Tryz.call74⟩
noncomputable def fn75 : FnI := ⟨59, 70437464715251, Tryz.f75.results, Tryz.f75.body⟩
theorem qf75 : QF 75 fn75 := ⟨Tryz.f75, Tryz.func75, rfl, rfl, rfl, dstB_ok (by kernel_rfl), Tryz.call75⟩
noncomputable def fn76 : FnI := ⟨90, 348171297861986743444762355, Tryz.f76.results, Tryz.f76.body⟩
theorem qf76 : QF 76 fn76 := ⟨Tryz.f76, Tryz.func76, rfl, rfl, rfl, dstB_ok (by kernel_rfl), Tryz.call76⟩
noncomputable def fn77 : FnI := ⟨27, 245933, Tryz.f77.results, Tryz.f77.body⟩
theorem qf77 : QF 77 fn77 := ⟨Tryz.f77, Tryz.func77, rfl, rfl, rfl, dstB_ok (by kernel_rfl), Tryz.call77⟩
noncomputable def fn78 : FnI := ⟨25, 245933, Tryz.f78.results, Tryz.f78.body⟩
theorem qf78 : QF 78 fn78 := ⟨Tryz.f78, Tryz.func78, rfl, rfl, rfl, dstB_ok (by kernel_rfl), Tryz.call78⟩
noncomputable def fn79 : FnI := ⟨11, 7, Tryz.f79.results, Tryz.f79.body⟩
theorem qf79 : QF 79 fn79 := ⟨Tryz.f79, Tryz.func79, rfl, rfl, rfl, dstB_ok (by kernel_rfl), Tryz.call79⟩
noncomputable def fn80 : FnI := ⟨22, 33021, Tryz.f80.results, Tryz.f80.body⟩
theorem qf80 : QF 80 fn80 := ⟨Tryz.f80, Tryz.func80, rfl, rfl, rfl, dstB_ok (by kernel_rfl), Tryz.call80⟩
noncomputable def fn81 : FnI := ⟨78, 303831909588178832831, Tryz.f81.results, Tryz.f81.body⟩
theorem qf81 : QF 81 fn81 := ⟨Tryz.f81, Tryz.func81, rfl, rfl, rfl, dstB_ok (by kernel_rfl), Tryz.call81⟩
noncomputable def fn82 : FnI := ⟨122, 2658455991569870705479716582836928639, Tryz.f82.results, Tryz.f82.body⟩
theorem qf82 : QF 82 fn82 := ⟨Tryz.f82, Tryz.func82, rfl, rfl, rfl, dstB_ok (by kernel_rfl), Tryz.call82⟩
noncomputable def fn83 : FnI := ⟨41, 15728687, Tryz.f83.results, Tryz.f83.body⟩
theorem qf83 : QF 83 fn83 := ⟨Tryz.f83, Tryz.func83, rfl, rfl, rfl, dstB_ok (by kernel_rfl), Tryz.call83⟩
noncomputable def fn84 : FnI := ⟨36, 134283707, Tryz.f84.results, Tryz.f84.body⟩
theorem qf84 : QF 84 fn84 := ⟨Tryz.f84, Tryz.func84, rfl, rfl, rfl, dstB_ok (by kernel_rfl), Tryz.call84⟩
noncomputable def fn85 : FnI := ⟨36, 8945819, Tryz.f85.results, Tryz.f85.body⟩
theorem qf85 : QF 85 fn85 := ⟨Tryz.f85, Tryz.func85, rfl, rfl, rfl, dstB_ok (by kernel_rfl), Tryz.call85⟩
noncomputable def fn86 : FnI := ⟨30, 4319423, Tryz.f86.results, Tryz.f86.body⟩
theorem qf86 : QF 86 fn86 := ⟨Tryz.f86, Tryz.func86, rfl, rfl, rfl, dstB_ok (by kernel_rfl), Tryz.call86⟩
noncomputable def fn87 : FnI := ⟨13, 287, Tryz.f87.results, Tryz.f87.body⟩
theorem qf87 : QF 87 fn87 := ⟨Tryz.f87, Tryz.func87, rfl, rfl, rfl, dstB_ok (by kernel_rfl), Tryz.call87⟩
noncomputable def fn88 : FnI := ⟨18, 131635, Tryz.f88.results, Tryz.f88.body⟩
theorem qf88 : QF 88 fn88 := ⟨Tryz.f88, Tryz.func88, rfl, rfl, rfl, dstB_ok (by kernel_rfl), Tryz.call88⟩
noncomputable def fn89 : FnI := ⟨3, 1, Tryz.f89.results, Tryz.f89.body⟩
theorem qf89 : QF 89 fn89 := ⟨Tryz.f89, Tryz.func89, rfl, rfl, rfl, dstB_ok (by kernel_rfl), Tryz.call89⟩
noncomputable def fn90 : FnI := ⟨4, 1, Tryz.f90.results, Tryz.f90.body⟩
theorem qf90 : QF 90 fn90 := ⟨Tryz.f90, Tryz.func90, rfl, rfl, rfl, dstB_ok (by kernel_rfl), Tryz.call90⟩
noncomputable def fn91 : FnI := ⟨5, 1, Tryz.f91.results, Tryz.f91.body⟩
theorem qf91 : QF 91 fn91 := ⟨Tryz.f91, Tryz.func91, rfl, rfl, rfl, dstB_ok (by kernel_rfl), Tryz.call91⟩
noncomputable def fn92 : FnI := ⟨28, 16777789, Tryz.f92.results, Tryz.f92.body⟩
theorem qf92 : QF 92 fn92 := ⟨Tryz.f92, Tryz.func92, rfl, rfl, rfl, dstB_ok (by kernel_rfl), Tryz.call92⟩
noncomputable def fn93 : FnI := ⟨15, 71, Tryz.f93.results, Tryz.f93.body⟩
theorem qf93 : QF 93 fn93 := ⟨Tryz.f93, Tryz.func93, rfl, rfl, rfl, dstB_ok (by kernel_rfl), Tryz.call93⟩
noncomputable def fn94 : FnI := ⟨56, 36028797019103293, Tryz.f94.results, Tryz.f94.body⟩
theorem qf94 : QF 94 fn94 := ⟨Tryz.f94, Tryz.func94, rfl, rfl, rfl, dstB_ok (by kernel_rfl), Tryz.call94⟩
noncomputable def fn95 : FnI := ⟨20, 262707, Tryz.f95.results, Tryz.f95.body⟩
theorem qf95 : QF 95 fn95 := ⟨Tryz.f95, Tryz.func95, rfl, rfl, rfl, dstB_ok (by kernel_rfl), Tryz.call95⟩
noncomputable def fn96 : FnI := ⟨37, 7, Tryz.f96.results, Tryz.f96.body⟩
theorem qf96 : QF 96 fn96 := ⟨Tryz.f96, Tryz.func96, rfl, rfl, rfl, dstB_ok (by kernel_rfl), Tryz.call96⟩
noncomputable def fn97 : FnI := ⟨9, 19, Tryz.f97.results, Tryz.f97.body⟩
theorem qf97 : QF 97 fn97 := ⟨Tryz.f97, Tryz.func97, rfl, rfl, rfl, dstB_ok (by kernel_rfl), Tryz.call97⟩
noncomputable def fn98 : FnI := ⟨6, 5, Tryz.f98.results, Tryz.f98.body⟩
theorem qf98 : QF 98 fn98 := ⟨Tryz.f98, Tryz.func98, rfl, rfl, rfl, dstB_ok (by kernel_rfl), Tryz.call98⟩
noncomputable def fn99 : FnI := ⟨16, 71, Tryz.f99.results, Tryz.f99.body⟩
theorem qf99 : QF 99 fn99 := ⟨Tryz.f99, Tryz.func99, rfl, rfl, rfl, dstB_ok (by kernel_rfl), Tryz.call99⟩
noncomputable def fn100 : FnI := ⟨15, 4597, Tryz.f100.results, Tryz.f100.body⟩
theorem qf100 : QF 100 fn100 := ⟨Tryz.f100, Tryz.func100, rfl, rfl, rfl, dstB_ok (by kernel_rfl), Tryz.call100⟩
noncomputable def fn101 : FnI := ⟨7, 51, Tryz.f101.results, Tryz.f101.body⟩
theorem qf101 : QF 101 fn101 := ⟨Tryz.f101, Tryz.func101, rfl, rfl, rfl, dstB_ok (by kernel_rfl), Tryz.call101⟩
noncomputable def fn102 : FnI := ⟨9, 19, Tryz.f102.results, Tryz.f102.body⟩
theorem qf102 : QF 102 fn102 := ⟨Tryz.f102, Tryz.func102, rfl, rfl, rfl, dstB_ok (by kernel_rfl), Tryz.call102⟩
noncomputable def fn103 : FnI := ⟨9, 15, Tryz.f103.results, Tryz.f103.body⟩
theorem qf103 : QF 103 fn103 := ⟨Tryz.f103, Tryz.func103, rfl, rfl, rfl, dstB_ok (by kernel_rfl), Tryz.call103⟩
noncomputable def fn104 : FnI := ⟨7, 5, Tryz.f104.results, Tryz.f104.body⟩
theorem qf104 : QF 104 fn104 := ⟨Tryz.f104, Tryz.func104, rfl, rfl, rfl, dstB_ok (by kernel_rfl), Tryz.call104⟩
noncomputable def fn105 : FnI := ⟨23, 7, Tryz.f105.results, Tryz.f105.body⟩
theorem qf105 : QF 105 fn105 := ⟨Tryz.f105, Tryz.func105, rfl, rfl, rfl, dstB_ok (by kernel_rfl), Tryz.call105⟩
noncomputable def fn106 : FnI := ⟨9, 19, Tryz.f106.results, Tryz.f106.body⟩
theorem qf106 : QF 106 fn106 := ⟨Tryz.f106, Tryz.func106, rfl, rfl, rfl, dstB_ok (by kernel_rfl), Tryz.call106⟩
noncomputable def fn107 : FnI := ⟨56, 18015498289549279, Tryz.f107.results, Tryz.f107.body⟩
theorem qf107 : QF 107 fn107 := ⟨Tryz.f107, Tryz.func107, rfl, rfl, rfl, dstB_ok (by kernel_rfl), Tryz.call107⟩
noncomputable def fn108 : FnI := ⟨34, 20031, Tryz.f108.results, Tryz.f108.body⟩
theorem qf108 : QF 108 fn108 := ⟨Tryz.f108, Tryz.func108, rfl, rfl, rfl, dstB_ok (by kernel_rfl), Tryz.call108⟩
noncomputable def fn109 : FnI := ⟨12, 19, Tryz.f109.results, Tryz.f109.body⟩
theorem qf109 : QF 109 fn109 := ⟨Tryz.f109, Tryz.func109, rfl, rfl, rfl, dstB_ok (by kernel_rfl), Tryz.call109⟩
noncomputable def fn110 : FnI := ⟨50, 563226978812127, Tryz.f110.results, Tryz.f110.body⟩
theorem qf110 : QF 110 fn110 := ⟨Tryz.f110, Tryz.func110, rfl, rfl, rfl, dstB_ok (by kernel_rfl), Tryz.call110⟩
noncomputable def fn111 : FnI := ⟨87, 37783678797701899123839, Tryz.f111.results, Tryz.f111.body⟩
theorem qf111 : QF 111 fn111 := ⟨Tryz.f111, Tryz.func111, rfl, rfl, rfl, dstB_ok (by kernel_rfl), Tryz.call111⟩
noncomputable def fn112 : FnI := ⟨8, 21, Tryz.f112.results, Tryz.f112.body⟩
theorem qf112 : QF 112 fn112 := ⟨Tryz.f112, Tryz.func112, rfl, rfl, rfl, dstB_ok (by kernel_rfl), Tryz.call112⟩
noncomputable def fn113 : FnI := ⟨19, 51, Tryz.f113.results, Tryz.f113.body⟩
theorem qf113 : QF 113 fn113 := ⟨Tryz.f113, Tryz.func113, rfl, rfl, rfl, dstB_ok (by kernel_rfl), Tryz.call113⟩
noncomputable def fn114 : FnI := ⟨60, 9008333130317215, Tryz.f114.results, Tryz.f114.body⟩
theorem qf114 : QF 114 fn114 := ⟨Tryz.f114, Tryz.func114, rfl, rfl, rfl, dstB_ok (by kernel_rfl), Tryz.call114⟩
noncomputable def fn115 : FnI := ⟨24, 1005, Tryz.f115.results, Tryz.f115.body⟩
theorem qf115 : QF 115 fn115 := ⟨Tryz.f115, Tryz.func115, rfl, rfl, rfl, dstB_ok (by kernel_rfl), Tryz.call115⟩
noncomputable def fn116 : FnI := ⟨8, 19, Tryz.f116.results, Tryz.f116.body⟩
theorem qf116 : QF 116 fn116 := ⟨Tryz.f116, Tryz.func116, rfl, rfl, rfl, dstB_ok (by kernel_rfl), Tryz.call116⟩
noncomputable def fn117 : FnI := ⟨13, 115, Tryz.f117.results, Tryz.f117.body⟩
theorem qf117 : QF 117 fn117 := ⟨Tryz.f117, Tryz.func117, rfl, rfl, rfl, dstB_ok (by kernel_rfl), Tryz.call117⟩
noncomputable def fn118 : FnI := ⟨25, 16844943, Tryz.f118.results, Tryz.f118.body⟩
theorem qf118 : QF 118 fn118 := ⟨Tryz.f118, Tryz.func118, rfl, rfl, rfl, dstB_ok (by kernel_rfl), Tryz.call118⟩
noncomputable def fn119 : FnI := ⟨32, 2097725, Tryz.f119.results, Tryz.f119.body⟩
theorem qf119 : QF 119 fn119 := ⟨Tryz.f119, Tryz.func119, rfl, rfl, rfl, dstB_ok (by kernel_rfl), Tryz.call119⟩
noncomputable def fn120 : FnI := ⟨6, 5, Tryz.f120.results, Tryz.f120.body⟩
theorem qf120 : QF 120 fn120 := ⟨Tryz.f120, Tryz.func120, rfl, rfl, rfl, dstB_ok (by kernel_rfl), Tryz.call120⟩
noncomputable def fn121 : FnI := ⟨106, 40237886980118479625305160647, Tryz.f121.results, Tryz.f121.body⟩
theorem qf121 : QF 121 fn121 := ⟨Tryz.f121, Tryz.func121, rfl, rfl, rfl, dstB_ok (by kernel_rfl), Tryz.call121⟩
noncomputable def fn122 : FnI := ⟨128, 42545700751166844367246222323540295623, Tryz.f122.results, Tryz.f122.body⟩
theorem qf122 : QF 122 fn122 := ⟨Tryz.f122, Tryz.func122, rfl, rfl, rfl, dstB_ok (by kernel_rfl), Tryz.call122⟩
noncomputable def fn123 : FnI := ⟨50, 31, Tryz.f123.results, Tryz.f123.body⟩
theorem qf123 : QF 123 fn123 := ⟨Tryz.f123, Tryz.func123, rfl, rfl, rfl, dstB_ok (by kernel_rfl), Tryz.call123⟩
noncomputable def fn124 : FnI := ⟨78, 18954048166894533382131, Tryz.f124.results, Tryz.f124.body⟩
theorem qf124 : QF 124 fn124 := ⟨Tryz.f124, Tryz.func124, rfl, rfl, rfl, dstB_ok (by kernel_rfl), Tryz.call124⟩
noncomputable def fn125 : FnI := ⟨60, 576460752572907527, Tryz.f125.results, Tryz.f125.body⟩
theorem qf125 : QF 125 fn125 := ⟨Tryz.f125, Tryz.func125, rfl, rfl, rfl, dstB_ok (by kernel_rfl), Tryz.call125⟩
noncomputable def fn126 : FnI := ⟨84, 9223934991111586807, Tryz.f126.results, Tryz.f126.body⟩
theorem qf126 : QF 126 fn126 := ⟨Tryz.f126, Tryz.func126, rfl, rfl, rfl, dstB_ok (by kernel_rfl), Tryz.call126⟩
noncomputable def fn127 : FnI := ⟨40, 4311753709, Tryz.f127.results, Tryz.f127.body⟩
theorem qf127 : QF 127 fn127 := ⟨Tryz.f127, Tryz.func127, rfl, rfl, rfl, dstB_ok (by kernel_rfl), Tryz.call127⟩
noncomputable def fn128 : FnI := ⟨21, 18349, Tryz.f128.results, Tryz.f128.body⟩
theorem qf128 : QF 128 fn128 := ⟨Tryz.f128, Tryz.func128, rfl, rfl, rfl, dstB_ok (by kernel_rfl), Tryz.call128⟩
noncomputable def fn129 : FnI := ⟨65, 2199157606525, Tryz.f129.results, Tryz.f129.body⟩
theorem qf129 : QF 129 fn129 := ⟨Tryz.f129, Tryz.func129, rfl, rfl, rfl, dstB_ok (by kernel_rfl), Tryz.call129⟩
noncomputable def fn130 : FnI := ⟨37, 71169081631, Tryz.f130.results, Tryz.f130.body⟩
theorem qf130 : QF 130 fn130 := ⟨Tryz.f130, Tryz.func130, rfl, rfl, rfl, dstB_ok (by kernel_rfl), Tryz.call130⟩
noncomputable def fn131 : FnI := ⟨5, 5, Tryz.f131.results, Tryz.f131.body⟩
theorem qf131 : QF 131 fn131 := ⟨Tryz.f131, Tryz.func131, rfl, rfl, rfl, dstB_ok (by kernel_rfl), Tryz.call131⟩
noncomputable def fn132 : FnI := ⟨24, 33053, Tryz.f132.results, Tryz.f132.body⟩
theorem qf132 : QF 132 fn132 := ⟨Tryz.f132, Tryz.func132, rfl, rfl, rfl, dstB_ok (by kernel_rfl), Tryz.call132⟩
noncomputable def fn133 : FnI := ⟨35, 16779507, Tryz.f133.results, Tryz.f133.body⟩
theorem qf133 : QF 133 fn133 := ⟨Tryz.f133, Tryz.func133, rfl, rfl, rfl, dstB_ok (by kernel_rfl), Tryz.call133⟩
noncomputable def fn134 : FnI := ⟨10, 285, Tryz.f134.results, Tryz.f134.body⟩
theorem qf134 : QF 134 fn134 := ⟨Tryz.f134, Tryz.func134, rfl, rfl, rfl, dstB_ok (by kernel_rfl), Tryz.call134⟩
noncomputable def fn135 : FnI := ⟨49, 549898420285, Tryz.f135.results, Tryz.f135.body⟩
theorem qf135 : QF 135 fn135 := ⟨Tryz.f135, Tryz.func135, rfl, rfl, rfl, dstB_ok (by kernel_rfl), Tryz.call135⟩
noncomputable def fn136 : FnI := ⟨48, 137506095159, Tryz.f136.results, Tryz.f136.body⟩
theorem qf136 : QF 136 fn136 := ⟨Tryz.f136, Tryz.func136, rfl, rfl, rfl, dstB_ok (by kernel_rfl), Tryz.call136⟩
noncomputable def fn137 : FnI := ⟨66, 68787117789, Tryz.f137.results, Tryz.f137.body⟩
theorem qf137 : QF 137 fn137 := ⟨Tryz.f137, Tryz.func137, rfl, rfl, rfl, dstB_ok (by kernel_rfl), Tryz.call137⟩
noncomputable def fn138 : FnI := ⟨35, 2282227827, Tryz.f138.results, Tryz.f138.body⟩
theorem qf138 : QF 138 fn138 := ⟨Tryz.f138, Tryz.func138, rfl, rfl, rfl, dstB_ok (by kernel_rfl), Tryz.call138⟩
noncomputable def fn139 : FnI := ⟨38, 537924095, Tryz.f139.results, Tryz.f139.body⟩
theorem qf139 : QF 139 fn139 := ⟨Tryz.f139, Tryz.func139, rfl, rfl, rfl, dstB_ok (by kernel_rfl), Tryz.call139⟩
noncomputable def fn140 : FnI := ⟨53, 4503702706598639, Tryz.f140.results, Tryz.f140.body⟩
theorem qf140 : QF 140 fn140 := ⟨Tryz.f140, Tryz.func140, rfl, rfl, rfl, dstB_ok (by kernel_rfl), Tryz.call140⟩
noncomputable def fn141 : FnI := ⟨12, 15, Tryz.f141.results, Tryz.f141.body⟩
theorem qf141 : QF 141 fn141 := ⟨Tryz.f141, Tryz.func141, rfl, rfl, rfl, dstB_ok (by kernel_rfl), Tryz.call141⟩
noncomputable def fn142 : FnI := ⟨58, 275146342899, Tryz.f142.results, Tryz.f142.body⟩
theorem qf142 : QF 142 fn142 := ⟨Tryz.f142, Tryz.func142, rfl, rfl, rfl, dstB_ok (by kernel_rfl), Tryz.call142⟩
noncomputable def fn143 : FnI := ⟨81, 302231599019945418033149, Tryz.f143.results, Tryz.f143.body⟩
theorem qf143 : QF 143 fn143 := ⟨Tryz.f143, Tryz.func143, rfl, rfl, rfl, dstB_ok (by kernel_rfl), Tryz.call143⟩
noncomputable def fn144 : FnI := ⟨21, 149661, Tryz.f144.results, Tryz.f144.body⟩
theorem qf144 : QF 144 fn144 := ⟨Tryz.f144, Tryz.func144, rfl, rfl, rfl, dstB_ok (by kernel_rfl), Tryz.call144⟩
noncomputable def fn145 : FnI := ⟨53, 70373039276095, Tryz.f145.results, Tryz.f145.body⟩
theorem qf145 : QF 145 fn145 := ⟨Tryz.f145, Tryz.func145, rfl, rfl, rfl, dstB_ok (by kernel_rfl), Tryz.call145⟩
noncomputable def fn146 : FnI := ⟨30, 69437949, Tryz.f146.results, Tryz.f146.body⟩
theorem qf146 : QF 146 fn146 := ⟨Tryz.f146, Tryz.func146, rfl, rfl, rfl, dstB_ok (by kernel_rfl), Tryz.call146⟩
noncomputable def fn147 : FnI := ⟨79, 9800963089259041277, Tryz.f147.results, Tryz.f147.body⟩
theorem qf147 : QF 147 fn147 := ⟨Tryz.f147, Tryz.func147, rfl, rfl, rfl, dstB_ok (by kernel_rfl), Tryz.call147⟩
noncomputable def fn148 : FnI := ⟨19, 541, Tryz.f148.results, Tryz.f148.body⟩
theorem qf148 : QF 148 fn148 := ⟨Tryz.f148, Tryz.func148, rfl, rfl, rfl, dstB_ok (by kernel_rfl), Tryz.call148⟩
noncomputable def fn149 : FnI := ⟨6, 5, Tryz.f149.results, Tryz.f149.body⟩
theorem qf149 : QF 149 fn149 := ⟨Tryz.f149, Tryz.func149, rfl, rfl, rfl, dstB_ok (by kernel_rfl), Tryz.call149⟩
noncomputable def fn150 : FnI := ⟨109, 81763502478415951443379863173619, Tryz.f150.results, Tryz.f150.body⟩
theorem qf150 : QF 150 fn150 := ⟨Tryz.f150, Tryz.func150, rfl, rfl, rfl, dstB_ok (by kernel_rfl), Tryz.call150⟩
noncomputable def fn151 : FnI := ⟨12, 5, Tryz.f151.results, Tryz.f151.body⟩
theorem qf151 : QF 151 fn151 := ⟨Tryz.f151, Tryz.func151, rfl, rfl, rfl, dstB_ok (by kernel_rfl), Tryz.call151⟩
noncomputable def fn152 : FnI := ⟨14, 3, Tryz.f152.results, Tryz.f152.body⟩
theorem qf152 : QF 152 fn152 := ⟨Tryz.f152, Tryz.func152, rfl, rfl, rfl, dstB_ok (by kernel_rfl), Tryz.call152⟩
noncomputable def fn153 : FnI := ⟨65, 576742235870072819, Tryz.f153.results, Tryz.f153.body⟩
theorem qf153 : QF 153 fn153 := ⟨Tryz.f153, Tryz.func153, rfl, rfl, rfl, dstB_ok (by kernel_rfl), Tryz.call153⟩
noncomputable def fn154 : FnI := ⟨7, 1, Tryz.f154.results, Tryz.f154.body⟩
theorem qf154 : QF 154 fn154 := ⟨Tryz.f154, Tryz.func154, rfl, rfl, rfl, dstB_ok (by kernel_rfl), Tryz.call154⟩
noncomputable def fn155 : FnI := ⟨23, 261, Tryz.f155.results, Tryz.f155.body⟩
theorem qf155 : QF 155 fn155 := ⟨Tryz.f155, Tryz.func155, rfl, rfl, rfl, dstB_ok (by kernel_rfl), Tryz.call155⟩
noncomputable def fn156 : FnI := ⟨12, 7, Tryz.f156.results, Tryz.f156.body⟩
theorem qf156 : QF 156 fn156 := ⟨Tryz.f156, Tryz.func156, rfl, rfl, rfl, dstB_ok (by kernel_rfl), Tryz.call156⟩
noncomputable def fn157 : FnI := ⟨19, 51, Tryz.f157.results, Tryz.f157.body⟩
theorem qf157 : QF 157 fn157 := ⟨Tryz.f157, Tryz.func157, rfl, rfl, rfl, dstB_ok (by kernel_rfl), Tryz.call157⟩
noncomputable def fn158 : FnI := ⟨14, 5, Tryz.f158.results, Tryz.f158.body⟩
theorem qf158 : QF 158 fn158 := ⟨Tryz.f158, Tryz.func158, rfl, rfl, rfl, dstB_ok (by kernel_rfl), Tryz.call158⟩
noncomputable def fn159 : FnI := ⟨37, 7864367, Tryz.f159.results, Tryz.f159.body⟩
theorem qf159 : QF 159 fn159 := ⟨Tryz.f159, Tryz.func159, rfl, rfl, rfl, dstB_ok (by kernel_rfl), Tryz.call159⟩
noncomputable def fn160 : FnI := ⟨69, 144115188144079099, Tryz.f160.results, Tryz.f160.body⟩
theorem qf160 : QF 160 fn160 := ⟨Tryz.f160, Tryz.func160, rfl, rfl, rfl, dstB_ok (by kernel_rfl), Tryz.call160⟩
noncomputable def fn161 : FnI := ⟨18, 1, Tryz.f161.results, Tryz.f161.body⟩
theorem qf161 : QF 161 fn161 := ⟨Tryz.f161, Tryz.func161, rfl, rfl, rfl, dstB_ok (by kernel_rfl), Tryz.call161⟩
noncomputable def fn162 : FnI := ⟨19, 66483, Tryz.f162.results, Tryz.f162.body⟩
theorem qf162 : QF 162 fn162 := ⟨Tryz.f162, Tryz.func162, rfl, rfl, rfl, dstB_ok (by kernel_rfl), Tryz.call162⟩
noncomputable def fn163 : FnI := ⟨19, 66483, Tryz.f163.results, Tryz.f163.body⟩
theorem qf163 : QF 163 fn163 := ⟨Tryz.f163, Tryz.func163, rfl, rfl, rfl, dstB_ok (by kernel_rfl), Tryz.call163⟩
noncomputable def fn164 : FnI := ⟨37, 536871389, Tryz.f164.results, Tryz.f164.body⟩
theorem qf164 : QF 164 fn164 := ⟨Tryz.f164, Tryz.func164, rfl, rfl, rfl, dstB_ok (by kernel_rfl), Tryz.call164⟩
noncomputable def fn165 : FnI := ⟨19, 66483, Tryz.f165.results, Tryz.f165.body⟩
theorem qf165 : QF 165 fn165 := ⟨Tryz.f165, Tryz.func165, rfl, rfl, rfl, dstB_ok (by kernel_rfl), Tryz.call165⟩
noncomputable def fn166 : FnI := ⟨16, 31, Tryz.f166.results, Tryz.f166.body⟩
theorem qf166 : QF 166 fn166 := ⟨Tryz.f166, Tryz.func166, rfl, rfl, rfl, dstB_ok (by kernel_rfl), Tryz.call166⟩
noncomputable def fn167 : FnI := ⟨55, 33556175, Tryz.f167.results, Tryz.f167.body⟩
theorem qf167 : QF 167 fn167 := ⟨Tryz.f167, Tryz.func167, rfl, rfl, rfl, dstB_ok (by kernel_rfl), Tryz.call167⟩
noncomputable def fn168 : FnI := ⟨24, 31, Tryz.f168.results, Tryz.f168.body⟩
theorem qf168 : QF 168 fn168 := ⟨Tryz.f168, Tryz.func168, rfl, rfl, rfl, dstB_ok (by kernel_rfl), Tryz.call168⟩
noncomputable def fn169 : FnI := ⟨75, 138351151749653378483, Tryz.f169.results, Tryz.f169.body⟩
theorem qf169 : QF 169 fn169 := ⟨Tryz.f169, Tryz.func169, rfl, rfl, rfl, dstB_ok (by kernel_rfl), Tryz.call169⟩
noncomputable def fn170 : FnI := ⟨66, 2267743825679, Tryz.f170.results, Tryz.f170.body⟩
theorem qf170 : QF 170 fn170 := ⟨Tryz.f170, Tryz.func170, rfl, rfl, rfl, dstB_ok (by kernel_rfl), Tryz.call170⟩
noncomputable def fn171 : FnI := ⟨23, 4339, Tryz.f171.results, Tryz.f171.body⟩
theorem qf171 : QF 171 fn171 := ⟨Tryz.f171, Tryz.func171, rfl, rfl, rfl, dstB_ok (by kernel_rfl), Tryz.call171⟩
noncomputable def fn172 : FnI := ⟨41, 5, Tryz.f172.results, Tryz.f172.body⟩
theorem qf172 : QF 172 fn172 := ⟨Tryz.f172, Tryz.func172, rfl, rfl, rfl, dstB_ok (by kernel_rfl), Tryz.call172⟩
noncomputable def fn173 : FnI := ⟨9, 19, Tryz.f173.results, Tryz.f173.body⟩
theorem qf173 : QF 173 fn173 := ⟨Tryz.f173, Tryz.func173, rfl, rfl, rfl, dstB_ok (by kernel_rfl), Tryz.call173⟩
noncomputable def fn174 : FnI := ⟨41, 5, Tryz.f174.results, Tryz.f174.body⟩
theorem qf174 : QF 174 fn174 := ⟨Tryz.f174, Tryz.func174, rfl, rfl, rfl, dstB_ok (by kernel_rfl), Tryz.call174⟩
noncomputable def fn175 : FnI := ⟨20, 1965, Tryz.f175.results, Tryz.f175.body⟩
theorem qf175 : QF 175 fn175 := ⟨Tryz.f175, Tryz.func175, rfl, rfl, rfl, dstB_ok (by kernel_rfl), Tryz.call175⟩
noncomputable def fn176 : FnI := ⟨9, 13, Tryz.f176.results, Tryz.f176.body⟩
theorem qf176 : QF 176 fn176 := ⟨Tryz.f176, Tryz.func176, rfl, rfl, rfl, dstB_ok (by kernel_rfl), Tryz.call176⟩
noncomputable def fn177 : FnI := ⟨4, 7, Tryz.f177.results, Tryz.f177.body⟩
theorem qf177 : QF 177 fn177 := ⟨Tryz.f177, Tryz.func177, rfl, rfl, rfl, dstB_ok (by kernel_rfl), Tryz.call177⟩
noncomputable def fn178 : FnI := ⟨36, 2097459, Tryz.f178.results, Tryz.f178.body⟩
theorem qf178 : QF 178 fn178 := ⟨Tryz.f178, Tryz.func178, rfl, rfl, rfl, dstB_ok (by kernel_rfl), Tryz.call178⟩
noncomputable def fn179 : FnI := ⟨9, 19, Tryz.f179.results, Tryz.f179.body⟩
theorem qf179 : QF 179 fn179 := ⟨Tryz.f179, Tryz.func179, rfl, rfl, rfl, dstB_ok (by kernel_rfl), Tryz.call179⟩
noncomputable def fn180 : FnI := ⟨15, 4597, Tryz.f180.results, Tryz.f180.body⟩
theorem qf180 : QF 180 fn180 := ⟨Tryz.f180, Tryz.func180, rfl, rfl, rfl, dstB_ok (by kernel_rfl), Tryz.call180⟩
noncomputable def fn181 : FnI := ⟨7, 51, Tryz.f181.results, Tryz.f181.body⟩
theorem qf181 : QF 181 fn181 := ⟨Tryz.f181, Tryz.func181, rfl, rfl, rfl, dstB_ok (by kernel_rfl), Tryz.call181⟩
noncomputable def fn182 : FnI := ⟨16, 71, Tryz.f182.results, Tryz.f182.body⟩
theorem qf182 : QF 182 fn182 := ⟨Tryz.f182, Tryz.func182, rfl, rfl, rfl, dstB_ok (by kernel_rfl), Tryz.call182⟩
noncomputable def fn183 : FnI := ⟨71, 563087392506491, Tryz.f183.results, Tryz.f183.body⟩
theorem qf183 : QF 183 fn183 := ⟨Tryz.f183, Tryz.func183, rfl, rfl, rfl, dstB_ok (by kernel_rfl), Tryz.call183⟩
noncomputable def fn184 : FnI := ⟨72, 332082508740568391991, Tryz.f184.results, Tryz.f184.body⟩
theorem qf184 : QF 184 fn184 := ⟨Tryz.f184, Tryz.func184, rfl, rfl, rfl, dstB_ok (by kernel_rfl), Tryz.call184⟩
noncomputable def fn185 : FnI := ⟨5, 5, Tryz.f185.results, Tryz.f185.body⟩
theorem qf185 : QF 185 fn185 := ⟨Tryz.f185, Tryz.func185, rfl, rfl, rfl, dstB_ok (by kernel_rfl), Tryz.call185⟩
noncomputable def fn186 : FnI := ⟨28, 61, Tryz.f186.results, Tryz.f186.body⟩
theorem qf186 : QF 186 fn186 := ⟨Tryz.f186, Tryz.func186, rfl, rfl, rfl, dstB_ok (by kernel_rfl), Tryz.call186⟩
noncomputable def fn187 : FnI := ⟨6, 5, Tryz.f187.results, Tryz.f187.body⟩
theorem qf187 : QF 187 fn187 := ⟨Tryz.f187, Tryz.func187, rfl, rfl, rfl, dstB_ok (by kernel_rfl), Tryz.call187⟩
noncomputable def fn188 : FnI := ⟨19, 66483, Tryz.f188.results, Tryz.f188.body⟩
theorem qf188 : QF 188 fn188 := ⟨Tryz.f188, Tryz.func188, rfl, rfl, rfl, dstB_ok (by kernel_rfl), Tryz.call188⟩
noncomputable def fn189 : FnI := ⟨8, 15, Tryz.f189.results, Tryz.f189.body⟩
theorem qf189 : QF 189 fn189 := ⟨Tryz.f189, Tryz.func189, rfl, rfl, rfl, dstB_ok (by kernel_rfl), Tryz.call189⟩
noncomputable def fn190 : FnI := ⟨38, 1074724911, Tryz.f190.results, Tryz.f190.body⟩
theorem qf190 : QF 190 fn190 := ⟨Tryz.f190, Tryz.func190, rfl, rfl, rfl, dstB_ok (by kernel_rfl), Tryz.call190⟩
noncomputable def fn191 : FnI := ⟨28, 957, Tryz.f191.results, Tryz.f191.body⟩
theorem qf191 : QF 191 fn191 := ⟨Tryz.f191, Tryz.func191, rfl, rfl, rfl, dstB_ok (by kernel_rfl), Tryz.call191⟩
noncomputable def fn192 : FnI := ⟨43, 17181970547, Tryz.f192.results, Tryz.f192.body⟩
theorem qf192 : QF 192 fn192 := ⟨Tryz.f192, Tryz.func192, rfl, rfl, rfl, dstB_ok (by kernel_rfl), Tryz.call192⟩
noncomputable def fn193 : FnI := ⟨45, 1981, Tryz.f193.results, Tryz.f193.body⟩
theorem qf193 : QF 193 fn193 := ⟨Tryz.f193, Tryz.func193, rfl, rfl, rfl, dstB_ok (by kernel_rfl), Tryz.call193⟩
noncomputable def fn194 : FnI := ⟨23, 524429, Tryz.f194.results, Tryz.f194.body⟩
theorem qf194 : QF 194 fn194 := ⟨Tryz.f194, Tryz.func194, rfl, rfl, rfl, dstB_ok (by kernel_rfl), Tryz.call194⟩
noncomputable def fn195 : FnI := ⟨4, 7, Tryz.f195.results, Tryz.f195.body⟩
theorem qf195 : QF 195 fn195 := ⟨Tryz.f195, Tryz.func195, rfl, rfl, rfl, dstB_ok (by kernel_rfl), Tryz.call195⟩
noncomputable def fn196 : FnI := ⟨76, 1073774843, Tryz.f196.results, Tryz.f196.body⟩
theorem qf196 : QF 196 fn196 := ⟨Tryz.f196, Tryz.func196, rfl, rfl, rfl, dstB_ok (by kernel_rfl), Tryz.call196⟩
noncomputable def fn197 : FnI := ⟨20, 524365, Tryz.f197.results, Tryz.f197.body⟩
theorem qf197 : QF 197 fn197 := ⟨Tryz.f197, Tryz.func197, rfl, rfl, rfl, dstB_ok (by kernel_rfl), Tryz.call197⟩
noncomputable def fn198 : FnI := ⟨76, 226008714174066491743, Tryz.f198.results, Tryz.f198.body⟩
theorem qf198 : QF 198 fn198 := ⟨Tryz.f198, Tryz.func198, rfl, rfl, rfl, dstB_ok (by kernel_rfl), Tryz.call198⟩
noncomputable def fn199 : FnI := ⟨3, 1, Tryz.f199.results, Tryz.f199.body⟩
theorem qf199 : QF 199 fn199 := ⟨Tryz.f199, Tryz.func199, rfl, rfl, rfl, dstB_ok (by kernel_rfl), Tryz.call199⟩
noncomputable def fn200 : FnI := ⟨93, 576531121051798719, Tryz.f200.results, Tryz.f200.body⟩
theorem qf200 : QF 200 fn200 := ⟨Tryz.f200, Tryz.func200, rfl, rfl, rfl, dstB_ok (by kernel_rfl), Tryz.call200⟩
noncomputable def fn201 : FnI := ⟨32, 2097695, Tryz.f201.results, Tryz.f201.body⟩
theorem qf201 : QF 201 fn201 := ⟨Tryz.f201, Tryz.func201, rfl, rfl, rfl, dstB_ok (by kernel_rfl), Tryz.call201⟩
noncomputable def fn202 : FnI := ⟨27, 263231, Tryz.f202.results, Tryz.f202.body⟩
theorem qf202 : QF 202 fn202 := ⟨Tryz.f202, Tryz.func202, rfl, rfl, rfl, dstB_ok (by kernel_rfl), Tryz.call202⟩
noncomputable def fn203 : FnI := ⟨33, 4198519, Tryz.f203.results, Tryz.f203.body⟩
theorem qf203 : QF 203 fn203 := ⟨Tryz.f203, Tryz.func203, rfl, rfl, rfl, dstB_ok (by kernel_rfl), Tryz.call203⟩
noncomputable def fn204 : FnI := ⟨5, 5, Tryz.f204.results, Tryz.f204.body⟩
theorem qf204 : QF 204 fn204 := ⟨Tryz.f204, Tryz.func204, rfl, rfl, rfl, dstB_ok (by kernel_rfl), Tryz.call204⟩
noncomputable def fn205 : FnI := ⟨64, 2251799813686271, Tryz.f205.results, Tryz.f205.body⟩
theorem qf205 : QF 205 fn205 := ⟨Tryz.f205, Tryz.func205, rfl, rfl, rfl, dstB_ok (by kernel_rfl), Tryz.call205⟩
noncomputable def fn206 : FnI := ⟨20, 63, Tryz.f206.results, Tryz.f206.body⟩
theorem qf206 : QF 206 fn206 := ⟨Tryz.f206, Tryz.func206, rfl, rfl, rfl, dstB_ok (by kernel_rfl), Tryz.call206⟩
noncomputable def fn207 : FnI := ⟨25, 45, Tryz.f207.results, Tryz.f207.body⟩
theorem qf207 : QF 207 fn207 := ⟨Tryz.f207, Tryz.func207, rfl, rfl, rfl, dstB_ok (by kernel_rfl), Tryz.call207⟩
noncomputable def fn208 : FnI := ⟨29, 131455, Tryz.f208.results, Tryz.f208.body⟩
theorem qf208 : QF 208 fn208 := ⟨Tryz.f208, Tryz.func208, rfl, rfl, rfl, dstB_ok (by kernel_rfl), Tryz.call208⟩
noncomputable def fn209 : FnI := ⟨53, 549755814911, Tryz.f209.results, Tryz.f209.body⟩
theorem qf209 : QF 209 fn209 := ⟨Tryz.f209, Tryz.func209, rfl, rfl, rfl, dstB_ok (by kernel_rfl), Tryz.call209⟩
noncomputable def fn210 : FnI := ⟨18, 29, Tryz.f210.results, Tryz.f210.body⟩
theorem qf210 : QF 210 fn210 := ⟨Tryz.f210, Tryz.func210, rfl, rfl, rfl, dstB_ok (by kernel_rfl), Tryz.call210⟩
noncomputable def fn211 : FnI := ⟨99, 1208925838191977637862911, Tryz.f211.results, Tryz.f211.body⟩
theorem qf211 : QF 211 fn211 := ⟨Tryz.f211, Tryz.func211, rfl, rfl, rfl, dstB_ok (by kernel_rfl), Tryz.call211⟩
noncomputable def fn212 : FnI := ⟨111, 39614232391916637634083028893, Tryz.f212.results, Tryz.f212.body⟩
theorem qf212 : QF 212 fn212 := ⟨Tryz.f212, Tryz.func212, rfl, rfl, rfl, dstB_ok (by kernel_rfl), Tryz.call212⟩
noncomputable def fn213 : FnI := ⟨30, 2112885, Tryz.f213.results, Tryz.f213.body⟩
theorem qf213 : QF 213 fn213 := ⟨Tryz.f213, Tryz.func213, rfl, rfl, rfl, dstB_ok (by kernel_rfl), Tryz.call213⟩
noncomputable def fn214 : FnI := ⟨29, 8519797, Tryz.f214.results, Tryz.f214.body⟩
theorem qf214 : QF 214 fn214 := ⟨Tryz.f214, Tryz.func214, rfl, rfl, rfl, dstB_ok (by kernel_rfl), Tryz.call214⟩
noncomputable def fn215 : FnI := ⟨17, 245, Tryz.f215.results, Tryz.f215.body⟩
theorem qf215 : QF 215 fn215 := ⟨Tryz.f215, Tryz.func215, rfl, rfl, rfl, dstB_ok (by kernel_rfl), Tryz.call215⟩
noncomputable def fn216 : FnI := ⟨41, 17180919415, Tryz.f216.results, Tryz.f216.body⟩
theorem qf216 : QF 216 fn216 := ⟨Tryz.f216, Tryz.func216, rfl, rfl, rfl, dstB_ok (by kernel_rfl), Tryz.call216⟩
noncomputable def fn217 : FnI := ⟨8, 21, Tryz.f217.results, Tryz.f217.body⟩
theorem qf217 : QF 217 fn217 := ⟨Tryz.f217, Tryz.func217, rfl, rfl, rfl, dstB_ok (by kernel_rfl), Tryz.call217⟩
noncomputable def fn218 : FnI := ⟨20, 524353, Tryz.f218.results, Tryz.f218.body⟩
theorem qf218 : QF 218 fn218 := ⟨Tryz.f218, Tryz.func218, rfl, rfl, rfl, dstB_ok (by kernel_rfl), Tryz.call218⟩
noncomputable def fn219 : FnI := ⟨8, 21, Tryz.f219.results, Tryz.f219.body⟩
theorem qf219 : QF 219 fn219 := ⟨Tryz.f219, Tryz.func219, rfl, rfl, rfl, dstB_ok (by kernel_rfl), Tryz.call219⟩
noncomputable def fn220 : FnI := ⟨8, 21, Tryz.f220.results, Tryz.f220.body⟩
theorem qf220 : QF 220 fn220 := ⟨Tryz.f220, Tryz.func220, rfl, rfl, rfl, dstB_ok (by kernel_rfl), Tryz.call220⟩
noncomputable def fn221 : FnI := ⟨8, 21, Tryz.f221.results, Tryz.f221.body⟩
theorem qf221 : QF 221 fn221 := ⟨Tryz.f221, Tryz.func221, rfl, rfl, rfl, dstB_ok (by kernel_rfl), Tryz.call221⟩
noncomputable def fn222 : FnI := ⟨11, 7, Tryz.f222.results, Tryz.f222.body⟩
theorem qf222 : QF 222 fn222 := ⟨Tryz.f222, Tryz.func222, rfl, rfl, rfl, dstB_ok (by kernel_rfl), Tryz.call222⟩
noncomputable def fn223 : FnI := ⟨4, 7, Tryz.f223.results, Tryz.f223.body⟩
theorem qf223 : QF 223 fn223 := ⟨Tryz.f223, Tryz.func223, rfl, rfl, rfl, dstB_ok (by kernel_rfl), Tryz.call223⟩
noncomputable def fn224 : FnI := ⟨11, 7, Tryz.f224.results, Tryz.f224.body⟩
theorem qf224 : QF 224 fn224 := ⟨Tryz.f224, Tryz.func224, rfl, rfl, rfl, dstB_ok (by kernel_rfl), Tryz.call224⟩
noncomputable def fn225 : FnI := ⟨6, 7, Tryz.f225.results, Tryz.f225.body⟩
theorem qf225 : QF 225 fn225 := ⟨Tryz.f225, Tryz.func225, rfl, rfl, rfl, dstB_ok (by kernel_rfl), Tryz.call225⟩
noncomputable def fn226 : FnI := ⟨11, 7, Tryz.f226.results, Tryz.f226.body⟩
theorem qf226 : QF 226 fn226 := ⟨Tryz.f226, Tryz.func226, rfl, rfl, rfl, dstB_ok (by kernel_rfl), Tryz.call226⟩
noncomputable def fn227 : FnI := ⟨6, 7, Tryz.f227.results, Tryz.f227.body⟩
theorem qf227 : QF 227 fn227 := ⟨Tryz.f227, Tryz.func227, rfl, rfl, rfl, dstB_ok (by kernel_rfl), Tryz.call227⟩
noncomputable def fn228 : FnI := ⟨14, 71, Tryz.f228.results, Tryz.f228.body⟩
theorem qf228 : QF 228 fn228 := ⟨Tryz.f228, Tryz.func228, rfl, rfl, rfl, dstB_ok (by kernel_rfl), Tryz.call228⟩
noncomputable def fn229 : FnI := ⟨6, 7, Tryz.f229.results, Tryz.f229.body⟩
theorem qf229 : QF 229 fn229 := ⟨Tryz.f229, Tryz.func229, rfl, rfl, rfl, dstB_ok (by kernel_rfl), Tryz.call229⟩
noncomputable def fn230 : FnI := ⟨5, 7, Tryz.f230.results, Tryz.f230.body⟩
theorem qf230 : QF 230 fn230 := ⟨Tryz.f230, Tryz.func230, rfl, rfl, rfl, dstB_ok (by kernel_rfl), Tryz.call230⟩
noncomputable def fn231 : FnI := ⟨6, 7, Tryz.f231.results, Tryz.f231.body⟩
theorem qf231 : QF 231 fn231 := ⟨Tryz.f231, Tryz.func231, rfl, rfl, rfl, dstB_ok (by kernel_rfl), Tryz.call231⟩
noncomputable def fn232 : FnI := ⟨7, 7, Tryz.f232.results, Tryz.f232.body⟩
theorem qf232 : QF 232 fn232 := ⟨Tryz.f232, Tryz.func232, rfl, rfl, rfl, dstB_ok (by kernel_rfl), Tryz.call232⟩
noncomputable def fn233 : FnI := ⟨12, 279, Tryz.f233.results, Tryz.f233.body⟩
theorem qf233 : QF 233 fn233 := ⟨Tryz.f233, Tryz.func233, rfl, rfl, rfl, dstB_ok (by kernel_rfl), Tryz.call233⟩
noncomputable def fn234 : FnI := ⟨5, 7, Tryz.f234.results, Tryz.f234.body⟩
theorem qf234 : QF 234 fn234 := ⟨Tryz.f234, Tryz.func234, rfl, rfl, rfl, dstB_ok (by kernel_rfl), Tryz.call234⟩
noncomputable def fn235 : FnI := ⟨5, 7, Tryz.f235.results, Tryz.f235.body⟩
theorem qf235 : QF 235 fn235 := ⟨Tryz.f235, Tryz.func235, rfl, rfl, rfl, dstB_ok (by kernel_rfl), Tryz.call235⟩
noncomputable def fn236 : FnI := ⟨6, 7, Tryz.f236.results, Tryz.f236.body⟩
theorem qf236 : QF 236 fn236 := ⟨Tryz.f236, Tryz.func236, rfl, rfl, rfl, dstB_ok (by kernel_rfl), Tryz.call236⟩
noncomputable def fn237 : FnI := ⟨7, 7, Tryz.f237.results, Tryz.f237.body⟩
theorem qf237 : QF 237 fn237 := ⟨Tryz.f237, Tryz.func237, rfl, rfl, rfl, dstB_ok (by kernel_rfl), Tryz.call237⟩
noncomputable def fn238 : FnI := ⟨5, 7, Tryz.f238.results, Tryz.f238.body⟩
theorem qf238 : QF 238 fn238 := ⟨Tryz.f238, Tryz.func238, rfl, rfl, rfl, dstB_ok (by kernel_rfl), Tryz.call238⟩
noncomputable def fn239 : FnI := ⟨5, 7, Tryz.f239.results, Tryz.f239.body⟩
theorem qf239 : QF 239 fn239 := ⟨Tryz.f239, Tryz.func239, rfl, rfl, rfl, dstB_ok (by kernel_rfl), Tryz.call239⟩
noncomputable def fn240 : FnI := ⟨11, 7, Tryz.f240.results, Tryz.f240.body⟩
theorem qf240 : QF 240 fn240 := ⟨Tryz.f240, Tryz.func240, rfl, rfl, rfl, dstB_ok (by kernel_rfl), Tryz.call240⟩
noncomputable def fn241 : FnI := ⟨17, 5, Tryz.f241.results, Tryz.f241.body⟩
theorem qf241 : QF 241 fn241 := ⟨Tryz.f241, Tryz.func241, rfl, rfl, rfl, dstB_ok (by kernel_rfl), Tryz.call241⟩
noncomputable def fn242 : FnI := ⟨25, 2097283, Tryz.f242.results, Tryz.f242.body⟩
theorem qf242 : QF 242 fn242 := ⟨Tryz.f242, Tryz.func242, rfl, rfl, rfl, dstB_ok (by kernel_rfl), Tryz.call242⟩
noncomputable def fn243 : FnI := ⟨50, 8796126839539, Tryz.f243.results, Tryz.f243.body⟩
theorem qf243 : QF 243 fn243 := ⟨Tryz.f243, Tryz.func243, rfl, rfl, rfl, dstB_ok (by kernel_rfl), Tryz.call243⟩
noncomputable def fn244 : FnI := ⟨34, 16810611, Tryz.f244.results, Tryz.f244.body⟩
theorem qf244 : QF 244 fn244 := ⟨Tryz.f244, Tryz.func244, rfl, rfl, rfl, dstB_ok (by kernel_rfl), Tryz.call244⟩
noncomputable def fn245 : FnI := ⟨8, 19, Tryz.f245.results, Tryz.f245.body⟩
theorem qf245 : QF 245 fn245 := ⟨Tryz.f245, Tryz.func245, rfl, rfl, rfl, dstB_ok (by kernel_rfl), Tryz.call245⟩
noncomputable def fn246 : FnI := ⟨143, 702342826256273603086707106465568295829491, Tryz.f246.results, Tryz.f246.body⟩
theorem qf246 : QF 246 fn246 := ⟨Tryz.f246, Tryz.func246, rfl, rfl, rfl, dstB_ok (by kernel_rfl), Tryz.call246⟩
noncomputable def fn247 : FnI := ⟨8, 19, Tryz.f247.results, Tryz.f247.body⟩
theorem qf247 : QF 247 fn247 := ⟨Tryz.f247, Tryz.func247, rfl, rfl, rfl, dstB_ok (by kernel_rfl), Tryz.call247⟩
noncomputable def fn248 : FnI := ⟨5, 5, Tryz.f248.results, Tryz.f248.body⟩
theorem qf248 : QF 248 fn248 := ⟨Tryz.f248, Tryz.func248, rfl, rfl, rfl, dstB_ok (by kernel_rfl), Tryz.call248⟩
noncomputable def fn249 : FnI := ⟨11, 5, Tryz.f249.results, Tryz.f249.body⟩
theorem qf249 : QF 249 fn249 := ⟨Tryz.f249, Tryz.func249, rfl, rfl, rfl, dstB_ok (by kernel_rfl), Tryz.call249⟩
noncomputable def fn250 : FnI := ⟨14, 8363, Tryz.f250.results, Tryz.f250.body⟩
theorem qf250 : QF 250 fn250 := ⟨Tryz.f250, Tryz.func250, rfl, rfl, rfl, dstB_ok (by kernel_rfl), Tryz.call250⟩
noncomputable def fn251 : FnI := ⟨19, 66483, Tryz.f251.results, Tryz.f251.body⟩
theorem qf251 : QF 251 fn251 := ⟨Tryz.f251, Tryz.func251, rfl, rfl, rfl, dstB_ok (by kernel_rfl), Tryz.call251⟩
noncomputable def fn252 : FnI := ⟨18, 131613, Tryz.f252.results, Tryz.f252.body⟩
theorem qf252 : QF 252 fn252 := ⟨Tryz.f252, Tryz.func252, rfl, rfl, rfl, dstB_ok (by kernel_rfl), Tryz.call252⟩
noncomputable def fn253 : FnI := ⟨69, 148909067430068343, Tryz.f253.results, Tryz.f253.body⟩
theorem qf253 : QF 253 fn253 := ⟨Tryz.f253, Tryz.func253, rfl, rfl, rfl, dstB_ok (by kernel_rfl), Tryz.call253⟩
noncomputable def fn254 : FnI := ⟨13, 279, Tryz.f254.results, Tryz.f254.body⟩
theorem qf254 : QF 254 fn254 := ⟨Tryz.f254, Tryz.func254, rfl, rfl, rfl, dstB_ok (by kernel_rfl), Tryz.call254⟩
noncomputable def fn255 : FnI := ⟨5, 5, Tryz.f255.results, Tryz.f255.body⟩
theorem qf255 : QF 255 fn255 := ⟨Tryz.f255, Tryz.func255, rfl, rfl, rfl, dstB_ok (by kernel_rfl), Tryz.call255⟩
noncomputable def fn256 : FnI := ⟨18, 4157, Tryz.f256.results, Tryz.f256.body⟩
theorem qf256 : QF 256 fn256 := ⟨Tryz.f256, Tryz.func256, rfl, rfl, rfl, dstB_ok (by kernel_rfl), Tryz.call256⟩
noncomputable def fn257 : FnI := ⟨39, 34368127263, Tryz.f257.results, Tryz.f257.body⟩
theorem qf257 : QF 257 fn257 := ⟨Tryz.f257, Tryz.func257, rfl, rfl, rfl, dstB_ok (by kernel_rfl), Tryz.call257⟩
noncomputable def fn258 : FnI := ⟨25, 8765, Tryz.f258.results, Tryz.f258.body⟩
theorem qf258 : QF 258 fn258 := ⟨Tryz.f258, Tryz.func258, rfl, rfl, rfl, dstB_ok (by kernel_rfl), Tryz.call258⟩
noncomputable def fn259 : FnI := ⟨125, 10404955393597153145976807980556275, Tryz.f259.results, Tryz.f259.body⟩
theorem qf259 : QF 259 fn259 := ⟨Tryz.f259, Tryz.func259, rfl, rfl, rfl, dstB_ok (by kernel_rfl), Tryz.call259⟩
noncomputable def fn260 : FnI := ⟨17, 8211, Tryz.f260.results, Tryz.f260.body⟩
theorem qf260 : QF 260 fn260 := ⟨Tryz.f260, Tryz.func260, rfl, rfl, rfl, dstB_ok (by kernel_rfl), Tryz.call260⟩
noncomputable def fn261 : FnI := ⟨23, 65555, Tryz.f261.results, Tryz.f261.body⟩
theorem qf261 : QF 261 fn261 := ⟨Tryz.f261, Tryz.func261, rfl, rfl, rfl, dstB_ok (by kernel_rfl), Tryz.call261⟩
noncomputable def fn262 : FnI := ⟨21, 66109, Tryz.f262.results, Tryz.f262.body⟩
theorem qf262 : QF 262 fn262 := ⟨Tryz.f262, Tryz.func262, rfl, rfl, rfl, dstB_ok (by kernel_rfl), Tryz.call262⟩
noncomputable def fn263 : FnI := ⟨16, 4243, Tryz.f263.results, Tryz.f263.body⟩
theorem qf263 : QF 263 fn263 := ⟨Tryz.f263, Tryz.func263, rfl, rfl, rfl, dstB_ok (by kernel_rfl), Tryz.call263⟩
noncomputable def fn264 : FnI := ⟨22, 32915, Tryz.f264.results, Tryz.f264.body⟩
theorem qf264 : QF 264 fn264 := ⟨Tryz.f264, Tryz.func264, rfl, rfl, rfl, dstB_ok (by kernel_rfl), Tryz.call264⟩
noncomputable def fn265 : FnI := ⟨23, 262771, Tryz.f265.results, Tryz.f265.body⟩
theorem qf265 : QF 265 fn265 := ⟨Tryz.f265, Tryz.func265, rfl, rfl, rfl, dstB_ok (by kernel_rfl), Tryz.call265⟩
noncomputable def fn266 : FnI := ⟨34, 67240563, Tryz.f266.results, Tryz.f266.body⟩
theorem qf266 : QF 266 fn266 := ⟨Tryz.f266, Tryz.func266, rfl, rfl, rfl, dstB_ok (by kernel_rfl), Tryz.call266⟩
noncomputable def fn267 : FnI := ⟨19, 131579, Tryz.f267.results, Tryz.f267.body⟩
theorem qf267 : QF 267 fn267 := ⟨Tryz.f267, Tryz.func267, rfl, rfl, rfl, dstB_ok (by kernel_rfl), Tryz.call267⟩
noncomputable def fn268 : FnI := ⟨29, 15, Tryz.f268.results, Tryz.f268.body⟩
theorem qf268 : QF 268 fn268 := ⟨Tryz.f268, Tryz.func268, rfl, rfl, rfl, dstB_ok (by kernel_rfl), Tryz.call268⟩
noncomputable def fn269 : FnI := ⟨45, 4194559, Tryz.f269.results, Tryz.f269.body⟩
theorem qf269 : QF 269 fn269 := ⟨Tryz.f269, Tryz.func269, rfl, rfl, rfl, dstB_ok (by kernel_rfl), Tryz.call269⟩
noncomputable def fn270 : FnI := ⟨6, 7, Tryz.f270.results, Tryz.f270.body⟩
theorem qf270 : QF 270 fn270 := ⟨Tryz.f270, Tryz.func270, rfl, rfl, rfl, dstB_ok (by kernel_rfl), Tryz.call270⟩
noncomputable def fn271 : FnI := ⟨65, 10376294641308798463, Tryz.f271.results, Tryz.f271.body⟩
theorem qf271 : QF 271 fn271 := ⟨Tryz.f271, Tryz.func271, rfl, rfl, rfl, dstB_ok (by kernel_rfl), Tryz.call271⟩
noncomputable def fn272 : FnI := ⟨2, 1, Tryz.f272.results, Tryz.f272.body⟩
theorem qf272 : QF 272 fn272 := ⟨Tryz.f272, Tryz.func272, rfl, rfl, rfl, dstB_ok (by kernel_rfl), Tryz.call272⟩
noncomputable def fn273 : FnI := ⟨9, 15, Tryz.f273.results, Tryz.f273.body⟩
theorem qf273 : QF 273 fn273 := ⟨Tryz.f273, Tryz.func273, rfl, rfl, rfl, dstB_ok (by kernel_rfl), Tryz.call273⟩
noncomputable def fn274 : FnI := ⟨19, 59, Tryz.f274.results, Tryz.f274.body⟩
theorem qf274 : QF 274 fn274 := ⟨Tryz.f274, Tryz.func274, rfl, rfl, rfl, dstB_ok (by kernel_rfl), Tryz.call274⟩
noncomputable def fn275 : FnI := ⟨37, 1049551, Tryz.f275.results, Tryz.f275.body⟩
theorem qf275 : QF 275 fn275 := ⟨Tryz.f275, Tryz.func275, rfl, rfl, rfl, dstB_ok (by kernel_rfl), Tryz.call275⟩
noncomputable def fn276 : FnI := ⟨8, 15, Tryz.f276.results, Tryz.f276.body⟩
theorem qf276 : QF 276 fn276 := ⟨Tryz.f276, Tryz.func276, rfl, rfl, rfl, dstB_ok (by kernel_rfl), Tryz.call276⟩
noncomputable def fn277 : FnI := ⟨19, 51, Tryz.f277.results, Tryz.f277.body⟩
theorem qf277 : QF 277 fn277 := ⟨Tryz.f277, Tryz.func277, rfl, rfl, rfl, dstB_ok (by kernel_rfl), Tryz.call277⟩
noncomputable def fn278 : FnI := ⟨33, 138537935, Tryz.f278.results, Tryz.f278.body⟩
theorem qf278 : QF 278 fn278 := ⟨Tryz.f278, Tryz.func278, rfl, rfl, rfl, dstB_ok (by kernel_rfl), Tryz.call278⟩
noncomputable def fn279 : FnI := ⟨19, 59, Tryz.f279.results, Tryz.f279.body⟩
theorem qf279 : QF 279 fn279 := ⟨Tryz.f279, Tryz.func279, rfl, rfl, rfl, dstB_ok (by kernel_rfl), Tryz.call279⟩
noncomputable def fn280 : FnI := ⟨11, 71, Tryz.f280.results, Tryz.f280.body⟩
theorem qf280 : QF 280 fn280 := ⟨Tryz.f280, Tryz.func280, rfl, rfl, rfl, dstB_ok (by kernel_rfl), Tryz.call280⟩
noncomputable def fn282 : FnI := ⟨7, 15, Tryz.f282.results, Tryz.f282.body⟩
theorem qf282 : QF 282 fn282 := ⟨Tryz.f282, Tryz.func282, rfl, rfl, rfl, dstB_ok (by kernel_rfl), Tryz.call282⟩
noncomputable def fn283 : FnI := ⟨13, 279, Tryz.f283.results, Tryz.f283.body⟩
theorem qf283 : QF 283 fn283 := ⟨Tryz.f283, Tryz.func283, rfl, rfl, rfl, dstB_ok (by kernel_rfl), Tryz.call283⟩
noncomputable def fn284 : FnI := ⟨30, 19, Tryz.f284.results, Tryz.f284.body⟩
theorem qf284 : QF 284 fn284 := ⟨Tryz.f284, Tryz.func284, rfl, rfl, rfl, dstB_ok (by kernel_rfl), Tryz.call284⟩
noncomputable def fn285 : FnI := ⟨10, 85, Tryz.f285.results, Tryz.f285.body⟩
theorem qf285 : QF 285 fn285 := ⟨Tryz.f285, Tryz.func285, rfl, rfl, rfl, dstB_ok (by kernel_rfl), Tryz.call285⟩
noncomputable def fn286 : FnI := ⟨19, 1037, Tryz.f286.results, Tryz.f286.body⟩
theorem qf286 : QF 286 fn286 := ⟨Tryz.f286, Tryz.func286, rfl, rfl, rfl, dstB_ok (by kernel_rfl), Tryz.call286⟩
noncomputable def fn288 : FnI := ⟨8, 19, Tryz.f288.results, Tryz.f288.body⟩
theorem qf288 : QF 288 fn288 := ⟨Tryz.f288, Tryz.func288, rfl, rfl, rfl, dstB_ok (by kernel_rfl), Tryz.call288⟩
noncomputable def fn290 : FnI := ⟨6, 5, Tryz.f290.results, Tryz.f290.body⟩
theorem qf290 : QF 290 fn290 := ⟨Tryz.f290, Tryz.func290, rfl, rfl, rfl, dstB_ok (by kernel_rfl), Tryz.call290⟩
noncomputable def fn291 : FnI := ⟨81, 151115727469970589747187, Tryz.f291.results, Tryz.f291.body⟩
theorem qf291 : QF 291 fn291 := ⟨Tryz.f291, Tryz.func291, rfl, rfl, rfl, dstB_ok (by kernel_rfl), Tryz.call291⟩
noncomputable def fn292 : FnI := ⟨21, 531911, Tryz.f292.results, Tryz.f292.body⟩
theorem qf292 : QF 292 fn292 := ⟨Tryz.f292, Tryz.func292, rfl, rfl, rfl, dstB_ok (by kernel_rfl), Tryz.call292⟩
noncomputable def fn293 : FnI := ⟨13, 247, Tryz.f293.results, Tryz.f293.body⟩
theorem qf293 : QF 293 fn293 := ⟨Tryz.f293, Tryz.func293, rfl, rfl, rfl, dstB_ok (by kernel_rfl), Tryz.call293⟩
noncomputable def fn294 : FnI := ⟨134, 10384593871817177683247510831234831, Tryz.f294.results, Tryz.f294.body⟩
theorem qf294 : QF 294 fn294 := ⟨Tryz.f294, Tryz.func294, rfl, rfl, rfl, dstB_ok (by kernel_rfl), Tryz.call294⟩
noncomputable def fn295 : FnI := ⟨8, 5, Tryz.f295.results, Tryz.f295.body⟩
theorem qf295 : QF 295 fn295 := ⟨Tryz.f295, Tryz.func295, rfl, rfl, rfl, dstB_ok (by kernel_rfl), Tryz.call295⟩
noncomputable def fn296 : FnI := ⟨54, 17188391667, Tryz.f296.results, Tryz.f296.body⟩
theorem qf296 : QF 296 fn296 := ⟨Tryz.f296, Tryz.func296, rfl, rfl, rfl, dstB_ok (by kernel_rfl), Tryz.call296⟩
noncomputable def fn297 : FnI := ⟨77, 73861163094217066365, Tryz.f297.results, Tryz.f297.body⟩
theorem qf297 : QF 297 fn297 := ⟨Tryz.f297, Tryz.func297, rfl, rfl, rfl, dstB_ok (by kernel_rfl), Tryz.call297⟩
noncomputable def fn298 : FnI := ⟨43, 17247509535, Tryz.f298.results, Tryz.f298.body⟩
theorem qf298 : QF 298 fn298 := ⟨Tryz.f298, Tryz.func298, rfl, rfl, rfl, dstB_ok (by kernel_rfl), Tryz.call298⟩
noncomputable def fn299 : FnI := ⟨25, 8243, Tryz.f299.results, Tryz.f299.body⟩
theorem qf299 : QF 299 fn299 := ⟨Tryz.f299, Tryz.func299, rfl, rfl, rfl, dstB_ok (by kernel_rfl), Tryz.call299⟩
noncomputable def fn300 : FnI := ⟨15, 19, Tryz.f300.results, Tryz.f300.body⟩
theorem qf300 : QF 300 fn300 := ⟨Tryz.f300, Tryz.func300, rfl, rfl, rfl, dstB_ok (by kernel_rfl), Tryz.call300⟩
noncomputable def fn301 : FnI := ⟨30, 1011, Tryz.f301.results, Tryz.f301.body⟩
theorem qf301 : QF 301 fn301 := ⟨Tryz.f301, Tryz.func301, rfl, rfl, rfl, dstB_ok (by kernel_rfl), Tryz.call301⟩
noncomputable def fn302 : FnI := ⟨8, 19, Tryz.f302.results, Tryz.f302.body⟩
theorem qf302 : QF 302 fn302 := ⟨Tryz.f302, Tryz.func302, rfl, rfl, rfl, dstB_ok (by kernel_rfl), Tryz.call302⟩
noncomputable def fn303 : FnI := ⟨8, 5, Tryz.f303.results, Tryz.f303.body⟩
theorem qf303 : QF 303 fn303 := ⟨Tryz.f303, Tryz.func303, rfl, rfl, rfl, dstB_ok (by kernel_rfl), Tryz.call303⟩
noncomputable def fn304 : FnI := ⟨10, 19, Tryz.f304.results, Tryz.f304.body⟩
theorem qf304 : QF 304 fn304 := ⟨Tryz.f304, Tryz.func304, rfl, rfl, rfl, dstB_ok (by kernel_rfl), Tryz.call304⟩
noncomputable def fn305 : FnI := ⟨9, 19, Tryz.f305.results, Tryz.f305.body⟩
theorem qf305 : QF 305 fn305 := ⟨Tryz.f305, Tryz.func305, rfl, rfl, rfl, dstB_ok (by kernel_rfl), Tryz.call305⟩
noncomputable def fn306 : FnI := ⟨51, 281518060864637, Tryz.f306.results, Tryz.f306.body⟩
theorem qf306 : QF 306 fn306 := ⟨Tryz.f306, Tryz.func306, rfl, rfl, rfl, dstB_ok (by kernel_rfl), Tryz.call306⟩
noncomputable def fn307 : FnI := ⟨36, 504373101, Tryz.f307.results, Tryz.f307.body⟩
theorem qf307 : QF 307 fn307 := ⟨Tryz.f307, Tryz.func307, rfl, rfl, rfl, dstB_ok (by kernel_rfl), Tryz.call307⟩
noncomputable def fn309 : FnI := ⟨117, 316912838952437276284744179709, Tryz.f309.results, Tryz.f309.body⟩
theorem qf309 : QF 309 fn309 := ⟨Tryz.f309, Tryz.func309, rfl, rfl, rfl, dstB_ok (by kernel_rfl), Tryz.call309⟩
noncomputable def fn311 : FnI := ⟨39, 1107300861, Tryz.f311.results, Tryz.f311.body⟩
theorem qf311 : QF 311 fn311 := ⟨Tryz.f311, Tryz.func311, rfl, rfl, rfl, dstB_ok (by kernel_rfl), Tryz.call311⟩
noncomputable def fn312 : FnI := ⟨49, 1073746119, Tryz.f312.results, Tryz.f312.body⟩
theorem qf312 : QF 312 fn312 := ⟨Tryz.f312, Tryz.func312, rfl, rfl, rfl, dstB_ok (by kernel_rfl), Tryz.call312⟩
noncomputable def fn313 : FnI := ⟨56, 1074268103, Tryz.f313.results, Tryz.f313.body⟩
theorem qf313 : QF 313 fn313 := ⟨Tryz.f313, Tryz.func313, rfl, rfl, rfl, dstB_ok (by kernel_rfl), Tryz.call313⟩
noncomputable def fn314 : FnI := ⟨65, 8804682991559, Tryz.f314.results, Tryz.f314.body⟩
theorem qf314 : QF 314 fn314 := ⟨Tryz.f314, Tryz.func314, rfl, rfl, rfl, dstB_ok (by kernel_rfl), Tryz.call314⟩
noncomputable def fn315 : FnI := ⟨57, 20829169751433159, Tryz.f315.results, Tryz.f315.body⟩
theorem qf315 : QF 315 fn315 := ⟨Tryz.f315, Tryz.func315, rfl, rfl, rfl, dstB_ok (by kernel_rfl), Tryz.call315⟩
noncomputable def fn316 : FnI := ⟨32, 8391, Tryz.f316.results, Tryz.f316.body⟩
theorem qf316 : QF 316 fn316 := ⟨Tryz.f316, Tryz.func316, rfl, rfl, rfl, dstB_ok (by kernel_rfl), Tryz.call316⟩
noncomputable def fn317 : FnI := ⟨133, 83087207854311395603287443752634311, Tryz.f317.results, Tryz.f317.body⟩
theorem qf317 : QF 317 fn317 := ⟨Tryz.f317, Tryz.func317, rfl, rfl, rfl, dstB_ok (by kernel_rfl), Tryz.call317⟩
noncomputable def fn318 : FnI := ⟨17, 19, Tryz.f318.results, Tryz.f318.body⟩
theorem qf318 : QF 318 fn318 := ⟨Tryz.f318, Tryz.func318, rfl, rfl, rfl, dstB_ok (by kernel_rfl), Tryz.call318⟩
noncomputable def fn319 : FnI := ⟨84, 19023213622105999119, Tryz.f319.results, Tryz.f319.body⟩
theorem qf319 : QF 319 fn319 := ⟨Tryz.f319, Tryz.func319, rfl, rfl, rfl, dstB_ok (by kernel_rfl), Tryz.call319⟩
noncomputable def fn320 : FnI := ⟨168, 22458641409078797123448399039441150152463, Tryz.f320.results, Tryz.f320.body⟩
theorem qf320 : QF 320 fn320 := ⟨Tryz.f320, Tryz.func320, rfl, rfl, rfl, dstB_ok (by kernel_rfl), Tryz.call320⟩
noncomputable def fn321 : FnI := ⟨19, 277, Tryz.f321.results, Tryz.f321.body⟩
theorem qf321 : QF 321 fn321 := ⟨Tryz.f321, Tryz.func321, rfl, rfl, rfl, dstB_ok (by kernel_rfl), Tryz.call321⟩
noncomputable def fn322 : FnI := ⟨25, 16661, Tryz.f322.results, Tryz.f322.body⟩
theorem qf322 : QF 322 fn322 := ⟨Tryz.f322, Tryz.func322, rfl, rfl, rfl, dstB_ok (by kernel_rfl), Tryz.call322⟩
noncomputable def fn323 : FnI := ⟨15, 21, Tryz.f323.results, Tryz.f323.body⟩
theorem qf323 : QF 323 fn323 := ⟨Tryz.f323, Tryz.func323, rfl, rfl, rfl, dstB_ok (by kernel_rfl), Tryz.call323⟩
noncomputable def fn324 : FnI := ⟨15, 13, Tryz.f324.results, Tryz.f324.body⟩
theorem qf324 : QF 324 fn324 := ⟨Tryz.f324, Tryz.func324, rfl, rfl, rfl, dstB_ok (by kernel_rfl), Tryz.call324⟩
noncomputable def fn325 : FnI := ⟨167, 2923003971560093291123168138537876760321514930163, Tryz.f325.results, Tryz.f325.body⟩
theorem qf325 : QF 325 fn325 := ⟨Tryz.f325, Tryz.func325, rfl, rfl, rfl, dstB_ok (by kernel_rfl), Tryz.call325⟩
noncomputable def fn326 : FnI := ⟨102, 20426010943356750102455122975, Tryz.f326.results, Tryz.f326.body⟩
theorem qf326 : QF 326 fn326 := ⟨Tryz.f326, Tryz.func326, rfl, rfl, rfl, dstB_ok (by kernel_rfl), Tryz.call326⟩
noncomputable def fn327 : FnI := ⟨73, 594912002450663878599, Tryz.f327.results, Tryz.f327.body⟩
theorem qf327 : QF 327 fn327 := ⟨Tryz.f327, Tryz.func327, rfl, rfl, rfl, dstB_ok (by kernel_rfl), Tryz.call327⟩
noncomputable def fn328 : FnI := ⟨11, 19, Tryz.f328.results, Tryz.f328.body⟩
theorem qf328 : QF 328 fn328 := ⟨Tryz.f328, Tryz.func328, rfl, rfl, rfl, dstB_ok (by kernel_rfl), Tryz.call328⟩
noncomputable def fn329 : FnI := ⟨11, 19, Tryz.f329.results, Tryz.f329.body⟩
theorem qf329 : QF 329 fn329 := ⟨Tryz.f329, Tryz.func329, rfl, rfl, rfl, dstB_ok (by kernel_rfl), Tryz.call329⟩
noncomputable def fn330 : FnI := ⟨16, 71, Tryz.f330.results, Tryz.f330.body⟩
theorem qf330 : QF 330 fn330 := ⟨Tryz.f330, Tryz.func330, rfl, rfl, rfl, dstB_ok (by kernel_rfl), Tryz.call330⟩
noncomputable def fn331 : FnI := ⟨16, 71, Tryz.f331.results, Tryz.f331.body⟩
theorem qf331 : QF 331 fn331 := ⟨Tryz.f331, Tryz.func331, rfl, rfl, rfl, dstB_ok (by kernel_rfl), Tryz.call331⟩
noncomputable def fn332 : FnI := ⟨21, 16389, Tryz.f332.results, Tryz.f332.body⟩
theorem qf332 : QF 332 fn332 := ⟨Tryz.f332, Tryz.func332, rfl, rfl, rfl, dstB_ok (by kernel_rfl), Tryz.call332⟩
noncomputable def fn333 : FnI := ⟨17, 115, Tryz.f333.results, Tryz.f333.body⟩
theorem qf333 : QF 333 fn333 := ⟨Tryz.f333, Tryz.func333, rfl, rfl, rfl, dstB_ok (by kernel_rfl), Tryz.call333⟩
noncomputable def fn334 : FnI := ⟨51, 16371, Tryz.f334.results, Tryz.f334.body⟩
theorem qf334 : QF 334 fn334 := ⟨Tryz.f334, Tryz.func334, rfl, rfl, rfl, dstB_ok (by kernel_rfl), Tryz.call334⟩
noncomputable def fn335 : FnI := ⟨18, 19, Tryz.f335.results, Tryz.f335.body⟩
theorem qf335 : QF 335 fn335 := ⟨Tryz.f335, Tryz.func335, rfl, rfl, rfl, dstB_ok (by kernel_rfl), Tryz.call335⟩
noncomputable def fn336 : FnI := ⟨187, 15663183516433892416764882583213662997805349754095402995, Tryz.f336.results, Tryz.f336.body⟩
theorem qf336 : QF 336 fn336 := ⟨Tryz.f336, Tryz.func336, rfl, rfl, rfl, dstB_ok (by kernel_rfl), Tryz.call336⟩
noncomputable def fn337 : FnI := ⟨6, 5, Tryz.f337.results, Tryz.f337.body⟩
theorem qf337 : QF 337 fn337 := ⟨Tryz.f337, Tryz.func337, rfl, rfl, rfl, dstB_ok (by kernel_rfl), Tryz.call337⟩
noncomputable def fn338 : FnI := ⟨27, 65619, Tryz.f338.results, Tryz.f338.body⟩
theorem qf338 : QF 338 fn338 := ⟨Tryz.f338, Tryz.func338, rfl, rfl, rfl, dstB_ok (by kernel_rfl), Tryz.call338⟩
noncomputable def fn339 : FnI := ⟨76, 4503668346913551, Tryz.f339.results, Tryz.f339.body⟩
theorem qf339 : QF 339 fn339 := ⟨Tryz.f339, Tryz.func339, rfl, rfl, rfl, dstB_ok (by kernel_rfl), Tryz.call339⟩
noncomputable def fn340 : FnI := ⟨7, 5, Tryz.f340.results, Tryz.f340.body⟩
theorem qf340 : QF 340 fn340 := ⟨Tryz.f340, Tryz.func340, rfl, rfl, rfl, dstB_ok (by kernel_rfl), Tryz.call340⟩
noncomputable def fn341 : FnI := ⟨33, 5, Tryz.f341.results, Tryz.f341.body⟩
theorem qf341 : QF 341 fn341 := ⟨Tryz.f341, Tryz.func341, rfl, rfl, rfl, dstB_ok (by kernel_rfl), Tryz.call341⟩
noncomputable def fn342 : FnI := ⟨15, 71, Tryz.f342.results, Tryz.f342.body⟩
theorem qf342 : QF 342 fn342 := ⟨Tryz.f342, Tryz.func342, rfl, rfl, rfl, dstB_ok (by kernel_rfl), Tryz.call342⟩
noncomputable def fn343 : FnI := ⟨36, 1055, Tryz.f343.results, Tryz.f343.body⟩
theorem qf343 : QF 343 fn343 := ⟨Tryz.f343, Tryz.func343, rfl, rfl, rfl, dstB_ok (by kernel_rfl), Tryz.call343⟩
noncomputable def fn344 : FnI := ⟨6, 5, Tryz.f344.results, Tryz.f344.body⟩
theorem qf344 : QF 344 fn344 := ⟨Tryz.f344, Tryz.func344, rfl, rfl, rfl, dstB_ok (by kernel_rfl), Tryz.call344⟩
noncomputable def fn345 : FnI := ⟨6, 5, Tryz.f345.results, Tryz.f345.body⟩
theorem qf345 : QF 345 fn345 := ⟨Tryz.f345, Tryz.func345, rfl, rfl, rfl, dstB_ok (by kernel_rfl), Tryz.call345⟩
noncomputable def fn346 : FnI := ⟨4, 13, Tryz.f346.results, Tryz.f346.body⟩
theorem qf346 : QF 346 fn346 := ⟨Tryz.f346, Tryz.func346, rfl, rfl, rfl, dstB_ok (by kernel_rfl), Tryz.call346⟩
noncomputable def fn347 : FnI := ⟨8, 5, Tryz.f347.results, Tryz.f347.body⟩
theorem qf347 : QF 347 fn347 := ⟨Tryz.f347, Tryz.func347, rfl, rfl, rfl, dstB_ok (by kernel_rfl), Tryz.call347⟩
noncomputable def fn348 : FnI := ⟨8, 5, Tryz.f348.results, Tryz.f348.body⟩
theorem qf348 : QF 348 fn348 := ⟨Tryz.f348, Tryz.func348, rfl, rfl, rfl, dstB_ok (by kernel_rfl), Tryz.call348⟩
noncomputable def fn349 : FnI := ⟨172, 749019592093908130998168547243562859198691857383367, Tryz.f349.results, Tryz.f349.body⟩
theorem qf349 : QF 349 fn349 := ⟨Tryz.f349, Tryz.func349, rfl, rfl, rfl, dstB_ok (by kernel_rfl), Tryz.call349⟩
noncomputable def fn350 : FnI := ⟨18, 77, Tryz.f350.results, Tryz.f350.body⟩
theorem qf350 : QF 350 fn350 := ⟨Tryz.f350, Tryz.func350, rfl, rfl, rfl, dstB_ok (by kernel_rfl), Tryz.call350⟩
noncomputable def fn351 : FnI := ⟨7, 5, Tryz.f351.results, Tryz.f351.body⟩
theorem qf351 : QF 351 fn351 := ⟨Tryz.f351, Tryz.func351, rfl, rfl, rfl, dstB_ok (by kernel_rfl), Tryz.call351⟩
noncomputable def fn352 : FnI := ⟨8, 19, Tryz.f352.results, Tryz.f352.body⟩
theorem qf352 : QF 352 fn352 := ⟨Tryz.f352, Tryz.func352, rfl, rfl, rfl, dstB_ok (by kernel_rfl), Tryz.call352⟩
noncomputable def fn353 : FnI := ⟨17, 1037, Tryz.f353.results, Tryz.f353.body⟩
theorem qf353 : QF 353 fn353 := ⟨Tryz.f353, Tryz.func353, rfl, rfl, rfl, dstB_ok (by kernel_rfl), Tryz.call353⟩
noncomputable def fn354 : FnI := ⟨28, 262927, Tryz.f354.results, Tryz.f354.body⟩
theorem qf354 : QF 354 fn354 := ⟨Tryz.f354, Tryz.func354, rfl, rfl, rfl, dstB_ok (by kernel_rfl), Tryz.call354⟩
noncomputable def fn355 : FnI := ⟨14, 21, Tryz.f355.results, Tryz.f355.body⟩
theorem qf355 : QF 355 fn355 := ⟨Tryz.f355, Tryz.func355, rfl, rfl, rfl, dstB_ok (by kernel_rfl), Tryz.call355⟩
noncomputable def fn356 : FnI := ⟨14, 21, Tryz.f356.results, Tryz.f356.body⟩
theorem qf356 : QF 356 fn356 := ⟨Tryz.f356, Tryz.func356, rfl, rfl, rfl, dstB_ok (by kernel_rfl), Tryz.call356⟩
noncomputable def fn357 : FnI := ⟨5, 5, Tryz.f357.results, Tryz.f357.body⟩
theorem qf357 : QF 357 fn357 := ⟨Tryz.f357, Tryz.func357, rfl, rfl, rfl, dstB_ok (by kernel_rfl), Tryz.call357⟩
noncomputable def fn358 : FnI := ⟨94, 3259264009699125022261772349, Tryz.f358.results, Tryz.f358.body⟩
theorem qf358 : QF 358 fn358 := ⟨Tryz.f358, Tryz.func358, rfl, rfl, rfl, dstB_ok (by kernel_rfl), Tryz.call358⟩
noncomputable def ft : Tr FnI := (.node (.node (.node (.node (.node (.node (.node (.node (.node .nil 3 fn3 .nil) 4 fn4 .nil) 5 fn5 (.node (.node .nil 6 fn6 .nil) 7 fn7 .nil)) 8 fn8 (.node (.node (.node .nil 9 fn9 .nil) 10 fn10 .nil) 11 fn11 (.node .nil 12 fn12 .nil))) 13 fn13 (.node (.node (.node (.node .nil 14 fn14 .nil) 15 fn15 .nil) 16 fn16 (.node (.node .nil 17 fn17 .nil) 18 fn18 .nil)) 19 fn19 (.node (.node (.node .nil 20 fn20 .nil) 21 fn21 .nil) 22 fn22 (.node .nil 23 fn23 .nil)))) 24 fn24 (.node (.node (.node (.node (.node .nil 25 fn25 .nil) 26 fn26 .nil) 27 fn27 (.node (.node .nil 28 fn28 .nil) 29 fn29 .nil)) 30 fn30 (.node (.node (.node .nil 31 fn31 .nil) 32 fn32 .nil) 33 fn33 (.node .nil 34 fn34 .nil))) 35 fn35 (.node (.node (.node (.node .nil 36 fn36 .nil) 37 fn37 .nil) 38 fn38 (.node (.node .nil 39 fn39 .nil) 40 fn40 .nil)) 41 fn41 (.node (.node (.node .nil 42 fn42 .nil) 43 fn43 .nil) 44 fn44 (.node .nil 45 fn45 .nil))))) 46 fn46 (.node (.node (.node (.node (.node (.node .nil 47 fn47 .nil) 48 fn48 .nil) 49 fn49 (.node (.node .nil 50 fn50 .nil) 51 fn51 .nil)) 52 fn52 (.node (.node (.node .nil 53 fn53 .nil) 54 fn54 .nil) 55 fn55 (.node .nil 56 fn56 .nil))) 57 fn57 (.node (.node (.node (.node .nil 58 fn58 .nil) 59 fn59 .nil) 60 fn60 (.node (.node .nil 61 fn61 .nil) 62 fn62 .nil)) 63 fn63 (.node (.node (.node .nil 64 fn64 .nil) 65 fn65 .nil) 66 fn66 (.node .nil 67 fn67 .nil)))) 68 fn68 (.node (.node (.node (.node (.node .nil 69 fn69 .nil) 70 fn70 .nil) 71 fn71 (.node (.node .nil 72 fn72 .nil) 73 fn73 .nil)) 74 fn74 (.node (.node (.node .nil 75 fn75 .nil) 76 fn76 .nil) 77 fn77 (.node .nil 78 fn78 .nil))) 79 fn79 (.node (.node (.node (.node .nil 80 fn80 .nil) 81 fn81 .nil) 82 fn82 (.node (.node .nil 83 fn83 .nil) 84 fn84 .nil)) 85 fn85 (.node (.node (.node .nil 86 fn86 .nil) 87 fn87 .nil) 88 fn88 (.node .nil 89 fn89 .nil)))))) 90 fn90 (.node (.node (.node (.node (.node (.node (.node .nil 91 fn91 .nil) 92 fn92 .nil) 93 fn93 (.node (.node .nil 94 fn94 .nil) 95 fn95 .nil)) 96 fn96 (.node (.node (.node .nil 97 fn97 .nil) 98 fn98 .nil) 99 fn99 (.node .nil 100 fn100 .nil))) 101 fn101 (.node (.node (.node (.node .nil 102 fn102 .nil) 103 fn103 .nil) 104 fn104 (.node (.node .nil 105 fn105 .nil) 106 fn106 .nil)) 107 fn107 (.node (.node (.node .nil 108 fn108 .nil) 109 fn109 .nil) 110 fn110 (.node .nil 111 fn111 .nil)))) 112 fn112 (.node (.node (.node (.node (.node .nil 113 fn113 .nil) 114 fn114 .nil) 115 fn115 (.node (.node .nil 116 fn116 .nil) 117 fn117 .nil)) 118 fn118 (.node (.node (.node .nil 119 fn119 .nil) 120 fn120 .nil) 121 fn121 (.node .nil 122 fn122 .nil))) 123 fn123 (.node (.node (.node (.node .nil 124 fn124 .nil) 125 fn125 .nil) 126 fn126 (.node (.node .nil 127 fn127 .nil) 128 fn128 .nil)) 129 fn129 (.node (.node (.node .nil 130 fn130 .nil) 131 fn131 .nil) 132 fn132 (.node .nil 133 fn133 .nil))))) 134 fn134 (.node (.node (.node (.node (.node (.node .nil 135 fn135 .nil) 136 fn136 .nil) 137 fn137 (.node (.node .nil 138 fn138 .nil) 139 fn139 .nil)) 140 fn140 (.node (.node (.node .nil 141 fn141 .nil) 142 fn142 .nil) 143 fn143 (.node .nil 144 fn144 .nil))) 145 fn145 (.node (.node (.node (.node .nil 146 fn146 .nil) 147 fn147 .nil) 148 fn148 (.node (.node .nil 149 fn149 .nil) 150 fn150 .nil)) 151 fn151 (.node (.node (.node .nil 152 fn152 .nil) 153 fn153 .nil) 154 fn154 (.node .nil 155 fn155 .nil)))) 156 fn156 (.node (.node (.node (.node (.node .nil 157 fn157 .nil) 158 fn158 .nil) 159 fn159 (.node (.node .nil 160 fn160 .nil) 161 fn161 .nil)) 162 fn162 (.node (.node (.node .nil 163 fn163 .nil) 164 fn164 .nil) 165 fn165 (.node .nil 166 fn166 .nil))) 167 fn167 (.node (.node (.node (.node .nil 168 fn168 .nil) 169 fn169 .nil) 170 fn170 (.node (.node .nil 171 fn171 .nil) 172 fn172 .nil)) 173 fn173 (.node (.node (.node .nil 174 fn174 .nil) 175 fn175 .nil) 176 fn176 (.node .nil 177 fn177 .nil))))))) 178 fn178 (.node (.node (.node (.node (.node (.node (.node (.node .nil 179 fn179 .nil) 180 fn180 .nil) 181 fn181 (.node (.node .nil 182 fn182 .nil) 183 fn183 .nil)) 184 fn184 (.node (.node (.node .nil 185 fn185 .nil) 186 fn186 .nil) 187 fn187 (.node .nil 188 fn188 .nil))) 189 fn189 (.node (.node (.node (.node .nil 190 fn190 .nil) 191 fn191 .nil) 192 fn192 (.node (.node .nil 193 fn193 .nil) 194 fn194 .nil)) 195 fn195 (.node (.node (.node .nil 196 fn196 .nil) 197 fn197 .nil) 198 fn198 (.node .nil 199 fn199 .nil)))) 200 fn200 (.node (.node (.node (.node (.node .nil 201 fn201 .nil) 202 fn202 .nil) 203 fn203 (.node (.node .nil 204 fn204 .nil) 205 fn205 .nil)) 206 fn206 (.node (.node (.node .nil 207 fn207 .nil) 208 fn208 .nil) 209 fn209 (.node .nil 210 fn210 .nil))) 211 fn211 (.node (.node (.node (.node .nil 212 fn212 .nil) 213 fn213 .nil) 214 fn214 (.node (.node .nil 215 fn215 .nil) 216 fn216 .nil)) 217 fn217 (.node (.node (.node .nil 218 fn218 .nil) 219 fn219 .nil) 220 fn220 (.node .nil 221 fn221 .nil))))) 222 fn222 (.node (.node (.node (.node (.node (.node .nil 223 fn223 .nil) 224 fn224 .nil) 225 fn225 (.node (.node .nil 226 fn226 .nil) 227 fn227 .nil)) 228 fn228 (.node (.node (.node .nil 229 fn229 .nil) 230 fn230 .nil) 231 fn231 (.node .nil 232 fn232 .nil))) 233 fn233 (.node (.node (.node (.node .nil 234 fn234 .nil) 235 fn235 .nil) 236 fn236 (.node (.node .nil 237 fn237 .nil) 238 fn238 .nil)) 239 fn239 (.node (.node (.node .nil 240 fn240 .nil) 241 fn241 .nil) 242 fn242 (.node .nil 243 fn243 .nil)))) 244 fn244 (.node (.node (.node (.node (.node .nil 245 fn245 .nil) 246 fn246 .nil) 247 fn247 (.node (.node .nil 248 fn248 .nil) 249 fn249 .nil)) 250 fn250 (.node (.node (.node .nil 251 fn251 .nil) 252 fn252 .nil) 253 fn253 (.node .nil 254 fn254 .nil))) 255 fn255 (.node (.node (.node (.node .nil 256 fn256 .nil) 257 fn257 .nil) 258 fn258 (.node (.node .nil 259 fn259 .nil) 260 fn260 .nil)) 261 fn261 (.node (.node (.node .nil 262 fn262 .nil) 263 fn263 .nil) 264 fn264 (.node .nil 265 fn265 .nil)))))) 266 fn266 (.node (.node (.node (.node (.node (.node (.node .nil 267 fn267 .nil) 268 fn268 .nil) 269 fn269 (.node (.node .nil 270 fn270 .nil) 271 fn271 .nil)) 272 fn272 (.node (.node (.node .nil 273 fn273 .nil) 274 fn274 .nil) 275 fn275 (.node .nil 276 fn276 .nil))) 277 fn277 (.node (.node (.node (.node .nil 278 fn278 .nil) 279 fn279 .nil) 280 fn280 (.node (.node .nil 282 fn282 .nil) 283 fn283 .nil)) 284 fn284 (.node (.node (.node .nil 285 fn285 .nil) 286 fn286 .nil) 288 fn288 (.node .nil 290 fn290 .nil)))) 291 fn291 (.node (.node (.node (.node (.node .nil 292 fn292 .nil) 293 fn293 .nil) 294 fn294 (.node (.node .nil 295 fn295 .nil) 296 fn296 .nil)) 297 fn297 (.node (.node (.node .nil 298 fn298 .nil) 299 fn299 .nil) 300 fn300 (.node .nil 301 fn301 .nil))) 302 fn302 (.node (.node (.node (.node .nil 303 fn303 .nil) 304 fn304 .nil) 305 fn305 (.node (.node .nil 306 fn306 .nil) 307 fn307 .nil)) 309 fn309 (.node (.node (.node .nil 311 fn311 .nil) 312 fn312 .nil) 313 fn313 (.node .nil 314 fn314 .nil))))) 315 fn315 (.node (.node (.node (.node (.node (.node .nil 316 fn316 .nil) 317 fn317 .nil) 318 fn318 (.node (.node .nil 319 fn319 .nil) 320 fn320 .nil)) 321 fn321 (.node (.node (.node .nil 322 fn322 .nil) 323 fn323 .nil) 324 fn324 (.node .nil 325 fn325 .nil))) 326 fn326 (.node (.node (.node (.node .nil 327 fn327 .nil) 328 fn328 .nil) 329 fn329 (.node (.node .nil 330 fn330 .nil) 331 fn331 .nil)) 332 fn332 (.node (.node (.node .nil 333 fn333 .nil) 334 fn334 .nil) 335 fn335 (.node .nil 336 fn336 .nil)))) 337 fn337 (.node (.node (.node (.node (.node .nil 338 fn338 .nil) 339 fn339 .nil) 340 fn340 (.node (.node .nil 341 fn341 .nil) 342 fn342 .nil)) 343 fn343 (.node (.node (.node .nil 344 fn344 .nil) 345 fn345 .nil) 346 fn346 (.node .nil 347 fn347 .nil))) 348 fn348 (.node (.node (.node (.node .nil 349 fn349 .nil) 350 fn350 .nil) 351 fn351 (.node (.node .nil 352 fn352 .nil) 353 fn353 .nil)) 354 fn354 (.node (.node (.node .nil 355 fn355 .nil) 356 fn356 .nil) 357 fn357 (.node .nil 358 fn358 .nil))))))))
theorem ft_all : AllT QF ft := ⟨⟨⟨⟨⟨⟨⟨⟨⟨True.intro, qf3, True.intro⟩, qf4, True.intro⟩, qf5, ⟨⟨True.intro, qf6, True.intro⟩, qf7, True.intro⟩⟩, qf8, ⟨⟨⟨True.intro, qf9, True.intro⟩, qf10, True.intro⟩, qf11, ⟨True.intro, qf12, True.intro⟩⟩⟩, qf13, ⟨⟨⟨⟨True.intro, qf14, True.intro⟩, qf15, True.intro⟩, qf16, ⟨⟨True.intro, qf17, True.intro⟩, qf18, True.intro⟩⟩, qf19, ⟨⟨⟨True.intro, qf20, True.intro⟩, qf21, True.intro⟩, qf22, ⟨True.intro, qf23, True.intro⟩⟩⟩⟩, qf24, ⟨⟨⟨⟨⟨True.intro, qf25, True.intro⟩, qf26, True.intro⟩, qf27, ⟨⟨True.intro, qf28, True.intro⟩, qf29, True.intro⟩⟩, qf30, ⟨⟨⟨True.intro, qf31, True.intro⟩, qf32, True.intro⟩, qf33, ⟨True.intro, qf34, True.intro⟩⟩⟩, qf35, ⟨⟨⟨⟨True.intro, qf36, True.intro⟩, qf37, True.intro⟩, qf38, ⟨⟨True.intro, qf39, True.intro⟩, qf40, True.intro⟩⟩, qf41, ⟨⟨⟨True.intro, qf42, True.intro⟩, qf43, True.intro⟩, qf44, ⟨True.intro, qf45, True.intro⟩⟩⟩⟩⟩, qf46, ⟨⟨⟨⟨⟨⟨True.intro, qf47, True.intro⟩, qf48, True.intro⟩, qf49, ⟨⟨True.intro, qf50, True.intro⟩, qf51, True.intro⟩⟩, qf52, ⟨⟨⟨True.intro, qf53, True.intro⟩, qf54, True.intro⟩, qf55, ⟨True.intro, qf56, True.intro⟩⟩⟩, qf57, ⟨⟨⟨⟨True.intro, qf58, True.intro⟩, qf59, True.intro⟩, qf60, ⟨⟨True.intro, qf61, True.intro⟩, qf62, True.intro⟩⟩, qf63, ⟨⟨⟨True.intro, qf64, True.intro⟩, qf65, True.intro⟩, qf66, ⟨True.intro, qf67, True.intro⟩⟩⟩⟩, qf68, ⟨⟨⟨⟨⟨True.intro, qf69, True.intro⟩, qf70, True.intro⟩, qf71, ⟨⟨True.intro, qf72, True.intro⟩, qf73, True.intro⟩⟩, qf74, ⟨⟨⟨True.intro, qf75, True.intro⟩, qf76, True.intro⟩, qf77, ⟨True.intro, qf78, True.intro⟩⟩⟩, qf79, ⟨⟨⟨⟨True.intro, qf80, True.intro⟩, qf81, True.intro⟩, qf82, ⟨⟨True.intro, qf83, True.intro⟩, qf84, True.intro⟩⟩, qf85, ⟨⟨⟨True.intro, qf86, True.intro⟩, qf87, True.intro⟩, qf88, ⟨True.intro, qf89, True.intro⟩⟩⟩⟩⟩⟩, qf90, ⟨⟨⟨⟨⟨⟨⟨True.intro, qf91, True.intro⟩, qf92, True.intro⟩, qf93, ⟨⟨True.intro, qf94, True.intro⟩, qf95, True.intro⟩⟩, qf96, ⟨⟨⟨True.intro, qf97, True.intro⟩, qf98, True.intro⟩, qf99, ⟨True.intro, qf100, True.intro⟩⟩⟩, qf101, ⟨⟨⟨⟨True.intro, qf102, True.intro⟩, qf103, True.intro⟩, qf104, ⟨⟨True.intro, qf105, True.intro⟩, qf106, True.intro⟩⟩, qf107, ⟨⟨⟨True.intro, qf108, True.intro⟩, qf109, True.intro⟩, qf110, ⟨True.intro, qf111, True.intro⟩⟩⟩⟩, qf112, ⟨⟨⟨⟨⟨True.intro, qf113, True.intro⟩, qf114, True.intro⟩, qf115, ⟨⟨True.intro, qf116, True.intro⟩, qf117, True.intro⟩⟩, qf118, ⟨⟨⟨True.intro, qf119, True.intro⟩, qf120, True.intro⟩, qf121, ⟨True.intro, qf122, True.intro⟩⟩⟩, qf123, ⟨⟨⟨⟨True.intro, qf124, True.intro⟩, qf125, True.intro⟩, qf126, ⟨⟨True.intro, qf127, True.intro⟩, qf128, True.intro⟩⟩, qf129, ⟨⟨⟨True.intro, qf130, True.intro⟩, qf131, True.intro⟩, qf132, ⟨True.intro, qf133, True.intro⟩⟩⟩⟩⟩, qf134, ⟨⟨⟨⟨⟨⟨True.intro, qf135, True.intro⟩, qf136, True.intro⟩, qf137, ⟨⟨True.intro, qf138, True.intro⟩, qf139, True.intro⟩⟩, qf140, ⟨⟨⟨True.intro, qf141, True.intro⟩, qf142, True.intro⟩, qf143, ⟨True.intro, qf144, True.intro⟩⟩⟩, qf145, ⟨⟨⟨⟨True.intro, qf146, True.intro⟩, qf147, True.intro⟩, qf148, ⟨⟨True.intro, qf149, True.intro⟩, qf150, True.intro⟩⟩, qf151, ⟨⟨⟨True.intro, qf152, True.intro⟩, qf153, True.intro⟩, qf154, ⟨True.intro, qf155, True.intro⟩⟩⟩⟩, qf156, ⟨⟨⟨⟨⟨True.intro, qf157, True.intro⟩, qf158, True.intro⟩, qf159, ⟨⟨True.intro, qf160, True.intro⟩, qf161, True.intro⟩⟩, qf162, ⟨⟨⟨True.intro, qf163, True.intro⟩, qf164, True.intro⟩, qf165, ⟨True.intro, qf166, True.intro⟩⟩⟩, qf167, ⟨⟨⟨⟨True.intro, qf168, True.intro⟩, qf169, True.intro⟩, qf170, ⟨⟨True.intro, qf171, True.intro⟩, qf172, True.intro⟩⟩, qf173, ⟨⟨⟨True.intro, qf174, True.intro⟩, qf175, True.intro⟩, qf176, ⟨True.intro, qf177, True.intro⟩⟩⟩⟩⟩⟩⟩, qf178, ⟨⟨⟨⟨⟨⟨⟨⟨True.intro, qf179, True.intro⟩, qf180, True.intro⟩, qf181, ⟨⟨True.intro, qf182, True.intro⟩, qf183, True.intro⟩⟩, qf184, ⟨⟨⟨True.intro, qf185, True.intro⟩, qf186, True.intro⟩, qf187, ⟨True.intro, qf188, True.intro⟩⟩⟩, qf189, ⟨⟨⟨⟨True.intro, qf190, True.intro⟩, qf191, True.intro⟩, qf192, ⟨⟨True.intro, qf193, True.intro⟩, qf194, True.intro⟩⟩, qf195, ⟨⟨⟨True.intro, qf196, True.intro⟩, qf197, True.intro⟩, qf198, ⟨True.intro, qf199, True.intro⟩⟩⟩⟩, qf200, ⟨⟨⟨⟨⟨True.intro, qf201, True.intro⟩, qf202, True.intro⟩, qf203, ⟨⟨True.intro, qf204, True.intro⟩, qf205, True.intro⟩⟩, qf206, ⟨⟨⟨True.intro, qf207, True.intro⟩, qf208, True.intro⟩, qf209, ⟨True.intro, qf210, True.intro⟩⟩⟩, qf211, ⟨⟨⟨⟨True.intro, qf212, True.intro⟩, qf213, True.intro⟩, qf214, ⟨⟨True.intro, qf215, True.intro⟩, qf216, True.intro⟩⟩, qf217, ⟨⟨⟨True.intro, qf218, True.intro⟩, qf219, True.intro⟩, qf220, ⟨True.intro, qf221, True.intro⟩⟩⟩⟩⟩, qf222, ⟨⟨⟨⟨⟨⟨True.intro, qf223, True.intro⟩, qf224, True.intro⟩, qf225, ⟨⟨True.intro, qf226, True.intro⟩, qf227, True.intro⟩⟩, qf228, ⟨⟨⟨True.intro, qf229, True.intro⟩, qf230, True.intro⟩, qf231, ⟨True.intro, qf232, True.intro⟩⟩⟩, qf233, ⟨⟨⟨⟨True.intro, qf234, True.intro⟩, qf235, True.intro⟩, qf236, ⟨⟨True.intro, qf237, True.intro⟩, qf238, True.intro⟩⟩, qf239, ⟨⟨⟨True.intro, qf240, True.intro⟩, qf241, True.intro⟩, qf242, ⟨True.intro, qf243, True.intro⟩⟩⟩⟩, qf244, ⟨⟨⟨⟨⟨True.intro, qf245, True.intro⟩, qf246, True.intro⟩, qf247, ⟨⟨True.intro, qf248, True.intro⟩, qf249, True.intro⟩⟩, qf250, ⟨⟨⟨True.intro, qf251, True.intro⟩, qf252, True.intro⟩, qf253, ⟨True.intro, qf254, True.intro⟩⟩⟩, qf255, ⟨⟨⟨⟨True.intro, qf256, True.intro⟩, qf257, True.intro⟩, qf258, ⟨⟨True.intro, qf259, True.intro⟩, qf260, True.intro⟩⟩, qf261, ⟨⟨⟨True.intro, qf262, True.intro⟩, qf263, True.intro⟩, qf264, ⟨True.intro, qf265, True.intro⟩⟩⟩⟩⟩⟩, qf266, ⟨⟨⟨⟨⟨⟨⟨True.intro, qf267, True.intro⟩, qf268, True.intro⟩, qf269, ⟨⟨True.intro, qf270, True.intro⟩, qf271, True.intro⟩⟩, qf272, ⟨⟨⟨True.intro, qf273, True.intro⟩, qf274, True.intro⟩, qf275, ⟨True.intro, qf276, True.intro⟩⟩⟩, qf277, ⟨⟨⟨⟨True.intro, qf278, True.intro⟩, qf279, True.intro⟩, qf280, ⟨⟨True.intro, qf282, True.intro⟩, qf283, True.intro⟩⟩, qf284, ⟨⟨⟨True.intro, qf285, True.intro⟩, qf286, True.intro⟩, qf288, ⟨True.intro, qf290, True.intro⟩⟩⟩⟩, qf291, ⟨⟨⟨⟨⟨True.intro, qf292, True.intro⟩, qf293, True.intro⟩, qf294, ⟨⟨True.intro, qf295, True.intro⟩, qf296, True.intro⟩⟩, qf297, ⟨⟨⟨True.intro, qf298, True.intro⟩, qf299, True.intro⟩, qf300, ⟨True.intro, qf301, True.intro⟩⟩⟩, qf302, ⟨⟨⟨⟨True.intro, qf303, True.intro⟩, qf304, True.intro⟩, qf305, ⟨⟨True.intro, qf306, True.intro⟩, qf307, True.intro⟩⟩, qf309, ⟨⟨⟨True.intro, qf311, True.intro⟩, qf312, True.intro⟩, qf313, ⟨True.intro, qf314, True.intro⟩⟩⟩⟩⟩, qf315, ⟨⟨⟨⟨⟨⟨True.intro, qf316, True.intro⟩, qf317, True.intro⟩, qf318, ⟨⟨True.intro, qf319, True.intro⟩, qf320, True.intro⟩⟩, qf321, ⟨⟨⟨True.intro, qf322, True.intro⟩, qf323, True.intro⟩, qf324, ⟨True.intro, qf325, True.intro⟩⟩⟩, qf326, ⟨⟨⟨⟨True.intro, qf327, True.intro⟩, qf328, True.intro⟩, qf329, ⟨⟨True.intro, qf330, True.intro⟩, qf331, True.intro⟩⟩, qf332, ⟨⟨⟨True.intro, qf333, True.intro⟩, qf334, True.intro⟩, qf335, ⟨True.intro, qf336, True.intro⟩⟩⟩⟩, qf337, ⟨⟨⟨⟨⟨True.intro, qf338, True.intro⟩, qf339, True.intro⟩, qf340, ⟨⟨True.intro, qf341, True.intro⟩, qf342, True.intro⟩⟩, qf343, ⟨⟨⟨True.intro, qf344, True.intro⟩, qf345, True.intro⟩, qf346, ⟨True.intro, qf347, True.intro⟩⟩⟩, qf348, ⟨⟨⟨⟨True.intro, qf349, True.intro⟩, qf350, True.intro⟩, qf351, ⟨⟨True.intro, qf352, True.intro⟩, qf353, True.intro⟩⟩, qf354, ⟨⟨⟨True.intro, qf355, True.intro⟩, qf356, True.intro⟩, qf357, ⟨True.intro, qf358, True.intro⟩⟩⟩⟩⟩⟩⟩⟩
theorem ft_ok : FtOk Tryz.prog ft := fun p hp => AllT.mem ft_all p hp
noncomputable def ty0 : TI := ⟨Tryz.t0, Tryz.t0.desc, false⟩
theorem qt0 : QT 0 ty0 := ⟨Tryz.underlying0, info_of Tryz.type0, (fun h => by cases h)⟩
noncomputable def ty1 : TI := ⟨Tryz.t1, Tryz.t1.desc, false⟩
theorem qt1 : QT 1 ty1 := ⟨Tryz.underlying1, info_of Tryz.type1, (fun h => by cases h)⟩
noncomputable def ty2 : TI := ⟨Tryz.t2, Tryz.t2.desc, false⟩
theorem qt2 : QT 2 ty2 := ⟨Tryz.underlying2, info_of Tryz.type2, (fun h => by cases h)⟩
noncomputable def ty3 : TI := ⟨Tryz.t3, Tryz.t3.desc, true⟩
theorem qt3 : QT 3 ty3 := ⟨Tryz.underlying3, info_of Tryz.type3, fun _ => by kernel_rfl⟩
noncomputable def ty4 : TI := ⟨Tryz.t4, Tryz.t4.desc, true⟩
theorem qt4 : QT 4 ty4 := ⟨Tryz.underlying4, info_of Tryz.type4, fun _ => by kernel_rfl⟩
noncomputable def ty5 : TI := ⟨Tryz.t5, Tryz.t5.desc, true⟩
theorem qt5 : QT 5 ty5 := ⟨Tryz.underlying5, info_of Tryz.type5, fun _ => by kernel_rfl⟩
noncomputable def ty6 : TI := ⟨Tryz.t6, Tryz.t5.desc, false⟩
theorem qt6 : QT 6 ty6 := ⟨Tryz.underlying6, info_of Tryz.type6, (fun h => by cases h)⟩
noncomputable def ty7 : TI := ⟨Tryz.t7, Tryz.t7.desc, false⟩
theorem qt7 : QT 7 ty7 := ⟨Tryz.underlying7, info_of Tryz.type7, (fun h => by cases h)⟩
noncomputable def ty8 : TI := ⟨Tryz.t8, Tryz.t7.desc, false⟩
theorem qt8 : QT 8 ty8 := ⟨Tryz.underlying8, info_of Tryz.type8, (fun h => by cases h)⟩
noncomputable def ty9 : TI := ⟨Tryz.t9, Tryz.t9.desc, true⟩
theorem qt9 : QT 9 ty9 := ⟨Tryz.underlying9, info_of Tryz.type9, fun _ => by kernel_rfl⟩
noncomputable def ty10 : TI := ⟨Tryz.t10, Tryz.t9.desc, false⟩
theorem qt10 : QT 10 ty10 := ⟨Tryz.underlying10, info_of Tryz.type10, (fun h => by cases h)⟩
noncomputable def ty12 : TI := ⟨Tryz.t12, Tryz.t12.desc, false⟩
theorem qt12 : QT 12 ty12 := ⟨Tryz.underlying12, info_of Tryz.type12, (fun h => by cases h)⟩
noncomputable def ty16 : TI := ⟨Tryz.t16, Tryz.t16.desc, false⟩
theorem qt16 : QT 16 ty16 := ⟨Tryz.underlying16, info_of Tryz.type16, (fun h => by cases h)⟩
noncomputable def ty17 : TI := ⟨Tryz.t17, Tryz.t17.desc, false⟩
theorem qt17 : QT 17 ty17 := ⟨Tryz.underlying17, info_of Tryz.type17, (fun h => by cases h)⟩
noncomputable def ty20 : TI := ⟨Tryz.t20, Tryz.t20.desc, false⟩
theorem qt20 : QT 20 ty20 := ⟨Tryz.underlying20, info_of Tryz.type20, (fun h => by cases h)⟩
noncomputable def ty21 : TI := ⟨Tryz.t21, Tryz.t21.desc, true⟩
theorem qt21 : QT 21 ty21 := ⟨Tryz.underlying21, info_of Tryz.type21, fun _ => by kernel_rfl⟩
noncomputable def ty22 : TI := ⟨Tryz.t22, Tryz.t22.desc, true⟩
theorem qt22 : QT 22 ty22 := ⟨Tryz.underlying22, info_of Tryz.type22, fun _ => by kernel_rfl⟩
noncomputable def ty23 : TI := ⟨Tryz.t23, Tryz.t23.desc, false⟩
theorem qt23 : QT 23 ty23 := ⟨Tryz.underlying23, info_of Tryz.type23, (fun h => by cases h)⟩
noncomputable def ty24 : TI := ⟨Tryz.t24, Tryz.t23.desc, false⟩
theorem qt24 : QT 24 ty24 := ⟨Tryz.underlying24, info_of Tryz.type24, (fun h => by cases h)⟩
noncomputable def ty25 : TI := ⟨Tryz.t25, Tryz.t25.desc, true⟩
theorem qt25 : QT 25 ty25 := ⟨Tryz.underlying25, info_of Tryz.type25, fun _ => by kernel_rfl⟩
noncomputable def ty26 : TI := ⟨Tryz.t26, Tryz.t23.desc, false⟩
theorem qt26 : QT 26 ty26 := ⟨Tryz.underlying26, info_of Tryz.type26, (fun h => by cases h)⟩
noncomputable def ty27 : TI := ⟨Tryz.t27, Tryz.t27.desc, false⟩
theorem qt27 : QT 27 ty27 := ⟨Tryz.underlying27, info_of Tryz.type27, (fun h => by cases h)⟩
noncomputable def ty32 : TI := ⟨Tryz.t32, Tryz.t32.desc, false⟩
theorem qt32 : QT 32 ty32 := ⟨Tryz.underlying32, info_of Tryz.type32, (fun h => by cases h)⟩
noncomputable def ty34 : TI := ⟨Tryz.t34, Tryz.t3.desc, true⟩
theorem qt34 : QT 34 ty34 := ⟨Tryz.underlying34, info_of Tryz.type34, fun _ => by kernel_rfl⟩
noncomputable def ty37 : TI := ⟨Tryz.t37, Tryz.t37.desc, false⟩
theorem qt37 : QT 37 ty37 := ⟨Tryz.underlying37, info_of Tryz.type37, (fun h => by cases h)⟩
noncomputable def ty40 : TI := ⟨Tryz.t40, Tryz.t40.desc, false⟩
theorem qt40 : QT 40 ty40 := ⟨Tryz.underlying40, info_of Tryz.type40, (fun h => by cases h)⟩
noncomputable def ty41 : TI := ⟨Tryz.t41, Tryz.t41.desc, false⟩
theorem qt41 : QT 41 ty41 := ⟨Tryz.underlying41, info_of Tryz.type41, (fun h => by cases h)⟩
noncomputable def ty44 : TI := ⟨Tryz.t44, Tryz.t44.desc, false⟩
theorem qt44 : QT 44 ty44 := ⟨Tryz.underlying44, info_of Tryz.type44, (fun h => by cases h)⟩
noncomputable def ty45 : TI := ⟨Tryz.t45, Tryz.t45.desc, false⟩
theorem qt45 : QT 45 ty45 := ⟨Tryz.underlying45, info_of Tryz.type45, (fun h => by cases h)⟩
noncomputable def ty46 : TI := ⟨Tryz.t46, Tryz.t45.desc, false⟩
theorem qt46 : QT 46 ty46 := ⟨Tryz.underlying46, info_of Tryz.type46, (fun h => by cases h)⟩
noncomputable def ty47 : TI := ⟨Tryz.t47, Tryz.t47.desc, false⟩
theorem qt47 : QT 47 ty47 := ⟨Tryz.underlying47, info_of Tryz.type47, (fun h => by cases h)⟩
noncomputable def ty48 : TI := ⟨Tryz.t48, Tryz.t48.desc, false⟩
theorem qt48 : QT 48 ty48 := ⟨Tryz.underlying48, info_of Tryz.type48, (fun h => by cases h)⟩
noncomputable def ty49 : TI := ⟨Tryz.t49, Tryz.t45.desc, true⟩
theorem qt49 : QT 49 ty49 := ⟨Tryz.underlying49, info_of Tryz.type49, fun _ => by kernel_rfl⟩
noncomputable def ty52 : TI := ⟨Tryz.t52, Tryz.t52.desc, false⟩
theorem qt52 : QT 52 ty52 := ⟨Tryz.underlying52, info_of Tryz.type52, (fun h => by cases h)⟩
noncomputable def ty53 : TI := ⟨Tryz.t53, Tryz.t52.desc, false⟩
theorem qt53 : QT 53 ty53 := ⟨Tryz.underlying53, info_of Tryz.type53, (fun h => by cases h)⟩
noncomputable def ty54 : TI := ⟨Tryz.t54, Tryz.t54.desc, false⟩
theorem qt54 : QT 54 ty54 := ⟨Tryz.underlying54, info_of Tryz.type54, (fun h => by cases h)⟩
noncomputable def ty56 : TI := ⟨Tryz.t56, Tryz.t52.desc, false⟩
theorem qt56 : QT 56 ty56 := ⟨Tryz.underlying56, info_of Tryz.type56, (fun h => by cases h)⟩
noncomputable def ty59 : TI := ⟨Tryz.t59, Tryz.t59.desc, true⟩
theorem qt59 : QT 59 ty59 := ⟨Tryz.underlying59, info_of Tryz.type59, fun _ => by kernel_rfl⟩
noncomputable def ty60 : TI := ⟨Tryz.t60, Tryz.t60.desc, false⟩
theorem qt60 : QT 60 ty60 := ⟨Tryz.underlying60, info_of Tryz.type60, (fun h => by cases h)⟩
noncomputable def ty63 : TI := ⟨Tryz.t63, Tryz.t63.desc, false⟩
theorem qt63 : QT 63 ty63 := ⟨Tryz.underlying63, info_of Tryz.type63, (fun h => by cases h)⟩
noncomputable def ty64 : TI := ⟨Tryz.t64, Tryz.t64.desc, false⟩
theorem qt64 : QT 64 ty64 := ⟨Tryz.underlying64, info_of Tryz.type64, (fun h => by cases h)⟩
noncomputable def ty65 : TI := ⟨Tryz.t65, Tryz.t65.desc, false⟩
theorem qt65 : QT 65 ty65 := ⟨Tryz.underlying65, info_of Tryz.type65, (fun h => by cases h)⟩
noncomputable def ty69 : TI := ⟨Tryz.t69, Tryz.t69.desc, false⟩
theorem qt69 : QT 69 ty69 := ⟨Tryz.underlying69, info_of Tryz.type69, (fun h => by cases h)⟩
noncomputable def ty72 : TI := ⟨Tryz.t72, Tryz.t72.desc, false⟩
theorem qt72 : QT 72 ty72 := ⟨Tryz.underlying72, info_of Tryz.type72, (fun h => by cases h)⟩
noncomputable def ty73 : TI := ⟨Tryz.t73, Tryz.t73.desc, true⟩
theorem qt73 : QT 73 ty73 := ⟨Tryz.underlying73, info_of Tryz.type73, fun _ => by kernel_rfl⟩
noncomputable def ty74 : TI := ⟨Tryz.t74, Tryz.t74.desc, false⟩
theorem qt74 : QT 74 ty74 := ⟨Tryz.underlying74, info_of Tryz.type74, (fun h => by cases h)⟩
noncomputable def ty76 : TI := ⟨Tryz.t76, Tryz.t76.desc, false⟩
theorem qt76 : QT 76 ty76 := ⟨Tryz.underlying76, info_of Tryz.type76, (fun h => by cases h)⟩
noncomputable def ty80 : TI := ⟨Tryz.t80, Tryz.t80.desc, false⟩
theorem qt80 : QT 80 ty80 := ⟨Tryz.underlying80, info_of Tryz.type80, (fun h => by cases h)⟩
noncomputable def ty81 : TI := ⟨Tryz.t81, Tryz.t80.desc, true⟩
theorem qt81 : QT 81 ty81 := ⟨Tryz.underlying81, info_of Tryz.type81, fun _ => by kernel_rfl⟩
noncomputable def ty82 : TI := ⟨Tryz.t82, Tryz.t82.desc, false⟩
theorem qt82 : QT 82 ty82 := ⟨Tryz.underlying82, info_of Tryz.type82, (fun h => by cases h)⟩
noncomputable def ty83 : TI := ⟨Tryz.t83, Tryz.t83.desc, false⟩
theorem qt83 : QT 83 ty83 := ⟨Tryz.underlying83, info_of Tryz.type83, (fun h => by cases h)⟩
noncomputable def ty86 : TI := ⟨Tryz.t86, Tryz.t86.desc, true⟩
theorem qt86 : QT 86 ty86 := ⟨Tryz.underlying86, info_of Tryz.type86, fun _ => by kernel_rfl⟩
noncomputable def ty87 : TI := ⟨Tryz.t87, Tryz.t87.desc, false⟩
theorem qt87 : QT 87 ty87 := ⟨Tryz.underlying87, info_of Tryz.type87, (fun h => by cases h)⟩
noncomputable def ty88 : TI := ⟨Tryz.t88, Tryz.t88.desc, false⟩
theorem qt88 : QT 88 ty88 := ⟨Tryz.underlying88, info_of Tryz.type88, (fun h => by cases h)⟩
noncomputable def ty89 : TI := ⟨Tryz.t89, Tryz.t80.desc, true⟩
theorem qt89 : QT 89 ty89 := ⟨Tryz.underlying89, info_of Tryz.type89, fun _ => by kernel_rfl⟩
noncomputable def ty90 : TI := ⟨Tryz.t90, Tryz.t90.desc, false⟩
theorem qt90 : QT 90 ty90 := ⟨Tryz.underlying90, info_of Tryz.type90, (fun h => by cases h)⟩
noncomputable def ty91 : TI := ⟨Tryz.t91, Tryz.t91.desc, false⟩
theorem qt91 : QT 91 ty91 := ⟨Tryz.underlying91, info_of Tryz.type91, (fun h => by cases h)⟩
noncomputable def ty97 : TI := ⟨Tryz.t97, Tryz.t97.desc, false⟩
theorem qt97 : QT 97 ty97 := ⟨Tryz.underlying97, info_of Tryz.type97, (fun h => by cases h)⟩
noncomputable def ty101 : TI := ⟨Tryz.t101, Tryz.t101.desc, false⟩
theorem qt101 : QT 101 ty101 := ⟨Tryz.underlying101, info_of Tryz.type101, (fun h => by cases h)⟩
noncomputable def ty105 : TI := ⟨Tryz.t105, Tryz.t105.desc, false⟩
theorem qt105 : QT 105 ty105 := ⟨Tryz.underlying105, info_of Tryz.type105, (fun h => by cases h)⟩
noncomputable def ty111 : TI := ⟨Tryz.t111, Tryz.t111.desc, false⟩
theorem qt111 : QT 111 ty111 := ⟨Tryz.underlying111, info_of Tryz.type111, (fun h => by cases h)⟩
noncomputable def ty112 : TI := ⟨Tryz.t112, Tryz.t112.desc, false⟩
theorem qt112 : QT 112 ty112 := ⟨Tryz.underlying112, info_of Tryz.type112, (fun h => by cases h)⟩
noncomputable def ty114 : TI := ⟨Tryz.t114, Tryz.t114.desc, false⟩
theorem qt114 : QT 114 ty114 := ⟨Tryz.underlying114, info_of Tryz.type114, (fun h => by cases h)⟩
noncomputable def ty115 : TI := ⟨Tryz.t115, Tryz.t114.desc, true⟩
theorem qt115 : QT 115 ty115 := ⟨Tryz.underlying115, info_of Tryz.type115, fun _ => by kernel_rfl⟩
noncomputable def ty116 : TI := ⟨Tryz.t116, Tryz.t114.desc, false⟩
theorem qt116 : QT 116 ty116 := ⟨Tryz.underlying116, info_of Tryz.type116, (fun h => by cases h)⟩
noncomputable def ty118 : TI := ⟨Tryz.t118, Tryz.t118.desc, false⟩
theorem qt118 : QT 118 ty118 := ⟨Tryz.underlying118, info_of Tryz.type118, (fun h => by cases h)⟩
noncomputable def ty119 : TI := ⟨Tryz.t119, Tryz.t118.desc, false⟩
theorem qt119 : QT 119 ty119 := ⟨Tryz.underlying119, info_of Tryz.type119, (fun h => by cases h)⟩
noncomputable def ty121 : TI := ⟨Tryz.t121, Tryz.t121.desc, false⟩
theorem qt121 : QT 121 ty121 := ⟨Tryz.underlying121, info_of Tryz.type121, (fun h => by cases h)⟩
noncomputable def ty123 : TI := ⟨Tryz.t123, Tryz.t123.desc, false⟩
theorem qt123 : QT 123 ty123 := ⟨Tryz.underlying123, info_of Tryz.type123, (fun h => by cases h)⟩
noncomputable def ty125 : TI := ⟨Tryz.t125, Tryz.t125.desc, false⟩
theorem qt125 : QT 125 ty125 := ⟨Tryz.underlying125, info_of Tryz.type125, (fun h => by cases h)⟩
noncomputable def ty131 : TI := ⟨Tryz.t131, Tryz.t131.desc, true⟩
theorem qt131 : QT 131 ty131 := ⟨Tryz.underlying131, info_of Tryz.type131, fun _ => by kernel_rfl⟩
noncomputable def ty132 : TI := ⟨Tryz.t132, Tryz.t132.desc, false⟩
theorem qt132 : QT 132 ty132 := ⟨Tryz.underlying132, info_of Tryz.type132, (fun h => by cases h)⟩
noncomputable def ty134 : TI := ⟨Tryz.t134, Tryz.t134.desc, false⟩
theorem qt134 : QT 134 ty134 := ⟨Tryz.underlying134, info_of Tryz.type134, (fun h => by cases h)⟩
noncomputable def ty135 : TI := ⟨Tryz.t135, Tryz.t135.desc, false⟩
theorem qt135 : QT 135 ty135 := ⟨Tryz.underlying135, info_of Tryz.type135, (fun h => by cases h)⟩
noncomputable def ty136 : TI := ⟨Tryz.t136, Tryz.t135.desc, false⟩
theorem qt136 : QT 136 ty136 := ⟨Tryz.underlying136, info_of Tryz.type136, (fun h => by cases h)⟩
noncomputable def ty137 : TI := ⟨Tryz.t137, Tryz.t137.desc, false⟩
theorem qt137 : QT 137 ty137 := ⟨Tryz.underlying137, info_of Tryz.type137, (fun h => by cases h)⟩
noncomputable def ty139 : TI := ⟨Tryz.t139, Tryz.t139.desc, false⟩
theorem qt139 : QT 139 ty139 := ⟨Tryz.underlying139, info_of Tryz.type139, (fun h => by cases h)⟩
noncomputable def ty141 : TI := ⟨Tryz.t141, Tryz.t141.desc, false⟩
theorem qt141 : QT 141 ty141 := ⟨Tryz.underlying141, info_of Tryz.type141, (fun h => by cases h)⟩
noncomputable def ty145 : TI := ⟨Tryz.t145, Tryz.t145.desc, false⟩
theorem qt145 : QT 145 ty145 := ⟨Tryz.underlying145, info_of Tryz.type145, (fun h => by cases h)⟩
noncomputable def ty147 : TI := ⟨Tryz.t147, Tryz.t147.desc, false⟩
theorem qt147 : QT 147 ty147 := ⟨Tryz.underlying147, info_of Tryz.type147, (fun h => by cases h)⟩
noncomputable def ty148 : TI := ⟨Tryz.t148, Tryz.t148.desc, false⟩
theorem qt148 : QT 148 ty148 := ⟨Tryz.underlying148, info_of Tryz.type148, (fun h => by cases h)⟩
noncomputable def ty150 : TI := ⟨Tryz.t150, Tryz.t150.desc, false⟩
theorem qt150 : QT 150 ty150 := ⟨Tryz.underlying150, info_of Tryz.type150, (fun h => by cases h)⟩
noncomputable def ty152 : TI := ⟨Tryz.t152, Tryz.t152.desc, false⟩
theorem qt152 : QT 152 ty152 := ⟨Tryz.underlying152, info_of Tryz.type152, (fun h => by cases h)⟩
noncomputable def ty153 : TI := ⟨Tryz.t153, Tryz.t153.desc, false⟩
theorem qt153 : QT 153 ty153 := ⟨Tryz.underlying153, info_of Tryz.type153, (fun h => by cases h)⟩
noncomputable def ty154 : TI := ⟨Tryz.t154, Tryz.t153.desc, false⟩
theorem qt154 : QT 154 ty154 := ⟨Tryz.underlying154, info_of Tryz.type154, (fun h => by cases h)⟩
noncomputable def ty155 : TI := ⟨Tryz.t155, Tryz.t155.desc, false⟩
theorem qt155 : QT 155 ty155 := ⟨Tryz.underlying155, info_of Tryz.type155, (fun h => by cases h)⟩
noncomputable def ty157 : TI := ⟨Tryz.t157, Tryz.t157.desc, false⟩
theorem qt157 : QT 157 ty157 := ⟨Tryz.underlying157, info_of Tryz.type157, (fun h => by cases h)⟩
noncomputable def ty163 : TI := ⟨Tryz.t163, Tryz.t163.desc, false⟩
theorem qt163 : QT 163 ty163 := ⟨Tryz.underlying163, info_of Tryz.type163, (fun h => by cases h)⟩
noncomputable def ty164 : TI := ⟨Tryz.t164, Tryz.t163.desc, false⟩
theorem qt164 : QT 164 ty164 := ⟨Tryz.underlying164, info_of Tryz.type164, (fun h => by cases h)⟩
noncomputable def ty165 : TI := ⟨Tryz.t165, Tryz.t165.desc, false⟩
theorem qt165 : QT 165 ty165 := ⟨Tryz.underlying165, info_of Tryz.type165, (fun h => by cases h)⟩
noncomputable def ty167 : TI := ⟨Tryz.t167, Tryz.t167.desc, false⟩
theorem qt167 : QT 167 ty167 := ⟨Tryz.underlying167, info_of Tryz.type167, (fun h => by cases h)⟩
noncomputable def ty173 : TI := ⟨Tryz.t173, Tryz.t173.desc, false⟩
theorem qt173 : QT 173 ty173 := ⟨Tryz.underlying173, info_of Tryz.type173, (fun h => by cases h)⟩
noncomputable def ty174 : TI := ⟨Tryz.t174, Tryz.t173.desc, false⟩
theorem qt174 : QT 174 ty174 := ⟨Tryz.underlying174, info_of Tryz.type174, (fun h => by cases h)⟩
noncomputable def ty175 : TI := ⟨Tryz.t175, Tryz.t173.desc, true⟩
theorem qt175 : QT 175 ty175 := ⟨Tryz.underlying175, info_of Tryz.type175, fun _ => by kernel_rfl⟩
noncomputable def ty176 : TI := ⟨Tryz.t176, Tryz.t163.desc, true⟩
theorem qt176 : QT 176 ty176 := ⟨Tryz.underlying176, info_of Tryz.type176, fun _ => by kernel_rfl⟩
noncomputable def ty178 : TI := ⟨Tryz.t178, Tryz.t178.desc, false⟩
theorem qt178 : QT 178 ty178 := ⟨Tryz.underlying178, info_of Tryz.type178, (fun h => by cases h)⟩
noncomputable def ty179 : TI := ⟨Tryz.t179, Tryz.t179.desc, false⟩
theorem qt179 : QT 179 ty179 := ⟨Tryz.underlying179, info_of Tryz.type179, (fun h => by cases h)⟩
noncomputable def ty182 : TI := ⟨Tryz.t182, Tryz.t182.desc, false⟩
theorem qt182 : QT 182 ty182 := ⟨Tryz.underlying182, info_of Tryz.type182, (fun h => by cases h)⟩
noncomputable def ty187 : TI := ⟨Tryz.t187, Tryz.t187.desc, false⟩
theorem qt187 : QT 187 ty187 := ⟨Tryz.underlying187, info_of Tryz.type187, (fun h => by cases h)⟩
noncomputable def ty191 : TI := ⟨Tryz.t191, Tryz.t191.desc, false⟩
theorem qt191 : QT 191 ty191 := ⟨Tryz.underlying191, info_of Tryz.type191, (fun h => by cases h)⟩
noncomputable def ty195 : TI := ⟨Tryz.t195, Tryz.t195.desc, false⟩
theorem qt195 : QT 195 ty195 := ⟨Tryz.underlying195, info_of Tryz.type195, (fun h => by cases h)⟩
noncomputable def ty200 : TI := ⟨Tryz.t200, Tryz.t200.desc, false⟩
theorem qt200 : QT 200 ty200 := ⟨Tryz.underlying200, info_of Tryz.type200, (fun h => by cases h)⟩
noncomputable def ty206 : TI := ⟨Tryz.t206, Tryz.t206.desc, false⟩
theorem qt206 : QT 206 ty206 := ⟨Tryz.underlying206, info_of Tryz.type206, (fun h => by cases h)⟩
noncomputable def ty210 : TI := ⟨Tryz.t210, Tryz.t210.desc, false⟩
theorem qt210 : QT 210 ty210 := ⟨Tryz.underlying210, info_of Tryz.type210, (fun h => by cases h)⟩
noncomputable def ty212 : TI := ⟨Tryz.t212, Tryz.t212.desc, false⟩
theorem qt212 : QT 212 ty212 := ⟨Tryz.underlying212, info_of Tryz.type212, (fun h => by cases h)⟩
noncomputable def ty213 : TI := ⟨Tryz.t213, Tryz.t213.desc, false⟩
theorem qt213 : QT 213 ty213 := ⟨Tryz.underlying213, info_of Tryz.type213, (fun h => by cases h)⟩
noncomputable def ty216 : TI := ⟨Tryz.t216, Tryz.t216.desc, false⟩
theorem qt216 : QT 216 ty216 := ⟨Tryz.underlying216, info_of Tryz.type216, (fun h => by cases h)⟩
noncomputable def ty217 : TI := ⟨Tryz.t217, Tryz.t216.desc, false⟩
theorem qt217 : QT 217 ty217 := ⟨Tryz.underlying217, info_of Tryz.type217, (fun h => by cases h)⟩
noncomputable def ty219 : TI := ⟨Tryz.t219, Tryz.t219.desc, false⟩
theorem qt219 : QT 219 ty219 := ⟨Tryz.underlying219, info_of Tryz.type219, (fun h => by cases h)⟩
noncomputable def ty220 : TI := ⟨Tryz.t220, Tryz.t219.desc, false⟩
theorem qt220 : QT 220 ty220 := ⟨Tryz.underlying220, info_of Tryz.type220, (fun h => by cases h)⟩
noncomputable def ty221 : TI := ⟨Tryz.t221, Tryz.t221.desc, false⟩
theorem qt221 : QT 221 ty221 := ⟨Tryz.underlying221, info_of Tryz.type221, (fun h => by cases h)⟩
noncomputable def ty224 : TI := ⟨Tryz.t224, Tryz.t224.desc, false⟩
theorem qt224 : QT 224 ty224 := ⟨Tryz.underlying224, info_of Tryz.type224, (fun h => by cases h)⟩
noncomputable def ty234 : TI := ⟨Tryz.t234, Tryz.t234.desc, false⟩
theorem qt234 : QT 234 ty234 := ⟨Tryz.underlying234, info_of Tryz.type234, (fun h => by cases h)⟩
noncomputable def ty236 : TI := ⟨Tryz.t236, Tryz.t236.desc, false⟩
theorem qt236 : QT 236 ty236 := ⟨Tryz.underlying236, info_of Tryz.type236, (fun h => by cases h)⟩
noncomputable def ty238 : TI := ⟨Tryz.t238, Tryz.t238.desc, false⟩
theorem qt238 : QT 238 ty238 := ⟨Tryz.underlying238, info_of Tryz.type238, (fun h => by cases h)⟩
noncomputable def ty240 : TI := ⟨Tryz.t240, Tryz.t240.desc, false⟩
theorem qt240 : QT 240 ty240 := ⟨Tryz.underlying240, info_of Tryz.type240, (fun h => by cases h)⟩
noncomputable def ty241 : TI := ⟨Tryz.t241, Tryz.t240.desc, false⟩
theorem qt241 : QT 241 ty241 := ⟨Tryz.underlying241, info_of Tryz.type241, (fun h => by cases h)⟩
noncomputable def ty243 : TI := ⟨Tryz.t243, Tryz.t243.desc, true⟩
theorem qt243 : QT 243 ty243 := ⟨Tryz.underlying243, info_of Tryz.type243, fun _ => by kernel_rfl⟩
noncomputable def ty244 : TI := ⟨Tryz.t244, Tryz.t244.desc, false⟩
theorem qt244 : QT 244 ty244 := ⟨Tryz.underlying244, info_of Tryz.type244, (fun h => by cases h)⟩
noncomputable def ty246 : TI := ⟨Tryz.t246, Tryz.t246.desc, false⟩
theorem qt246 : QT 246 ty246 := ⟨Tryz.underlying246, info_of Tryz.type246, (fun h => by cases h)⟩
noncomputable def ty247 : TI := ⟨Tryz.t247, Tryz.t246.desc, false⟩
theorem qt247 : QT 247 ty247 := ⟨Tryz.underlying247, info_of Tryz.type247, (fun h => by cases h)⟩
noncomputable def ty250 : TI := ⟨Tryz.t250, Tryz.t250.desc, false⟩
theorem qt250 : QT 250 ty250 := ⟨Tryz.underlying250, info_of Tryz.type250, (fun h => by cases h)⟩
noncomputable def ty252 : TI := ⟨Tryz.t252, Tryz.t252.desc, false⟩
theorem qt252 : QT 252 ty252 := ⟨Tryz.underlying252, info_of Tryz.type252, (fun h => by cases h)⟩
noncomputable def ty253 : TI := ⟨Tryz.t253, Tryz.t253.desc, false⟩
theorem qt253 : QT 253 ty253 := ⟨Tryz.underlying253, info_of Tryz.type253, (fun h => by cases h)⟩
noncomputable def ty254 : TI := ⟨Tryz.t254, Tryz.t253.desc, false⟩
theorem qt254 : QT 254 ty254 := ⟨Tryz.underlying254, info_of Tryz.type254, (fun h => by cases h)⟩
noncomputable def ty255 : TI := ⟨Tryz.t255, Tryz.t255.desc, false⟩
theorem qt255 : QT 255 ty255 := ⟨Tryz.underlying255, info_of Tryz.type255, (fun h => by cases h)⟩
noncomputable def ty256 : TI := ⟨Tryz.t256, Tryz.t256.desc, false⟩
theorem qt256 : QT 256 ty256 := ⟨Tryz.underlying256, info_of Tryz.type256, (fun h => by cases h)⟩
noncomputable def ty258 : TI := ⟨Tryz.t258, Tryz.t258.desc, false⟩
theorem qt258 : QT 258 ty258 := ⟨Tryz.underlying258, info_of Tryz.type258, (fun h => by cases h)⟩
noncomputable def ty259 : TI := ⟨Tryz.t259, Tryz.t259.desc, false⟩
theorem qt259 : QT 259 ty259 := ⟨Tryz.underlying259, info_of Tryz.type259, (fun h => by cases h)⟩
noncomputable def ty260 : TI := ⟨Tryz.t260, Tryz.t259.desc, false⟩
theorem qt260 : QT 260 ty260 := ⟨Tryz.underlying260, info_of Tryz.type260, (fun h => by cases h)⟩
noncomputable def ty261 : TI := ⟨Tryz.t261, Tryz.t261.desc, false⟩
theorem qt261 : QT 261 ty261 := ⟨Tryz.underlying261, info_of Tryz.type261, (fun h => by cases h)⟩
noncomputable def ty262 : TI := ⟨Tryz.t262, Tryz.t262.desc, false⟩
theorem qt262 : QT 262 ty262 := ⟨Tryz.underlying262, info_of Tryz.type262, (fun h => by cases h)⟩
noncomputable def ty265 : TI := ⟨Tryz.t265, Tryz.t265.desc, false⟩
theorem qt265 : QT 265 ty265 := ⟨Tryz.underlying265, info_of Tryz.type265, (fun h => by cases h)⟩
noncomputable def ty266 : TI := ⟨Tryz.t266, Tryz.t266.desc, false⟩
theorem qt266 : QT 266 ty266 := ⟨Tryz.underlying266, info_of Tryz.type266, (fun h => by cases h)⟩
noncomputable def ty267 : TI := ⟨Tryz.t267, Tryz.t266.desc, false⟩
theorem qt267 : QT 267 ty267 := ⟨Tryz.underlying267, info_of Tryz.type267, (fun h => by cases h)⟩
noncomputable def ty269 : TI := ⟨Tryz.t269, Tryz.t269.desc, true⟩
theorem qt269 : QT 269 ty269 := ⟨Tryz.underlying269, info_of Tryz.type269, fun _ => by kernel_rfl⟩
noncomputable def ty270 : TI := ⟨Tryz.t270, Tryz.t270.desc, false⟩
theorem qt270 : QT 270 ty270 := ⟨Tryz.underlying270, info_of Tryz.type270, (fun h => by cases h)⟩
noncomputable def ty271 : TI := ⟨Tryz.t271, Tryz.t270.desc, false⟩
theorem qt271 : QT 271 ty271 := ⟨Tryz.underlying271, info_of Tryz.type271, (fun h => by cases h)⟩
noncomputable def ty272 : TI := ⟨Tryz.t272, Tryz.t272.desc, false⟩
theorem qt272 : QT 272 ty272 := ⟨Tryz.underlying272, info_of Tryz.type272, (fun h => by cases h)⟩
noncomputable def ty273 : TI := ⟨Tryz.t273, Tryz.t272.desc, false⟩
theorem qt273 : QT 273 ty273 := ⟨Tryz.underlying273, info_of Tryz.type273, (fun h => by cases h)⟩
noncomputable def ty274 : TI := ⟨Tryz.t274, Tryz.t274.desc, false⟩
theorem qt274 : QT 274 ty274 := ⟨Tryz.underlying274, info_of Tryz.type274, (fun h => by cases h)⟩
noncomputable def ty276 : TI := ⟨Tryz.t276, Tryz.t276.desc, false⟩
theorem qt276 : QT 276 ty276 := ⟨Tryz.underlying276, info_of Tryz.type276, (fun h => by cases h)⟩
noncomputable def ty277 : TI := ⟨Tryz.t277, Tryz.t276.desc, false⟩
theorem qt277 : QT 277 ty277 := ⟨Tryz.underlying277, info_of Tryz.type277, (fun h => by cases h)⟩
noncomputable def ty278 : TI := ⟨Tryz.t278, Tryz.t278.desc, false⟩
theorem qt278 : QT 278 ty278 := ⟨Tryz.underlying278, info_of Tryz.type278, (fun h => by cases h)⟩
noncomputable def ty279 : TI := ⟨Tryz.t279, Tryz.t278.desc, false⟩
theorem qt279 : QT 279 ty279 := ⟨Tryz.underlying279, info_of Tryz.type279, (fun h => by cases h)⟩
noncomputable def ty280 : TI := ⟨Tryz.t280, Tryz.t280.desc, false⟩
theorem qt280 : QT 280 ty280 := ⟨Tryz.underlying280, info_of Tryz.type280, (fun h => by cases h)⟩
noncomputable def ty282 : TI := ⟨Tryz.t282, Tryz.t282.desc, false⟩
theorem qt282 : QT 282 ty282 := ⟨Tryz.underlying282, info_of Tryz.type282, (fun h => by cases h)⟩
noncomputable def ty284 : TI := ⟨Tryz.t284, Tryz.t284.desc, false⟩
theorem qt284 : QT 284 ty284 := ⟨Tryz.underlying284, info_of Tryz.type284, (fun h => by cases h)⟩
noncomputable def ty285 : TI := ⟨Tryz.t285, Tryz.t285.desc, false⟩
theorem qt285 : QT 285 ty285 := ⟨Tryz.underlying285, info_of Tryz.type285, (fun h => by cases h)⟩
noncomputable def ty286 : TI := ⟨Tryz.t286, Tryz.t286.desc, false⟩
theorem qt286 : QT 286 ty286 := ⟨Tryz.underlying286, info_of Tryz.type286, (fun h => by cases h)⟩
noncomputable def ty287 : TI := ⟨Tryz.t287, Tryz.t286.desc, false⟩
theorem qt287 : QT 287 ty287 := ⟨Tryz.underlying287, info_of Tryz.type287, (fun h => by cases h)⟩
noncomputable def ty289 : TI := ⟨Tryz.t289, Tryz.t289.desc, false⟩
theorem qt289 : QT 289 ty289 := ⟨Tryz.underlying289, info_of Tryz.type289, (fun h => by cases h)⟩
noncomputable def ty299 : TI := ⟨Tryz.t299, Tryz.t299.desc, false⟩
theorem qt299 : QT 299 ty299 := ⟨Tryz.underlying299, info_of Tryz.type299, (fun h => by cases h)⟩
noncomputable def ty300 : TI := ⟨Tryz.t300, Tryz.t300.desc, false⟩
theorem qt300 : QT 300 ty300 := ⟨Tryz.underlying300, info_of Tryz.type300, (fun h => by cases h)⟩
noncomputable def ty302 : TI := ⟨Tryz.t302, Tryz.t302.desc, false⟩
theorem qt302 : QT 302 ty302 := ⟨Tryz.underlying302, info_of Tryz.type302, (fun h => by cases h)⟩
noncomputable def ty303 : TI := ⟨Tryz.t303, Tryz.t303.desc, false⟩
theorem qt303 : QT 303 ty303 := ⟨Tryz.underlying303, info_of Tryz.type303, (fun h => by cases h)⟩
noncomputable def ty305 : TI := ⟨Tryz.t305, Tryz.t305.desc, false⟩
theorem qt305 : QT 305 ty305 := ⟨Tryz.underlying305, info_of Tryz.type305, (fun h => by cases h)⟩
noncomputable def ty306 : TI := ⟨Tryz.t306, Tryz.t305.desc, false⟩
theorem qt306 : QT 306 ty306 := ⟨Tryz.underlying306, info_of Tryz.type306, (fun h => by cases h)⟩
noncomputable def ty308 : TI := ⟨Tryz.t308, Tryz.t308.desc, false⟩
theorem qt308 : QT 308 ty308 := ⟨Tryz.underlying308, info_of Tryz.type308, (fun h => by cases h)⟩
noncomputable def ty309 : TI := ⟨Tryz.t309, Tryz.t308.desc, true⟩
theorem qt309 : QT 309 ty309 := ⟨Tryz.underlying309, info_of Tryz.type309, fun _ => by kernel_rfl⟩
noncomputable def ty310 : TI := ⟨Tryz.t310, Tryz.t310.desc, false⟩
theorem qt310 : QT 310 ty310 := ⟨Tryz.underlying310, info_of Tryz.type310, (fun h => by cases h)⟩
noncomputable def ty312 : TI := ⟨Tryz.t312, Tryz.t312.desc, false⟩
theorem qt312 : QT 312 ty312 := ⟨Tryz.underlying312, info_of Tryz.type312, (fun h => by cases h)⟩
noncomputable def ty314 : TI := ⟨Tryz.t314, Tryz.t314.desc, false⟩
theorem qt314 : QT 314 ty314 := ⟨Tryz.underlying314, info_of Tryz.type314, (fun h => by cases h)⟩
noncomputable def ty316 : TI := ⟨Tryz.t316, Tryz.t9.desc, false⟩
theorem qt316 : QT 316 ty316 := ⟨Tryz.underlying316, info_of Tryz.type316, (fun h => by cases h)⟩
noncomputable def ty319 : TI := ⟨Tryz.t319, Tryz.t319.desc, false⟩
theorem qt319 : QT 319 ty319 := ⟨Tryz.underlying319, info_of Tryz.type319, (fun h => by cases h)⟩
noncomputable def ty321 : TI := ⟨Tryz.t321, Tryz.t321.desc, false⟩
theorem qt321 : QT 321 ty321 := ⟨Tryz.underlying321, info_of Tryz.type321, (fun h => by cases h)⟩
noncomputable def ty322 : TI := ⟨Tryz.t322, Tryz.t321.desc, false⟩
theorem qt322 : QT 322 ty322 := ⟨Tryz.underlying322, info_of Tryz.type322, (fun h => by cases h)⟩
noncomputable def ty328 : TI := ⟨Tryz.t328, Tryz.t328.desc, false⟩
theorem qt328 : QT 328 ty328 := ⟨Tryz.underlying328, info_of Tryz.type328, (fun h => by cases h)⟩
noncomputable def ty333 : TI := ⟨Tryz.t333, Tryz.t333.desc, false⟩
theorem qt333 : QT 333 ty333 := ⟨Tryz.underlying333, info_of Tryz.type333, (fun h => by cases h)⟩
noncomputable def ty348 : TI := ⟨Tryz.t348, Tryz.t348.desc, false⟩
theorem qt348 : QT 348 ty348 := ⟨Tryz.underlying348, info_of Tryz.type348, (fun h => by cases h)⟩
noncomputable def ty349 : TI := ⟨Tryz.t349, Tryz.t348.desc, false⟩
theorem qt349 : QT 349 ty349 := ⟨Tryz.underlying349, info_of Tryz.type349, (fun h => by cases h)⟩
noncomputable def ty353 : TI := ⟨Tryz.t353, Tryz.t353.desc, false⟩
theorem qt353 : QT 353 ty353 := ⟨Tryz.underlying353, info_of Tryz.type353, (fun h => by cases h)⟩
noncomputable def ty354 : TI := ⟨Tryz.t354, Tryz.t353.desc, false⟩
theorem qt354 : QT 354 ty354 := ⟨Tryz.underlying354, info_of Tryz.type354, (fun h => by cases h)⟩
noncomputable def ty355 : TI := ⟨Tryz.t355, Tryz.t355.desc, false⟩
theorem qt355 : QT 355 ty355 := ⟨Tryz.underlying355, info_of Tryz.type355, (fun h => by cases h)⟩
noncomputable def ty358 : TI := ⟨Tryz.t358, Tryz.t358.desc, false⟩
theorem qt358 : QT 358 ty358 := ⟨Tryz.underlying358, info_of Tryz.type358, (fun h => by cases h)⟩
noncomputable def ty359 : TI := ⟨Tryz.t359, Tryz.t359.desc, false⟩
theorem qt359 : QT 359 ty359 := ⟨Tryz.underlying359, info_of Tryz.type359, (fun h => by cases h)⟩
noncomputable def ty367 : TI := ⟨Tryz.t367, Tryz.t367.desc, false⟩
theorem qt367 : QT 367 ty367 := ⟨Tryz.underlying367, info_of Tryz.type367, (fun h => by cases h)⟩
noncomputable def ty371 : TI := ⟨Tryz.t371, Tryz.t371.desc, false⟩
theorem qt371 : QT 371 ty371 := ⟨Tryz.underlying371, info_of Tryz.type371, (fun h => by cases h)⟩
noncomputable def ty374 : TI := ⟨Tryz.t374, Tryz.t374.desc, false⟩
theorem qt374 : QT 374 ty374 := ⟨Tryz.underlying374, info_of Tryz.type374, (fun h => by cases h)⟩
noncomputable def ty378 : TI := ⟨Tryz.t378, Tryz.t378.desc, false⟩
theorem qt378 : QT 378 ty378 := ⟨Tryz.underlying378, info_of Tryz.type378, (fun h => by cases h)⟩
noncomputable def ty387 : TI := ⟨Tryz.t387, Tryz.t387.desc, false⟩
theorem qt387 : QT 387 ty387 := ⟨Tryz.underlying387, info_of Tryz.type387, (fun h => by cases h)⟩
noncomputable def ty394 : TI := ⟨Tryz.t394, Tryz.t394.desc, true⟩
theorem qt394 : QT 394 ty394 := ⟨Tryz.underlying394, info_of Tryz.type394, fun _ => by kernel_rfl⟩
noncomputable def ty395 : TI := ⟨Tryz.t395, Tryz.t395.desc, false⟩
theorem qt395 : QT 395 ty395 := ⟨Tryz.underlying395, info_of Tryz.type395, (fun h => by cases h)⟩
noncomputable def ty398 : TI := ⟨Tryz.t398, Tryz.t3.desc, true⟩
theorem qt398 : QT 398 ty398 := ⟨Tryz.underlying398, info_of Tryz.type398, fun _ => by kernel_rfl⟩
noncomputable def ty399 : TI := ⟨Tryz.t399, Tryz.t399.desc, false⟩
theorem qt399 : QT 399 ty399 := ⟨Tryz.underlying399, info_of Tryz.type399, (fun h => by cases h)⟩
noncomputable def ty406 : TI := ⟨Tryz.t406, Tryz.t406.desc, true⟩
theorem qt406 : QT 406 ty406 := ⟨Tryz.underlying406, info_of Tryz.type406, fun _ => by kernel_rfl⟩
noncomputable def ty407 : TI := ⟨Tryz.t407, Tryz.t407.desc, false⟩
theorem qt407 : QT 407 ty407 := ⟨Tryz.underlying407, info_of Tryz.type407, (fun h => by cases h)⟩
noncomputable def ty409 : TI := ⟨Tryz.t409, Tryz.t409.desc, false⟩
theorem qt409 : QT 409 ty409 := ⟨Tryz.underlying409, info_of Tryz.type409, (fun h => by cases h)⟩
noncomputable def ty411 : TI := ⟨Tryz.t411, Tryz.t3.desc, false⟩
theorem qt411 : QT 411 ty411 := ⟨Tryz.underlying411, info_of Tryz.type411, (fun h => by cases h)⟩
noncomputable def ty412 : TI := ⟨Tryz.t412, Tryz.t412.desc, false⟩
theorem qt412 : QT 412 ty412 := ⟨Tryz.underlying412, info_of Tryz.type412, (fun h => by cases h)⟩
noncomputable def ty414 : TI := ⟨Tryz.t414, Tryz.t414.desc, false⟩
theorem qt414 : QT 414 ty414 := ⟨Tryz.underlying414, info_of Tryz.type414, (fun h => by cases h)⟩
noncomputable def ty418 : TI := ⟨Tryz.t418, Tryz.t418.desc, false⟩
theorem qt418 : QT 418 ty418 := ⟨Tryz.underlying418, info_of Tryz.type418, (fun h => by cases h)⟩
noncomputable def ty421 : TI := ⟨Tryz.t421, Tryz.t421.desc, false⟩
theorem qt421 : QT 421 ty421 := ⟨Tryz.underlying421, info_of Tryz.type421, (fun h => by cases h)⟩
noncomputable def ty423 : TI := ⟨Tryz.t423, Tryz.t423.desc, false⟩
theorem qt423 : QT 423 ty423 := ⟨Tryz.underlying423, info_of Tryz.type423, (fun h => by cases h)⟩
noncomputable def ty424 : TI := ⟨Tryz.t424, Tryz.t424.desc, false⟩
theorem qt424 : QT 424 ty424 := ⟨Tryz.underlying424, info_of Tryz.type424, (fun h => by cases h)⟩
noncomputable def ty425 : TI := ⟨Tryz.t425, Tryz.t424.desc, false⟩
theorem qt425 : QT 425 ty425 := ⟨Tryz.underlying425, info_of Tryz.type425, (fun h => by cases h)⟩
noncomputable def ty426 : TI := ⟨Tryz.t426, Tryz.t426.desc, false⟩
theorem qt426 : QT 426 ty426 := ⟨Tryz.underlying426, info_of Tryz.type426, (fun h => by cases h)⟩
noncomputable def ty427 : TI := ⟨Tryz.t427, Tryz.t406.desc, false⟩
theorem qt427 : QT 427 ty427 := ⟨Tryz.underlying427, info_of Tryz.type427, (fun h => by cases h)⟩
noncomputable def ty431 : TI := ⟨Tryz.t431, Tryz.t431.desc, false⟩
theorem qt431 : QT 431 ty431 := ⟨Tryz.underlying431, info_of Tryz.type431, (fun h => by cases h)⟩
noncomputable def ty434 : TI := ⟨Tryz.t434, Tryz.t434.desc, false⟩
theorem qt434 : QT 434 ty434 := ⟨Tryz.underlying434, info_of Tryz.type434, (fun h => by cases h)⟩
noncomputable def ty435 : TI := ⟨Tryz.t435, Tryz.t435.desc, false⟩
theorem qt435 : QT 435 ty435 := ⟨Tryz.underlying435, info_of Tryz.type435, (fun h => by cases h)⟩
noncomputable def ty436 : TI := ⟨Tryz.t436, Tryz.t436.desc, false⟩
theorem qt436 : QT 436 ty436 := ⟨Tryz.underlying436, info_of Tryz.type436, (fun h => by cases h)⟩
noncomputable def ty438 : TI := ⟨Tryz.t438, Tryz.t438.desc, false⟩
theorem qt438 : QT 438 ty438 := ⟨Tryz.underlying438, info_of Tryz.type438, (fun h => by cases h)⟩
noncomputable def ty439 : TI := ⟨Tryz.t439, Tryz.t438.desc, false⟩
theorem qt439 : QT 439 ty439 := ⟨Tryz.underlying439, info_of Tryz.type439, (fun h => by cases h)⟩
noncomputable def ty441 : TI := ⟨Tryz.t441, Tryz.t441.desc, false⟩
theorem qt441 : QT 441 ty441 := ⟨Tryz.underlying441, info_of Tryz.type441, (fun h => by cases h)⟩
noncomputable def ty442 : TI := ⟨Tryz.t442, Tryz.t442.desc, false⟩
theorem qt442 : QT 442 ty442 := ⟨Tryz.underlying442, info_of Tryz.type442, (fun h => by cases h)⟩
noncomputable def ty445 : TI := ⟨Tryz.t445, Tryz.t445.desc, false⟩
theorem qt445 : QT 445 ty445 := ⟨Tryz.underlying445, info_of Tryz.type445, (fun h => by cases h)⟩
noncomputable def ty446 : TI := ⟨Tryz.t446, Tryz.t446.desc, false⟩
theorem qt446 : QT 446 ty446 := ⟨Tryz.underlying446, info_of Tryz.type446, (fun h => by cases h)⟩
noncomputable def ty447 : TI := ⟨Tryz.t447, Tryz.t446.desc, false⟩
theorem qt447 : QT 447 ty447 := ⟨Tryz.underlying447, info_of Tryz.type447, (fun h => by cases h)⟩
noncomputable def ty448 : TI := ⟨Tryz.t448, Tryz.t448.desc, false⟩
theorem qt448 : QT 448 ty448 := ⟨Tryz.underlying448, info_of Tryz.type448, (fun h => by cases h)⟩
noncomputable def ty449 : TI := ⟨Tryz.t449, Tryz.t449.desc, false⟩
theorem qt449 : QT 449 ty449 := ⟨Tryz.underlying449, info_of Tryz.type449, (fun h => by cases h)⟩
noncomputable def ty452 : TI := ⟨Tryz.t452, Tryz.t452.desc, false⟩
theorem qt452 : QT 452 ty452 := ⟨Tryz.underlying452, info_of Tryz.type452, (fun h => by cases h)⟩
noncomputable def ty453 : TI := ⟨Tryz.t453, Tryz.t453.desc, false⟩
theorem qt453 : QT 453 ty453 := ⟨Tryz.underlying453, info_of Tryz.type453, (fun h => by cases h)⟩
noncomputable def ty454 : TI := ⟨Tryz.t454, Tryz.t453.desc, false⟩
theorem qt454 : QT 454 ty454 := ⟨Tryz.underlying454, info_of Tryz.type454, (fun h => by cases h)⟩
noncomputable def ty455 : TI := ⟨Tryz.t455, Tryz.t5.desc, false⟩
theorem qt455 : QT 455 ty455 := ⟨Tryz.underlying455, info_of Tryz.type455, (fun h => by cases h)⟩
noncomputable def ty456 : TI := ⟨Tryz.t456, Tryz.t5.desc, false⟩
theorem qt456 : QT 456 ty456 := ⟨Tryz.underlying456, info_of Tryz.type456, (fun h => by cases h)⟩
noncomputable def ty457 : TI := ⟨Tryz.t457, Tryz.t457.desc, false⟩
theorem qt457 : QT 457 ty457 := ⟨Tryz.underlying457, info_of Tryz.type457, (fun h => by cases h)⟩
noncomputable def ty458 : TI := ⟨Tryz.t458, Tryz.t21.desc, false⟩
theorem qt458 : QT 458 ty458 := ⟨Tryz.underlying458, info_of Tryz.type458, (fun h => by cases h)⟩
noncomputable def ty459 : TI := ⟨Tryz.t459, Tryz.t21.desc, false⟩
theorem qt459 : QT 459 ty459 := ⟨Tryz.underlying459, info_of Tryz.type459, (fun h => by cases h)⟩
noncomputable def ty460 : TI := ⟨Tryz.t460, Tryz.t460.desc, false⟩
theorem qt460 : QT 460 ty460 := ⟨Tryz.underlying460, info_of Tryz.type460, (fun h => by cases h)⟩
noncomputable def ty461 : TI := ⟨Tryz.t461, Tryz.t460.desc, false⟩
theorem qt461 : QT 461 ty461 := ⟨Tryz.underlying461, info_of Tryz.type461, (fun h => by cases h)⟩
noncomputable def tt : Tr TI := (.node (.node (.node .nil 0 ty0 (.node (.node .nil 1 ty1 .nil) 2 ty2 .nil)) 3 ty3 .nil) 4 ty4 (.node (.node (.node .nil 5 ty5 (.node (.node .nil 6 ty6 .nil) 7 ty7 (.node .nil 8 ty8 .nil))) 9 ty9 (.node (.node (.node (.node (.node (.node .nil 10 ty10 .nil) 12 ty12 (.node .nil 16 ty16 (.node .nil 17 ty17 .nil))) 20 ty20 .nil) 21 ty21 .nil) 22 ty22 (.node (.node (.node .nil 23 ty23 .nil) 24 ty24 .nil) 25 ty25 (.node (.node .nil 26 ty26 .nil) 27 ty27 (.node .nil 32 ty32 .nil)))) 34 ty34 (.node (.node (.node .nil 37 ty37 (.node (.node .nil 40 ty40 .nil) 41 ty41 (.node .nil 44 ty44 (.node .nil 45 ty45 .nil)))) 46 ty46 (.node (.node .nil 47 ty47 (.node .nil 48 ty48 .nil)) 49 ty49 (.node .nil 52 ty52 .nil))) 53 ty53 (.node (.node (.node .nil 54 ty54 .nil) 56 ty56 .nil) 59 ty59 .nil)))) 60 ty60 (.node (.node (.node (.node .nil 63 ty63 (.node (.node (.node .nil 64 ty64 .nil) 65 ty65 .nil) 69 ty69 (.node .nil 72 ty72 .nil))) 73 ty73 (.node (.node .nil 74 ty74 (.node .nil 76 ty76 (.node .nil 80 ty80 .nil))) 81 ty81 (.node .nil 82 ty82 .nil))) 83 ty83 (.node (.node (.node .nil 86 ty86 (.node .nil 87 ty87 (.node .nil 88 ty88 .nil))) 89 ty89 (.node (.node .nil 90 ty90 (.node (.node (.node .nil 91 ty91 .nil) 97 ty97 .nil) 101 ty101 (.node .nil 105 ty105 (.node .nil 111 ty111 (.node .nil 112 ty112 (.node .nil 114 ty114 .nil)))))) 115 ty115 (.node .nil 116 ty116 (.node .nil 118 ty118 .nil)))) 119 ty119 (.node .nil 121 ty121 (.node .nil 123 ty123 .nil)))) 125 ty125 (.node (.node (.node (.node (.node .nil 131 ty131 (.node (.node .nil 132 ty132 .nil) 134 ty134 (.node .nil 135 ty135 .nil))) 136 ty136 (.node (.node .nil 137 ty137 (.node .nil 139 ty139 .nil)) 141 ty141 (.node (.node .nil 145 ty145 .nil) 147 ty147 (.node .nil 148 ty148 .nil)))) 150 ty150 (.node (.node .nil 152 ty152 (.node .nil 153 ty153 .nil)) 154 ty154 (.node .nil 155 ty155 (.node .nil 157 ty157 (.node .nil 163 ty163 .nil))))) 164 ty164 (.node (.node (.node (.node (.node (.node .nil 165 ty165 .nil) 167 ty167 (.node .nil 173 ty173 .nil)) 174 ty174 .nil) 175 ty175 (.node (.node .nil 176 ty176 .nil) 178 ty178 (.node (.node .nil 179 ty179 .nil) 182 ty182 (.node (.node .nil 187 ty187 .nil) 191 ty191 .nil)))) 195 ty195 (.node (.node (.node (.node .nil 200 ty200 .nil) 206 ty206 (.node .nil 210 ty210 .nil)) 212 ty212 (.node .nil 213 ty213 (.node .nil 216 ty216 .nil))) 217 ty217 (.node (.node .nil 219 ty219 .nil) 220 ty220 .nil))) 221 ty221 (.node (.node (.node (.node (.node .nil 224 ty224 .nil) 234 ty234 (.node (.node .nil 236 ty236 .nil) 238 ty238 (.node .nil 240 ty240 .nil))) 241 ty241 .nil) 243 ty243 (.node (.node .nil 244 ty244 (.node .nil 246 ty246 .nil)) 247 ty247 (.node .nil 250 ty250 (.node .nil 252 ty252 (.node .nil 253 ty253 .nil))))) 254 ty254 (.node (.node (.node (.node .nil 255 ty255 .nil) 256 ty256 (.node .nil 258 ty258 (.node .nil 259 ty259 .nil))) 260 ty260 (.node (.node (.node .nil 261 ty261 .nil) 262 ty262 .nil) 265 ty265 (.node .nil 266 ty266 .nil))) 267 ty267 (.node .nil 269 ty269 (.node (.node .nil 270 ty270 .nil) 271 ty271 (.node .nil 272 ty272 .nil))))))) 273 ty273 (.node (.node (.node (.node (.node (.node .nil 274 ty274 (.node .nil 276 ty276 .nil)) 277 ty277 (.node .nil 278 ty278 .nil)) 279 ty279 (.node (.node .nil 280 ty280 .nil) 282 ty282 (.node (.node .nil 284 ty284 .nil) 285 ty285 (.node .nil 286 ty286 .nil)))) 287 ty287 (.node (.node .nil 289 ty289 .nil) 299 ty299 (.node (.node .nil 300 ty300 .nil) 302 ty302 (.node .nil 303 ty303 (.node (.node .nil 305 ty305 .nil) 306 ty306 (.node .nil 308 ty308 .nil)))))) 309 ty309 (.node (.node (.node (.node (.node .nil 310 ty310 .nil) 312 ty312 (.node .nil 314 ty314 .nil)) 316 ty316 (.node (.node (.node .nil 319 ty319 .nil) 321 ty321 (.node .nil 322 ty322 .nil)) 328 ty328 (.node .nil 333 ty333 (.node .nil 348 ty348 .nil)))) 349 ty349 (.node (.node (.node .nil 353 ty353 .nil) 354 ty354 (.node .nil 355 ty355 .nil)) 358 ty358 (.node (.node .nil 359 ty359 .nil) 367 ty367 (.node .nil 371 ty371 .nil)))) 374 ty374 (.node .nil 378 ty378 (.node .nil 387 ty387 .nil)))) 394 ty394 (.node (.node (.node .nil 395 ty395 .nil) 398 ty398 (.node .nil 399 ty399 .nil)) 406 ty406 (.node (.node (.node (.node .nil 407 ty407 (.node .nil 409 ty409 .nil)) 411 ty411 (.node .nil 412 ty412 .nil)) 414 ty414 (.node (.node (.node .nil 418 ty418 .nil) 421 ty421 (.node .nil 423 ty423 (.node .nil 424 ty424 .nil))) 425 ty425 (.node .nil 426 ty426 .nil))) 427 ty427 (.node (.node (.node .nil 431 ty431 (.node .nil 434 ty434 .nil)) 435 ty435 (.node (.node .nil 436 ty436 (.node .nil 438 ty438 .nil)) 439 ty439 .nil)) 441 ty441 (.node (.node (.node .nil 442 ty442 .nil) 445 ty445 (.node (.node .nil 446 ty446 .nil) 447 ty447 .nil)) 448 ty448 (.node (.node .nil 449 ty449 (.node .nil 452 ty452 (.node .nil 453 ty453 .nil))) 454 ty454 (.node (.node (.node .nil 455 ty455 .nil) 456 ty456 (.node .nil 457 ty457 .nil)) 458 ty458 (.node (.node .nil 459 ty459 .nil) 460 ty460 (.node .nil 461 ty461 .nil)))))))))))))
theorem tt_all : AllT QT tt := ⟨⟨⟨True.intro, qt0, ⟨⟨True.intro, qt1, True.intro⟩, qt2, True.intro⟩⟩, qt3, True.intro⟩, qt4, ⟨⟨⟨True.intro, qt5, ⟨⟨True.intro, qt6, True.intro⟩, qt7, ⟨True.intro, qt8, True.intro⟩⟩⟩, qt9, ⟨⟨⟨⟨⟨⟨True.intro, qt10, True.intro⟩, qt12, ⟨True.intro, qt16, ⟨True.intro, qt17, True.intro⟩⟩⟩, qt20, True.intro⟩, qt21, True.intro⟩, qt22, ⟨⟨⟨True.intro, qt23, True.intro⟩, qt24, True.intro⟩, qt25, ⟨⟨True.intro, qt26, True.intro⟩, qt27, ⟨True.intro, qt32, True.intro⟩⟩⟩⟩, qt34, ⟨⟨⟨True.intro, qt37, ⟨⟨True.intro, qt40, True.intro⟩, qt41, ⟨True.intro, qt44, ⟨True.intro, qt45, True.intro⟩⟩⟩⟩, qt46, ⟨⟨True.intro, qt47, ⟨True.intro, qt48, True.intro⟩⟩, qt49, ⟨True.intro, qt52, True.intro⟩⟩⟩, qt53, ⟨⟨⟨True.intro, qt54, True.intro⟩, qt56, True.intro⟩, qt59, True.intro⟩⟩⟩⟩, qt60, ⟨⟨⟨⟨True.intro, qt63, ⟨⟨⟨True.intro, qt64, True.intro⟩, qt65, True.intro⟩, qt69, ⟨True.intro, qt72, True.intro⟩⟩⟩, qt73, ⟨⟨True.intro, qt74, ⟨True.intro, qt76, ⟨True.intro, qt80, True.intro⟩⟩⟩, qt81, ⟨True.intro, qt82, True.intro⟩⟩⟩, qt83, ⟨⟨⟨True.intro, qt86, ⟨True.intro, qt87, ⟨True.intro, qt88, True.intro⟩⟩⟩, qt89, ⟨⟨True.intro, qt90, ⟨⟨⟨True.intro, qt91, True.intro⟩, qt97, True.intro⟩, qt101, ⟨True.intro, qt105, ⟨True.intro, qt111, ⟨True.intro, qt112, ⟨True.intro, qt114, True.intro⟩⟩⟩⟩⟩⟩, qt115, ⟨True.intro, qt116, ⟨True.intro, qt118, True.intro⟩⟩⟩⟩, qt119, ⟨True.intro, qt121, ⟨True.intro, qt123, True.intro⟩⟩⟩⟩, qt125, ⟨⟨⟨⟨⟨True.intro, qt131, ⟨⟨True.intro, qt132, True.intro⟩, qt134, ⟨True.intro, qt135, True.intro⟩⟩⟩, qt136, ⟨⟨True.intro, qt137, ⟨True.intro, qt139, True.intro⟩⟩, qt141, ⟨⟨True.intro, qt145, True.intro⟩, qt147, ⟨True.intro, qt148, True.intro⟩⟩⟩⟩, qt150, ⟨⟨True.intro, qt152, ⟨True.intro, qt153, True.intro⟩⟩, qt154, ⟨True.intro, qt155, ⟨True.intro, qt157, ⟨True.intro, qt163, True.intro⟩⟩⟩⟩⟩, qt164, ⟨⟨⟨⟨⟨⟨True.intro, qt165, True.intro⟩, qt167, ⟨True.intro, qt173, True.intro⟩⟩, qt174, True.intro⟩, qt175, ⟨⟨True.intro, qt176, True.intro⟩, qt178, ⟨⟨True.intro, qt179, True.intro⟩, qt182, ⟨⟨True.intro, qt187, True.intro⟩, qt191, True.intro⟩⟩⟩⟩, qt195, ⟨⟨⟨⟨True.intro, qt200, True.intro⟩, qt206, ⟨True.intro, qt210, True.intro⟩⟩, qt212, ⟨True.intro, qt213, ⟨True.intro, qt216, True.intro⟩⟩⟩, qt217, ⟨⟨True.intro, qt219, True.intro⟩, qt220, True.intro⟩⟩⟩, qt221, ⟨⟨⟨⟨⟨True.intro, qt224, True.intro⟩, qt234, ⟨⟨True.intro, qt236, True.intro⟩, qt238, ⟨True.intro, qt240, True.intro⟩⟩⟩, qt241, True.intro⟩, qt243, ⟨⟨True.intro, qt244, ⟨True.intro, qt246, True.intro⟩⟩, qt247, ⟨True.intro, qt250, ⟨True.intro, qt252, ⟨True.intro, qt253, True.intro⟩⟩⟩⟩⟩, qt254, ⟨⟨⟨⟨True.intro, qt255, True.intro⟩, qt256, ⟨True.intro, qt258, ⟨True.intro, qt259, True.intro⟩⟩⟩, qt260, ⟨⟨⟨True.intro, qt261, True.intro⟩, qt262, True.intro⟩, qt265, ⟨True.intro, qt266, True.intro⟩⟩⟩, qt267, ⟨True.intro, qt269, ⟨⟨True.intro, qt270, True.intro⟩, qt271, ⟨True.intro, qt272, True.intro⟩⟩⟩⟩⟩⟩⟩, qt273, ⟨⟨⟨⟨⟨⟨True.intro, qt274, ⟨True.intro, qt276, True.intro⟩⟩, qt277, ⟨True.intro, qt278, True.intro⟩⟩, qt279, ⟨⟨True.intro, qt280, True.intro⟩, qt282, ⟨⟨True.intro, qt284, True.intro⟩, qt285, ⟨True.intro, qt286, True.intro⟩⟩⟩⟩, qt287, ⟨⟨True.intro, qt289, True.intro⟩, qt299, ⟨⟨True.intro, qt300, True.intro⟩, qt302, ⟨True.intro, qt303, ⟨⟨True.intro, qt305, True.intro⟩, qt306, ⟨True.intro, qt308, True.intro⟩⟩⟩⟩⟩⟩, qt309, ⟨⟨⟨⟨⟨True.intro, qt310, True.intro⟩, qt312, ⟨True.intro, qt314, True.intro⟩⟩, qt316, ⟨⟨⟨True.intro, qt319, True.intro⟩, qt321, ⟨True.intro, qt322, True.intro⟩⟩, qt328, ⟨True.intro, qt333, ⟨True.intro, qt348, True.intro⟩⟩⟩⟩, qt349, ⟨⟨⟨True.intro, qt353, True.intro⟩, qt354, ⟨True.intro, qt355, True.intro⟩⟩, qt358, ⟨⟨True.intro, qt359, True.intro⟩, qt367, ⟨True.intro, qt371, True.intro⟩⟩⟩⟩, qt374, ⟨True.intro, qt378, ⟨True.intro, qt387, True.intro⟩⟩⟩⟩, qt394, ⟨⟨⟨True.intro, qt395, True.intro⟩, qt398, ⟨True.intro, qt399, True.intro⟩⟩, qt406, ⟨⟨⟨⟨True.intro, qt407, ⟨True.intro, qt409, True.intro⟩⟩, qt411, ⟨True.intro, qt412, True.intro⟩⟩, qt414, ⟨⟨⟨True.intro, qt418, True.intro⟩, qt421, ⟨True.intro, qt423, ⟨True.intro, qt424, True.intro⟩⟩⟩, qt425, ⟨True.intro, qt426, True.intro⟩⟩⟩, qt427, ⟨⟨⟨True.intro, qt431, ⟨True.intro, qt434, True.intro⟩⟩, qt435, ⟨⟨True.intro, qt436, ⟨True.intro, qt438, True.intro⟩⟩, qt439, True.intro⟩⟩, qt441, ⟨⟨⟨True.intro, qt442, True.intro⟩, qt445, ⟨⟨True.intro, qt446, True.intro⟩, qt447, True.intro⟩⟩, qt448, ⟨⟨True.intro, qt449, ⟨True.intro, qt452, ⟨True.intro, qt453, True.intro⟩⟩⟩, qt454, ⟨⟨⟨True.intro, qt455, True.intro⟩, qt456, ⟨True.intro, qt457, True.intro⟩⟩, qt458, ⟨⟨True.intro, qt459, True.intro⟩, qt460, ⟨True.intro, qt461, True.intro⟩⟩⟩⟩⟩⟩⟩⟩⟩⟩⟩⟩⟩
noncomputable def tab : Tab := ⟨fun t => tt.get t⟩
theorem tab_ok : TabOk Tryz.prog tab := ⟨fun t i h => AllT.mem tt_all (t, i) (Tr.get_mem h)⟩
theorem mixed : Tryz.prog.follows .mixedOrders = true := by kernel_rfl
end Go.Lens.Tb
end
section
namespace Go.Lens.Tb
open Go.Proofs
set_option linter.unusedSectionVars false
abbrev pI (x : Int) : PV := .lit (.int .i64 x)
abbrev pB (x : Bool) : PV := .lit (.bool x)
abbrev pS (x : ByteArray) : PV := .lit (.string x)
abbrev pL {α : Type} (f : α → List PV) (l : List α) : PV := .slice (List.map f l)
abbrev vI (x : Int) : DV := .pv (.lit (.int .i64 x))
abbrev vB (x : Bool) : DV := .pv (.lit (.bool x))
abbrev vS (x : ByteArray) : DV := .pv (.lit (.string x))
abbrev vL {α : Type} (f : α → List PV) (l : List α) : DV := .pv (.slice (List.map f l))
theorem RO [Lz] {P : Program} {Y : Tab} [TabOk P Y] {nb : Nat} {ops : Array Oper} {s : St} {dst : Option Tmp} {op : Op} {ty : TypeId} {pos : String} {af : Array Edge} {dr : Bool} {os : List Oper} {acc : List Ef} {Q : St → Prop} {val : DV} {m : List (Nat × MO)} {rd : List Nat}
    (h : Body P Y nb s ⟨dst, op, ty, pos, af, none⟩ val m rd) (k : RG P Y nb ops dr os (stp s ⟨dst, val, m, rd⟩) (acc ++ [⟨dst, val, m, rd⟩]) Q) : RG P Y nb ops dr (⟨dst, op, ty, pos, af, none⟩ :: os) s acc Q :=
  RG.cons (EfR.on rfl h) k
theorem agT {tm : List (Nat × DV)} : ∀ {l : List (Nat × DV)}, l.map (fun p => getT tm p.1) = l.map (fun p => p.2) → AgT tm l
  | [], _ => trivial
  | p :: l, h => by
    simp only [List.map_cons, List.cons.injEq] at h
    exact ⟨h.1, agT h.2⟩
theorem agM {ms : List (Nat × MO)} : ∀ {l : List (Nat × MO)}, l.map (fun p => lookM ms p.1) = l.map (fun p => some p.2) → AgM ms l
  | [], _ => trivial
  | p :: l, h => by
    simp only [List.map_cons, List.cons.injEq] at h
    exact ⟨h.1, agM h.2⟩
theorem sb [Lz] {nb : Nat} {s S : St} (h1 : S.tm.map (fun p => getT s.tm p.1) = S.tm.map (fun p => p.2)) (h2 : S.ms.map (fun p => lookM s.ms p.1) = S.ms.map (fun p => some p.2))
    (h3 : (closedM S.ms && S.tm.all (fun p => p.2.refs.all (hasM S.ms)) && s.ms.all (fun p => Nat.ble nb p.1 || hasM S.ms p.1)) = true) : Sub nb s S := ⟨agT h1, agM h2, h3⟩
theorem RN [Lz] {P : Program} {Y : Tab} [TabOk P Y] {nb : Nat} {ops : Array Oper} {s : St} {acc : List Ef} {Q : St → Prop} (hq : Q s) : RG P Y nb ops false [] s acc Q := RG.nil (fun h => by cases h) hq
theorem NR [Lz] {n nb : Nat} {Q : Exit → St → Prop} {K : List Fr} {id : Nat} {ops : Array Oper} {dr : Bool} {s : St} (s' : St) (h : Sub nb s s') (hda : dstAll n (.region id ops dr) = true)
    (k : RG Tryz.prog tab nb ops dr ops.toList s' [] (PK Tryz.prog n nb Q K .normal)) : TK Tryz.prog n nb Q (.region id ops dr) K s :=
  haveI := tab_ok
  TK.norm s' h (TK.rg (Y := tab) mixed hda k)
section
variable [Lz] {P : Program} {n nb : Nat} {Q : Exit → St → Prop} {K : List Fr} {s : St} {x y : Code} {id : Nat}
theorem a1 (h : TK P n nb Q x K s) : PK P n nb Q (.seq x :: K) .normal s := PK.seq h
theorem a2 (h : PK P n nb Q K .normal s) : PK P n nb Q (.blk id :: K) .normal s := PK.blk h
theorem a3 (h : TK P n nb Q x (.seq y :: K) s) : TK P n nb Q (.seq x y) K s := TK.seq h
theorem a4 (h : TK P n nb Q x (.blk id :: K) s) : TK P n nb Q (.block id x) K s := TK.block h
theorem a5 (h : PK P n nb Q K .normal s) : TK P n nb Q .skip K s := TK.skip h
end
inductive Cf [Lz] where
 | t (x : Code) (K : List Fr)
 | p (K : List Fr)
def adv [Lz] : Nat → Cf → Cf
 | 0, c => c
 | k+1, .p K => match K with
  | .seq x :: K => adv k (.t x K)
  | .blk _ :: K => adv k (.p K)
  | K => .p K
 | k+1, .t x K => match x with
  | .seq x y => adv k (.t x (.seq y :: K))
  | .block i x => adv k (.t x (.blk i :: K))
  | .skip => adv k (.p K)
  | x => .t x K
def CK [Lz] (P : Program) (n nb : Nat) (Q : Exit → St → Prop) (s : St) : Cf → Prop
 | .t x K => TK P n nb Q x K s
 | .p K => PK P n nb Q K .normal s
theorem adv_ok [Lz] {P : Program} {n nb : Nat} {Q : Exit → St → Prop} {s : St} : ∀ {k : Nat} {c : Cf}, CK P n nb Q s (adv k c) → CK P n nb Q s c
 | 0, _, h => h
 | k+1, .p K, h => by
  unfold adv at h
  split at h
  ·rename_i x K
   show PK P n nb Q (.seq x :: K) .normal s
   exact PK.seq (adv_ok (c := .t x K) h)
  ·rename_i i K
   show PK P n nb Q (.blk i :: K) .normal s
   exact PK.blk (adv_ok (c := .p K) h)
  ·exact h
 | k+1, .t x K, h => by
  unfold adv at h
  split at h
  ·rename_i x y
   show TK P n nb Q (.seq x y) K s
   exact TK.seq (adv_ok (c := .t x (.seq y :: K)) h)
  ·rename_i i x
   show TK P n nb Q (.block i x) K s
   exact TK.block (adv_ok (c := .t x (.blk i :: K)) h)
  ·show TK P n nb Q .skip K s
   exact TK.skip (adv_ok (c := .p K) h)
  ·exact h
theorem At [Lz] {P : Program} {n nb : Nat} {Q : Exit → St → Prop} {s : St} {x y : Code} {K M : List Fr} (e : adv 40 (.t x K) = .t y M) (h : TK P n nb Q y M s) : TK P n nb Q x K s := adv_ok (c := .t x K) (k := 40) (by rw [e]; exact h)
theorem Ap [Lz] {P : Program} {n nb : Nat} {Q : Exit → St → Prop} {s : St} {y : Code} {K M : List Fr} (e : adv 40 (.p K) = .t y M) (h : TK P n nb Q y M s) : PK P n nb Q K .normal s := adv_ok (c := .p K) (k := 40) (by rw [e]; exact h)
theorem Au [Lz] {P : Program} {n nb : Nat} {Q : Exit → St → Prop} {s : St} {x : Code} {K M : List Fr} (e : adv 40 (.t x K) = .p M) (h : PK P n nb Q M .normal s) : TK P n nb Q x K s := adv_ok (c := .t x K) (k := 40) (by rw [e]; exact h)
theorem Aq [Lz] {P : Program} {n nb : Nat} {Q : Exit → St → Prop} {s : St} {K M : List Fr} (e : adv 40 (.p K) = .p M) (h : PK P n nb Q M .normal s) : PK P n nb Q K .normal s := adv_ok (c := .p K) (k := 40) (by rw [e]; exact h)
section
variable [Lz] {P : Program} {Y : Tab} [TabOk P Y] {nb : Nat} {ops : Array Oper} {s : St} {dst : Option Tmp} {ty : TypeId} {pos : String} {af : Array Edge} {dr : Bool} {os : List Oper} {acc : List Ef} {Q : St → Prop}
theorem mv {x : Operand} {p : PV} (h : ev1 s x = .pv p) (k : RG P Y nb ops dr os (stp s ⟨dst, .pv p, [], []⟩) (acc ++ [⟨dst, .pv p, [], []⟩]) Q) : RG P Y nb ops dr (⟨dst, .move x, ty, pos, af, none⟩ :: os) s acc Q := RO (Body.move h) k
theorem ag {x : Operand} {p : PV} (h : ev1 s x = .pv p) (k : RG P Y nb ops dr os (stp s ⟨dst, .pv p, [], []⟩) (acc ++ [⟨dst, .pv p, [], []⟩]) Q) : RG P Y nb ops dr (⟨dst, .assign x, ty, pos, af, none⟩ :: os) s acc Q := RO (Body.assign h) k
theorem rn {op : Op} {val : DV} {m : List (Nat × MO)} {rd : List Nat} (h : bodyX Y nb s ⟨dst, op, ty, pos, af, none⟩ = some (val, m, rd)) (k : RG P Y nb ops dr os (stp s ⟨dst, val, m, rd⟩) (acc ++ [⟨dst, val, m, rd⟩]) Q) : RG P Y nb ops dr (⟨dst, op, ty, pos, af, none⟩ :: os) s acc Q := RO (Body.run h) k
end
structure Tgt where
  name : ByteArray
  bright : Int
  place : Int
  length : Int
  from_ : Int
  to : Int
  limit : Int
instance : Inhabited Tgt := ⟨⟨⟨#[]⟩, 0, 0, 0, 0, 0, 0⟩⟩
abbrev eI (n : Int) : List PV := [.lit (.int .i64 n)]
abbrev eS (n : ByteArray) : List PV := [.lit (.string n)]
abbrev eT (t : Tgt) : List PV := [.lit (.string t.name), .lit (.int .i64 t.bright), .lit (.int .i64 t.place), .lit (.int .i64 t.length), .lit (.int .i64 t.from_), .lit (.int .i64 t.to), .lit (.int .i64 t.limit)]
def outF (n low high : Int) : Bool := decide (n < low) || decide (high < n)
def whenF (b : Bool) (e : Int) : Int := bif b then e else 0
def withinF (n low high : Int) : Int := whenF (outF n low high) 3
def firstF : List Int → Int
  | [] => 0
  | e :: l => if e = 0 then firstF l else e
def apartF (a b : Int) : Int := Max.max (a - b) (b - a)
theorem bif_or (a b : Bool) : (bif a then true else b) = (a || b) := by cases a <;> rfl
theorem bif_and (a b : Bool) : (bif a then b else false) = (a && b) := by cases a <;> rfl
theorem drop_at {α : Type} (l : List α) (k : Nat) (z : α) (h : k < l.length) : l.drop k = l.getD k z :: l.drop (k + 1) := by
  rw [List.drop_eq_getElem_cons h, List.getD_eq_getElem?_getD, List.getElem?_eq_getElem h]; rfl
theorem li {k : IntKind} {a b : Int} (h : a = b) : (DV.pv (.lit (.int k a))) = .pv (.lit (.int k b)) := by rw [h]
theorem lb {a b : Bool} (h : a = b) : (DV.pv (.lit (.bool a))) = .pv (.lit (.bool b)) := by rw [h]
theorem ls {a b : ByteArray} (h : a = b) : (DV.pv (.lit (.string a))) = .pv (.lit (.string b)) := by rw [h]
theorem lsl {α : Type} {enc : α → List PV} {a b : List α} (h : a = b) : (DV.pv (.slice (List.map enc a))) = .pv (.slice (List.map enc b)) := by rw [h]
theorem lag {a b : List PV} (h : a = b) : (DV.pv (.agg a)) = .pv (.agg b) := by rw [h]
theorem lcons {a b : PV} {l m : List PV} (h : a = b) (k : l = m) : a :: l = b :: m := by rw [h, k]
theorem pli {k : IntKind} {a b : Int} (h : a = b) : (PV.lit (.int k a)) = .lit (.int k b) := by rw [h]
theorem plb {a b : Bool} (h : a = b) : (PV.lit (.bool a)) = .lit (.bool b) := by rw [h]
theorem pls {a b : ByteArray} (h : a = b) : (PV.lit (.string a)) = .lit (.string b) := by rw [h]
theorem plsl {α : Type} {enc : α → List PV} {a b : List α} (h : a = b) : (PV.slice (List.map enc a)) = .slice (List.map enc b) := by rw [h]
theorem tup2 {a b c d : DV} (h : a = b) (k : c = d) : DV.tup [a, c] = .tup [b, d] := by rw [h, k]
theorem tup3 {a b c d e f : DV} (h : a = b) (k : c = d) (m : e = f) : DV.tup [a, c, e] = .tup [b, d, f] := by rw [h, k, m]
end Go.Lens.Tb
end
section
namespace Go.Lens
open Go.Proofs
set_option linter.unusedSectionVars false
def gh0 : Gh := ⟨0, ⟨fun _ _ => none, fun _ => none⟩, fun _ => default, fun _ => none⟩
theorem rd0 (w : World) (b o : Nat) : (gh0.rd w).cell b o = w.cell? ⟨b, o, none⟩ := by simp [Gh.rd, gh0]
theorem inv0 [Lz] (w : World) (hl : ∀ b o, Lz.L b = some o → w.heap[b]? = some o) : InvM gh0 (lookM []) w := by
  refine ⟨fun h o e => (by cases e), fun b h e => (by cases e), fun b h e => (by cases e), fun k o h e => (by cases e), fun b o v hb => ?_, fun r es hb => ?_, Nat.zero_le _, fun b o e => ⟨rfl, hl b o e⟩⟩
  · exact absurd hb (Nat.not_lt_zero _)
  · exact absurd hb (Nat.not_lt_zero _)
section
variable {H : Type} {enc : TypeId × Value → H} {P : Program} {w : World} {base : Nat} {spare : Nat → Bool} {held : Bool} {fuel : Nat} {t e : TypeId}
theorem oneCell_lit {v : Value} (h : isLit v = true) : v.oneCell' = true := by
  unfold isLit at h
  split at h <;> first | rfl | cases h
theorem relElems_of {α : Type} {encE : α → List PV} {sz b : Nat} {R : Rd} (hlen : ∀ x, (encE x).length = sz) : ∀ (n off : Nat), (∀ i, i < n → ∃ x, RelCells R (encE x) b (off + i * sz)) → ∃ l : List α, l.length = n ∧ RelElems R (l.map encE) b off sz
  | 0, off, _ => ⟨[], rfl, by simp only [List.map_nil, RelElems]⟩
  | n + 1, off, h => by
    obtain ⟨x, hx⟩ := h 0 (by omega)
    obtain ⟨l, hl, hr⟩ := relElems_of hlen n (off + sz) fun i hi => by
      obtain ⟨y, hy⟩ := h (i + 1) (by omega)
      exact ⟨y, by rw [show off + sz + i * sz = off + (i + 1) * sz from by rw [Nat.add_mul]; omega]; exact hy⟩
    refine ⟨x :: l, by simp [hl], ?_⟩
    simp only [List.map_cons, RelElems]
    exact ⟨hlen x, by simpa using hx, hr⟩
theorem read_slice {α : Type} {encE : α → List PV} {vals : α → List Value} {sz : Nat} {cs : List Value} {x : DataW H × List MemPlace} (ht : P.underlying t = some (.slice e)) (hc : P.cellsOf e = sz) (hsz : 0 < sz)
    (hE : ∀ n c y, DataW.trod enc P w base spare held n e c = some y → ∃ a : α, c = vals a) (hv : ∀ a, (vals a).length = sz) (hlen : ∀ a, (encE a).length = sz)
    (hR : ∀ a b off, (∀ i, i < sz → w.cell? ⟨b, off + i, none⟩ = (vals a)[i]?) → RelCells (gh0.rd w) (encE a) b off)
    (h : DataW.trod enc P w base spare held fuel t cs = some x) :
    ∃ (l : List α) (v : Value), cs = [v] ∧ RelPV (gh0.rd w) (.slice (l.map encE)) v ∧ ((l = [] ∧ x.1 = .nil) ∨ ∃ es rest, x.1 = .slice es rest ∧ es.length = l.length) := by
  rcases DataW.trod_slice ht h with ⟨rfl, rfl⟩ | ⟨a, len, cap, elems, rest, n, _, rfl, rfl, hb, hl, hm, hlen', hel, _, _⟩
  · refine ⟨[], _, rfl, ?_, .inl ⟨rfl, rfl⟩⟩
    simp only [List.map_nil, RelPV]
    exact ⟨none, 0, rfl, Nat.le_refl _, .inl trivial⟩
  · have each : ∀ i, i < len → ∃ a' : α, ∀ j, j < sz → w.cell? ((a.add (i * sz)).add j) = (vals a')[j]? := by
      intro i hi
      have h1 := hel i hi
      have h2 : ∃ y, elems[i]? = some y := ⟨elems[i]'(by omega), List.getElem?_eq_getElem (by omega)⟩
      obtain ⟨y, hy⟩ := h2
      rw [hy, hc, Option.bind_eq_some_iff] at h1
      obtain ⟨c, hc1, hc2⟩ := h1
      obtain ⟨a', rfl⟩ := hE _ _ _ hc2
      obtain ⟨_, _, k3⟩ := World.cells?_some hc1
      exact ⟨a', fun j hj => k3 j hj⟩
    by_cases h0 : len = 0
    · subst h0
      refine ⟨[], _, rfl, ?_, .inr ⟨_, _, rfl, by simp [hlen']⟩⟩
      simp only [List.map_nil, RelPV]
      exact ⟨some a, cap, rfl, hl, .inl trivial⟩
    · have hspot : a.spot = none := by
        obtain ⟨a', ha⟩ := each 0 (by omega)
        have h1 := ha 0 hsz
        have h2 : (vals a')[0]? ≠ none := by
          rw [List.getElem?_eq_getElem (by rw [hv]; exact hsz)]; simp
        simp only [Nat.zero_mul, Addr.add, if_true] at h1
        rw [← h1] at h2
        unfold World.cell? at h2
        split at h2
        · cases hs : a.spot with
          | none => rfl
          | some k => rw [hs] at h2; simp at h2
        · exact absurd rfl h2
      obtain ⟨b, off, spot⟩ := a
      simp only at hspot
      subst hspot
      have addr : ∀ i j, ((⟨b, off, none⟩ : Addr).add (i * sz)).add j = ⟨b, off + i * sz + j, none⟩ := by
        intro i j
        unfold Addr.add
        by_cases h1 : i * sz = 0 <;> by_cases h2 : j = 0 <;> simp [h1, h2]
      obtain ⟨l, hl1, hl2⟩ := relElems_of (R := gh0.rd w) (b := b) hlen len off fun i hi => by
        obtain ⟨a', ha⟩ := each i hi
        exact ⟨a', hR a' b _ fun j hj => by rw [← addr]; exact ha j hj⟩
      refine ⟨l, _, rfl, ?_, .inr ⟨_, _, rfl, by simp [hlen', hl1]⟩⟩
      simp only [RelPV, List.length_map]
      exact ⟨some ⟨b, off, none⟩, cap, by rw [hl1], by rw [hl1]; exact hl, .inr ⟨b, off, sz, rfl, hl2⟩⟩
theorem relCells_lits {vs : List Value} (hl : ∀ v ∈ vs, isLit v = true) : ∀ {b off : Nat}, (∀ i, i < vs.length → w.cell? ⟨b, off + i, none⟩ = vs[i]?) → RelCells (gh0.rd w) (vs.map .lit) b off := by
  induction vs with
  | nil => intro b off _; simp only [List.map_nil, RelCells]
  | cons v vs ih =>
    intro b off h
    simp only [List.map_cons, RelCells]
    refine ⟨⟨v, ?_, oneCell_lit (hl v (by simp)), ?_⟩, ih (fun u hu => hl u (by simp [hu])) fun i hi => ?_⟩
    · rw [rd0]; simpa using h 0 (by simp)
    · simp only [RelPV]; exact ⟨trivial, hl v (by simp)⟩
    · have := h (i + 1) (by simpa using hi)
      rw [show off + 1 + i = off + (i + 1) from by omega]; simpa using this
end
end Go.Lens
end
section
namespace Go.Proofs
open Go.Shelf
def Tryz.laysM171_ren : Go.Shelf.Ren := ⟨fun | 171 => 185 | 243 => 255 | 246 => 296 | 283 => 323 | 284 => 324 | 285 => 325 | 286 => 326 | 129 => 322 | 317 => 345 | 318 => 346 | 319 => 347 | 320 => 348 | 337 => 355 | 338 => 356 | n => n, fun | 3 => 3 | 9 => 9 | 2 => 2 | 4 => 4 | 171 => 407 | 0 => 0 | 53 => 406 | 37 => 150 | 5 => 5 | 173 => 409 | 212 => 434 | 51 => 394 | 20 => 20 | 213 => 435 | 46 => 378 | 232 => 448 | 233 => 449 | n => n, fun | 17 => 3 | 18 => 6 | 19 => 7 | n => n⟩
theorem Tryz.laysM171 : Go.Proofs.LaysM.n171 Tryz.prog Tryz.laysM171_ren := {
  mixed := by kernel_rfl
  f129 := Tryz.func322.trans (congrArg some (by kernel_rfl))
  f171 := Tryz.func185.trans (congrArg some (by kernel_rfl))
  f243 := Tryz.func255.trans (congrArg some (by kernel_rfl))
  f246 := Tryz.func296.trans (congrArg some (by kernel_rfl))
  f283 := Tryz.func323.trans (congrArg some (by kernel_rfl))
  f284 := Tryz.func324.trans (congrArg some (by kernel_rfl))
  f285 := Tryz.func325.trans (congrArg some (by kernel_rfl))
  f286 := Tryz.func326.trans (congrArg some (by kernel_rfl))
  f317 := Tryz.func345.trans (congrArg some (by kernel_rfl))
  f318 := Tryz.func346.trans (congrArg some (by kernel_rfl))
  f319 := Tryz.func347.trans (congrArg some (by kernel_rfl))
  f320 := Tryz.func348.trans (congrArg some (by kernel_rfl))
  f337 := Tryz.func355.trans (congrArg some (by kernel_rfl))
  f338 := Tryz.func356.trans (congrArg some (by kernel_rfl))
  t0 := Tryz.underlying0
  a0 := Tryz.isAgg0
  z0 := Tryz.sizeOf0
  v0 := Tryz.zeroValue0
  t2 := Tryz.underlying2
  a2 := Tryz.isAgg2
  z2 := Tryz.sizeOf2
  v2 := Tryz.zeroValue2
  t3 := Tryz.underlying3
  a3 := Tryz.isAgg3
  z3 := Tryz.sizeOf3
  v3 := Tryz.zeroValue3
  t4 := Tryz.underlying4
  a4 := Tryz.isAgg4
  z4 := Tryz.sizeOf4
  v4 := Tryz.zeroValue4
  t5 := Tryz.underlying5
  a5 := Tryz.isAgg5
  z5 := Tryz.sizeOf5
  v5 := Tryz.zeroValue5
  t9 := Tryz.underlying9
  a9 := Tryz.isAgg9
  z9 := Tryz.sizeOf9
  v9 := Tryz.zeroValue9
  t20 := Tryz.underlying20
  a20 := Tryz.isAgg20
  z20 := Tryz.sizeOf20
  v20 := Tryz.zeroValue20
  t37 := Tryz.underlying150
  a37 := Tryz.isAgg150
  z37 := Tryz.sizeOf150
  v37 := Tryz.zeroValue150
  t46 := Tryz.underlying378
  a46 := Tryz.isAgg378
  z46 := Tryz.sizeOf378
  v46 := Tryz.zeroValue378
  t51 := Tryz.underlying394
  a51 := Tryz.isAgg394
  z51 := Tryz.sizeOf394
  v51 := Tryz.zeroValue394
  t53 := Tryz.underlying406
  a53 := Tryz.isAgg406
  z53 := Tryz.sizeOf406
  v53 := Tryz.zeroValue406
  t171 := Tryz.underlying407
  a171 := Tryz.isAgg407
  z171 := Tryz.sizeOf407
  v171 := Tryz.zeroValue407
  t173 := Tryz.underlying409
  a173 := Tryz.isAgg409
  z173 := Tryz.sizeOf409
  v173 := Tryz.zeroValue409
  t212 := Tryz.underlying434
  a212 := Tryz.isAgg434
  z212 := Tryz.sizeOf434
  v212 := Tryz.zeroValue434
  t213 := Tryz.underlying435
  a213 := Tryz.isAgg435
  z213 := Tryz.sizeOf435
  t232 := Tryz.underlying448
  a232 := Tryz.isAgg448
  z232 := Tryz.sizeOf448
  v232 := Tryz.zeroValue448
  t233 := Tryz.underlying449
  a233 := Tryz.isAgg449
  z233 := Tryz.sizeOf449
  v233 := Tryz.zeroValue449
  g17 := by kernel_rfl
  g18 := by kernel_rfl
  g19 := by kernel_rfl
  i0 := by kernel_rfl
  i2 := by kernel_rfl
  i3 := by kernel_rfl
  i4 := by kernel_rfl
  i5 := by kernel_rfl
  i9 := by kernel_rfl
  i20 := by kernel_rfl
  i37 := by kernel_rfl
  i46 := by kernel_rfl
  i51 := by kernel_rfl
  i53 := by kernel_rfl
  i171 := by kernel_rfl
  i173 := by kernel_rfl
  i212 := by kernel_rfl
  i232 := by kernel_rfl
  i233 := by kernel_rfl
  m17 := by kernel_rfl
  m18 := by kernel_rfl
  m19 := by kernel_rfl }
open Go.RowKit Go.Sort Go.Lib in
theorem Tryz.strconv_Itoa (n : Int) (h0 : -9223372036854775808 ≤ n) (h1 : n ≤ 9223372036854775807) (w : World) (htab : Lib.TabIs Tryz.prog w "internal/strconv.uint64pow10" .u64 Lib.pow10Tab) :
    Calls Tryz.prog 185 #[.int .i64 n] w fun e w' => e = .returned (.string ⟨(Lib.itoa n).toArray⟩) ∧ ∃ k os, w' = grow (w.drewN k) os := Any.strconv_Itoa Tryz.laysM171 n h0 h1 w htab
end Go.Proofs
end
section
namespace Go.Lens.Tb
open Go.Proofs
variable [Lz]
def ext : Ext := ⟨281, 308, 287, 310, 185, 150, 5⟩
def PowLaid : Prop := ∃ g T fr, Tryz.prog.globalNamed "internal/strconv.uint64pow10" = some g ∧ Lz.L g = some (.cells (Lib.pow10Tab.map fun z => Value.int .u64 z).toArray T fr)
theorem ext_ok (h : PowLaid) : ExtOk Tryz.prog ext := by
  refine ⟨fun vs w => ?_, fun vs w => ?_, fun vs w => ?_, ⟨#[3], fun vs w => ?_⟩, Tryz.underlying150, Tryz.call185, fun n h0 h1 w ht => ?_, h⟩
  · exact run_callFunc_extern Tryz.func281 (by kernel_rfl) (by kernel_rfl) (by kernel_rfl) (by kernel_rfl) vs w
  · exact run_callFunc_extern Tryz.func310 (by kernel_rfl) (by kernel_rfl) (by kernel_rfl) (by kernel_rfl) vs w
  · exact run_callFunc_extern Tryz.func287 (by kernel_rfl) (by kernel_rfl) (by kernel_rfl) (by kernel_rfl) vs w
  · exact run_callFunc_extern (e := Extern.BytealgMakeNoZero.makeNoZero #[3] #[150]) Tryz.func308 (by kernel_rfl) (by kernel_rfl) (by kernel_rfl) (by kernel_rfl) vs w
  · refine (Tryz.strconv_Itoa n h0 h1 w ht).mono ?_
    rintro e w' ⟨he, k, os, rfl⟩
    exact ⟨he, rfl, rfl, rfl, os, rfl⟩
noncomputable def borT : Tr Unit := (.node (.node (.node (.node (.node (.node .nil 22 () .nil) 23 () .nil) 24 () (.node (.node .nil 29 () .nil) 30 () .nil)) 36 () (.node (.node (.node .nil 41 () .nil) 42 () .nil) 45 () (.node (.node .nil 48 () .nil) 50 () .nil))) 51 () (.node (.node (.node (.node .nil 59 () .nil) 78 () .nil) 81 () (.node (.node .nil 97 () .nil) 100 () .nil)) 102 () (.node (.node (.node .nil 103 () .nil) 106 () .nil) 107 () (.node .nil 108 () .nil)))) 112 () (.node (.node (.node (.node (.node .nil 113 () .nil) 115 () .nil) 137 () (.node (.node .nil 151 () .nil) 156 () .nil)) 162 () (.node (.node (.node .nil 163 () .nil) 165 () .nil) 169 () (.node (.node .nil 179 () .nil) 180 () .nil))) 188 () (.node (.node (.node (.node .nil 189 () .nil) 190 () .nil) 217 () (.node (.node .nil 251 () .nil) 257 () .nil)) 263 () (.node (.node (.node .nil 264 () .nil) 276 () .nil) 304 () (.node .nil 307 () .nil)))))
noncomputable def bor : FuncId → Bool := fun f => match borT.get f with | some _ => true | none => false
noncomputable def orc (k : Nat) : Orc := xRun bor (orO (extO ext) (mergeO 121)) ft tab (drawnX tab) k
theorem orc_ok (h : PowLaid) (hm : OrcOk Tryz.prog (mergeO 121)) (k : Nat) : OrcOk Tryz.prog (orc k) :=
  haveI := tab_ok
  xRun_ok (orO_ok (extO_ok (ext_ok h)) hm) ft_ok (fun _ hO n nb => drawnX_ok mixed hO n nb) k
end Go.Lens.Tb
end
section
namespace Go.Lens.Tb
set_option maxRecDepth 1000000
open Go.Proofs
abbrev qI (x : Int) : PV := .lit (.int .i64 x)
abbrev qB (x : Bool) : PV := .lit (.bool x)
abbrev qS (x : Array UInt8) : PV := .lit (.string ⟨x⟩)
noncomputable def c19 : Code := (fn19.body).getD .skip
def hdC : Code → Code
  | .seq x _ => x
  | c => c
def tlC : Code → Code
  | .seq _ y => y
  | c => c
noncomputable def run (c : Code) (s : St) : Option (Exit × St) := xCode (borO bor (orc 60)) tab fn19 1 (drawnX tab (borO bor (orc 60)) fn19.n 1) c s
def st0 : St := ⟨[],[]⟩
def st1 : St := ⟨[(0, (.pv (qB false)))],[]⟩
def st2 : St := ⟨[(2, (.pv (qI 0))),(1, (.pv (qI 120))),(0, (.pv (qB false)))],[(7, (.arr 0 7 46 [[qS #[97],qI 7,qI 10,qI 40,qI 0,qI 180,qI 10],[qS #[98],qI 5,qI 40,qI 20,qI 0,qI 180,qI 30]])),(3, (.arr 0 1 3 [[qI 5],[qI 20],[qI 5]]))]⟩
def st3 : St := ⟨[(4, (.pv (qI 0))),(3, (.aref 139 1)),(2, (.pv (qI 0))),(1, (.pv (qI 120))),(0, (.pv (qB false)))],[(139, (.arr 1 1 3 [[qI 30],[qI 120]])),(50, (.arr 0 1 3 [[qI 1],[qI 0]])),(13, (.arr 0 7 46 [[qS #[97],qI 7,qI 10,qI 40,qI 0,qI 180,qI 10],[qS #[98],qI 5,qI 40,qI 20,qI 0,qI 180,qI 30]])),(9, (.arr 0 1 3 [[qI 5],[qI 20],[qI 5]])),(7, (.arr 0 7 46 [[qS #[97],qI 7,qI 10,qI 40,qI 0,qI 180,qI 10],[qS #[98],qI 5,qI 40,qI 20,qI 0,qI 180,qI 30]])),(3, (.arr 0 1 3 [[qI 5],[qI 20],[qI 5]]))]⟩
def st4 : St := ⟨[(6, (.pv (qI 23))),(4, (.pv (qI 0))),(3, (.aref 139 1)),(2, (.pv (qI 0))),(1, (.pv (qI 120))),(0, (.pv (qB false)))],[(57, (.arr 0 1 3 [[qI 0],[qI 1]])),(145, (.arr 0 7 46 [[qS #[97],qI 7,qI 10,qI 40,qI 0,qI 180,qI 10],[qS #[98],qI 5,qI 40,qI 20,qI 0,qI 180,qI 30]])),(141, (.arr 0 1 3 [[qI 5],[qI 20],[qI 5]])),(139, (.arr 1 1 3 [[qI 30],[qI 120]])),(50, (.arr 0 1 3 [[qI 1],[qI 0]])),(13, (.arr 0 7 46 [[qS #[97],qI 7,qI 10,qI 40,qI 0,qI 180,qI 10],[qS #[98],qI 5,qI 40,qI 20,qI 0,qI 180,qI 30]])),(9, (.arr 0 1 3 [[qI 5],[qI 20],[qI 5]])),(7, (.arr 0 7 46 [[qS #[97],qI 7,qI 10,qI 40,qI 0,qI 180,qI 10],[qS #[98],qI 5,qI 40,qI 20,qI 0,qI 180,qI 30]])),(3, (.arr 0 1 3 [[qI 5],[qI 20],[qI 5]]))]⟩
def st5 : St := ⟨[(8, (.pv (qI 0))),(7, (.bref 8 0)),(6, (.pv (qI 23))),(4, (.pv (qI 0))),(3, (.aref 139 1)),(2, (.pv (qI 0))),(1, (.pv (qI 120))),(0, (.pv (qB false)))],[(8, (.box 53 [(.aref 623 1),(.pv (qI 12)),(.pv (qI 160))])),(8, (.box 53 [.nils, (.pv (qI 0)),(.pv (qI 0))])),(147, (.arr 0 1 3 [[qI 5],[qI 20],[qI 5]])),(151, (.arr 0 7 46 [[qS #[97],qI 7,qI 10,qI 40,qI 0,qI 180,qI 10],[qS #[98],qI 5,qI 40,qI 20,qI 0,qI 180,qI 30]])),(623, (.arr 1 1 3 [[qI 1],[qI 0]])),(151, (.arr 0 7 46 [[qS #[97],qI 7,qI 10,qI 40,qI 0,qI 180,qI 10],[qS #[98],qI 5,qI 40,qI 20,qI 0,qI 180,qI 30]])),(147, (.arr 0 1 3 [[qI 5],[qI 20],[qI 5]])),(57, (.arr 0 1 3 [[qI 0],[qI 1]])),(145, (.arr 0 7 46 [[qS #[97],qI 7,qI 10,qI 40,qI 0,qI 180,qI 10],[qS #[98],qI 5,qI 40,qI 20,qI 0,qI 180,qI 30]])),(141, (.arr 0 1 3 [[qI 5],[qI 20],[qI 5]])),(139, (.arr 1 1 3 [[qI 30],[qI 120]])),(50, (.arr 0 1 3 [[qI 1],[qI 0]])),(13, (.arr 0 7 46 [[qS #[97],qI 7,qI 10,qI 40,qI 0,qI 180,qI 10],[qS #[98],qI 5,qI 40,qI 20,qI 0,qI 180,qI 30]])),(9, (.arr 0 1 3 [[qI 5],[qI 20],[qI 5]])),(7, (.arr 0 7 46 [[qS #[97],qI 7,qI 10,qI 40,qI 0,qI 180,qI 10],[qS #[98],qI 5,qI 40,qI 20,qI 0,qI 180,qI 30]])),(3, (.arr 0 1 3 [[qI 5],[qI 20],[qI 5]]))]⟩
def st6 : St := ⟨[(102, (.pv (qB false))),(8, (.pv (qI 0))),(7, (.bref 8 0)),(6, (.pv (qI 23))),(4, (.pv (qI 0))),(3, (.aref 139 1)),(2, (.pv (qI 0))),(1, (.pv (qI 120))),(0, (.pv (qB false)))],[(90, (.arr 0 1 3 [[qI 1],[qI 0]])),(83, (.arr 0 1 3 [[qI 30],[qI 120]])),(8, (.box 53 [(.aref 623 1),(.pv (qI 12)),(.pv (qI 160))])),(8, (.box 53 [.nils, (.pv (qI 0)),(.pv (qI 0))])),(147, (.arr 0 1 3 [[qI 5],[qI 20],[qI 5]])),(151, (.arr 0 7 46 [[qS #[97],qI 7,qI 10,qI 40,qI 0,qI 180,qI 10],[qS #[98],qI 5,qI 40,qI 20,qI 0,qI 180,qI 30]])),(623, (.arr 1 1 3 [[qI 1],[qI 0]])),(151, (.arr 0 7 46 [[qS #[97],qI 7,qI 10,qI 40,qI 0,qI 180,qI 10],[qS #[98],qI 5,qI 40,qI 20,qI 0,qI 180,qI 30]])),(147, (.arr 0 1 3 [[qI 5],[qI 20],[qI 5]])),(57, (.arr 0 1 3 [[qI 0],[qI 1]])),(145, (.arr 0 7 46 [[qS #[97],qI 7,qI 10,qI 40,qI 0,qI 180,qI 10],[qS #[98],qI 5,qI 40,qI 20,qI 0,qI 180,qI 30]])),(141, (.arr 0 1 3 [[qI 5],[qI 20],[qI 5]])),(139, (.arr 1 1 3 [[qI 30],[qI 120]])),(50, (.arr 0 1 3 [[qI 1],[qI 0]])),(13, (.arr 0 7 46 [[qS #[97],qI 7,qI 10,qI 40,qI 0,qI 180,qI 10],[qS #[98],qI 5,qI 40,qI 20,qI 0,qI 180,qI 30]])),(9, (.arr 0 1 3 [[qI 5],[qI 20],[qI 5]])),(7, (.arr 0 7 46 [[qS #[97],qI 7,qI 10,qI 40,qI 0,qI 180,qI 10],[qS #[98],qI 5,qI 40,qI 20,qI 0,qI 180,qI 30]])),(3, (.arr 0 1 3 [[qI 5],[qI 20],[qI 5]]))]⟩
def st7 : St := ⟨[(11, (.aref 112 0)),(10, (.aref 109 0)),(9, (.aref 106 0)),(102, (.pv (qB false))),(8, (.pv (qI 0))),(7, (.bref 8 0)),(6, (.pv (qI 23))),(4, (.pv (qI 0))),(3, (.aref 139 1)),(2, (.pv (qI 0))),(1, (.pv (qI 120))),(0, (.pv (qB false)))],[(112, (.arr 0 2 174 [[qS #[98],qS #[50]],[qS #[99],qS #[52]]])),(109, (.arr 0 2 174 [[qS #[97],qS #[49]],[qS #[98],qS #[51]]])),(106, (.arr 0 2 174 [[qS #[97],qS #[49]],[qS #[98],qS #[50]]])),(90, (.arr 0 1 3 [[qI 1],[qI 0]])),(83, (.arr 0 1 3 [[qI 30],[qI 120]])),(8, (.box 53 [(.aref 623 1),(.pv (qI 12)),(.pv (qI 160))])),(8, (.box 53 [.nils, (.pv (qI 0)),(.pv (qI 0))])),(147, (.arr 0 1 3 [[qI 5],[qI 20],[qI 5]])),(151, (.arr 0 7 46 [[qS #[97],qI 7,qI 10,qI 40,qI 0,qI 180,qI 10],[qS #[98],qI 5,qI 40,qI 20,qI 0,qI 180,qI 30]])),(623, (.arr 1 1 3 [[qI 1],[qI 0]])),(151, (.arr 0 7 46 [[qS #[97],qI 7,qI 10,qI 40,qI 0,qI 180,qI 10],[qS #[98],qI 5,qI 40,qI 20,qI 0,qI 180,qI 30]])),(147, (.arr 0 1 3 [[qI 5],[qI 20],[qI 5]])),(57, (.arr 0 1 3 [[qI 0],[qI 1]])),(145, (.arr 0 7 46 [[qS #[97],qI 7,qI 10,qI 40,qI 0,qI 180,qI 10],[qS #[98],qI 5,qI 40,qI 20,qI 0,qI 180,qI 30]])),(141, (.arr 0 1 3 [[qI 5],[qI 20],[qI 5]])),(139, (.arr 1 1 3 [[qI 30],[qI 120]])),(50, (.arr 0 1 3 [[qI 1],[qI 0]])),(13, (.arr 0 7 46 [[qS #[97],qI 7,qI 10,qI 40,qI 0,qI 180,qI 10],[qS #[98],qI 5,qI 40,qI 20,qI 0,qI 180,qI 30]])),(9, (.arr 0 1 3 [[qI 5],[qI 20],[qI 5]])),(7, (.arr 0 7 46 [[qS #[97],qI 7,qI 10,qI 40,qI 0,qI 180,qI 10],[qS #[98],qI 5,qI 40,qI 20,qI 0,qI 180,qI 30]])),(3, (.arr 0 1 3 [[qI 5],[qI 20],[qI 5]]))]⟩
def st8 : St := ⟨[(13, (.pv (qI 0))),(12, (.pv (qS #[97, 61, 49, 32, 98, 61, 50]))),(11, (.aref 112 0)),(10, (.aref 109 0)),(9, (.aref 106 0)),(102, (.pv (qB false))),(8, (.pv (qI 0))),(7, (.bref 8 0)),(6, (.pv (qI 23))),(4, (.pv (qI 0))),(3, (.aref 139 1)),(2, (.pv (qI 0))),(1, (.pv (qI 120))),(0, (.pv (qB false)))],[(112, (.arr 0 2 174 [[qS #[98],qS #[50]],[qS #[99],qS #[52]]])),(109, (.arr 0 2 174 [[qS #[97],qS #[49]],[qS #[98],qS #[51]]])),(106, (.arr 0 2 174 [[qS #[97],qS #[49]],[qS #[98],qS #[50]]])),(90, (.arr 0 1 3 [[qI 1],[qI 0]])),(83, (.arr 0 1 3 [[qI 30],[qI 120]])),(8, (.box 53 [(.aref 623 1),(.pv (qI 12)),(.pv (qI 160))])),(8, (.box 53 [.nils, (.pv (qI 0)),(.pv (qI 0))])),(147, (.arr 0 1 3 [[qI 5],[qI 20],[qI 5]])),(151, (.arr 0 7 46 [[qS #[97],qI 7,qI 10,qI 40,qI 0,qI 180,qI 10],[qS #[98],qI 5,qI 40,qI 20,qI 0,qI 180,qI 30]])),(623, (.arr 1 1 3 [[qI 1],[qI 0]])),(151, (.arr 0 7 46 [[qS #[97],qI 7,qI 10,qI 40,qI 0,qI 180,qI 10],[qS #[98],qI 5,qI 40,qI 20,qI 0,qI 180,qI 30]])),(147, (.arr 0 1 3 [[qI 5],[qI 20],[qI 5]])),(57, (.arr 0 1 3 [[qI 0],[qI 1]])),(145, (.arr 0 7 46 [[qS #[97],qI 7,qI 10,qI 40,qI 0,qI 180,qI 10],[qS #[98],qI 5,qI 40,qI 20,qI 0,qI 180,qI 30]])),(141, (.arr 0 1 3 [[qI 5],[qI 20],[qI 5]])),(139, (.arr 1 1 3 [[qI 30],[qI 120]])),(50, (.arr 0 1 3 [[qI 1],[qI 0]])),(13, (.arr 0 7 46 [[qS #[97],qI 7,qI 10,qI 40,qI 0,qI 180,qI 10],[qS #[98],qI 5,qI 40,qI 20,qI 0,qI 180,qI 30]])),(9, (.arr 0 1 3 [[qI 5],[qI 20],[qI 5]])),(7, (.arr 0 7 46 [[qS #[97],qI 7,qI 10,qI 40,qI 0,qI 180,qI 10],[qS #[98],qI 5,qI 40,qI 20,qI 0,qI 180,qI 30]])),(3, (.arr 0 1 3 [[qI 5],[qI 20],[qI 5]]))]⟩
def st9 : St := ⟨[(16, (.pv (qI 0))),(14, (.pv (.slice [[qS #[98],qS #[51]],[qS #[99],qS #[52]]]))),(13, (.pv (qI 0))),(12, (.pv (qS #[97, 61, 49, 32, 98, 61, 50]))),(11, (.aref 112 0)),(10, (.aref 109 0)),(9, (.aref 106 0)),(102, (.pv (qB false))),(8, (.pv (qI 0))),(7, (.bref 8 0)),(6, (.pv (qI 23))),(4, (.pv (qI 0))),(3, (.aref 139 1)),(2, (.pv (qI 0))),(1, (.pv (qI 120))),(0, (.pv (qB false)))],[(106, (.arr 0 2 174 [[qS #[97],qS #[49]],[qS #[98],qS #[50]]])),(109, (.arr 0 2 174 [[qS #[97],qS #[49]],[qS #[98],qS #[51]]])),(112, (.arr 0 2 174 [[qS #[98],qS #[50]],[qS #[99],qS #[52]]])),(112, (.arr 0 2 174 [[qS #[98],qS #[50]],[qS #[99],qS #[52]]])),(109, (.arr 0 2 174 [[qS #[97],qS #[49]],[qS #[98],qS #[51]]])),(106, (.arr 0 2 174 [[qS #[97],qS #[49]],[qS #[98],qS #[50]]])),(90, (.arr 0 1 3 [[qI 1],[qI 0]])),(83, (.arr 0 1 3 [[qI 30],[qI 120]])),(8, (.box 53 [(.aref 623 1),(.pv (qI 12)),(.pv (qI 160))])),(8, (.box 53 [.nils, (.pv (qI 0)),(.pv (qI 0))])),(147, (.arr 0 1 3 [[qI 5],[qI 20],[qI 5]])),(151, (.arr 0 7 46 [[qS #[97],qI 7,qI 10,qI 40,qI 0,qI 180,qI 10],[qS #[98],qI 5,qI 40,qI 20,qI 0,qI 180,qI 30]])),(623, (.arr 1 1 3 [[qI 1],[qI 0]])),(151, (.arr 0 7 46 [[qS #[97],qI 7,qI 10,qI 40,qI 0,qI 180,qI 10],[qS #[98],qI 5,qI 40,qI 20,qI 0,qI 180,qI 30]])),(147, (.arr 0 1 3 [[qI 5],[qI 20],[qI 5]])),(57, (.arr 0 1 3 [[qI 0],[qI 1]])),(145, (.arr 0 7 46 [[qS #[97],qI 7,qI 10,qI 40,qI 0,qI 180,qI 10],[qS #[98],qI 5,qI 40,qI 20,qI 0,qI 180,qI 30]])),(141, (.arr 0 1 3 [[qI 5],[qI 20],[qI 5]])),(139, (.arr 1 1 3 [[qI 30],[qI 120]])),(50, (.arr 0 1 3 [[qI 1],[qI 0]])),(13, (.arr 0 7 46 [[qS #[97],qI 7,qI 10,qI 40,qI 0,qI 180,qI 10],[qS #[98],qI 5,qI 40,qI 20,qI 0,qI 180,qI 30]])),(9, (.arr 0 1 3 [[qI 5],[qI 20],[qI 5]])),(7, (.arr 0 7 46 [[qS #[97],qI 7,qI 10,qI 40,qI 0,qI 180,qI 10],[qS #[98],qI 5,qI 40,qI 20,qI 0,qI 180,qI 30]])),(3, (.arr 0 1 3 [[qI 5],[qI 20],[qI 5]]))]⟩
def st10 : St := ⟨[(19, (.pv (qI 29))),(18, (.pv (.slice [[qS #[97]]]))),(16, (.pv (qI 0))),(14, (.pv (.slice [[qS #[98],qS #[51]],[qS #[99],qS #[52]]]))),(13, (.pv (qI 0))),(12, (.pv (qS #[97, 61, 49, 32, 98, 61, 50]))),(11, (.aref 112 0)),(10, (.aref 109 0)),(9, (.aref 106 0)),(102, (.pv (qB false))),(8, (.pv (qI 0))),(7, (.bref 8 0)),(6, (.pv (qI 23))),(4, (.pv (qI 0))),(3, (.aref 139 1)),(2, (.pv (qI 0))),(1, (.pv (qI 120))),(0, (.pv (qB false)))],[(106, (.arr 0 2 174 [[qS #[97],qS #[49]],[qS #[98],qS #[50]]])),(130, (.arr 0 2 174 [[qS #[97],qS #[53]]])),(132, (.arr 0 2 174 [[qS #[97],qS #[54]]])),(132, (.arr 0 2 174 [[qS #[97],qS #[54]]])),(130, (.arr 0 2 174 [[qS #[97],qS #[53]]])),(106, (.arr 0 2 174 [[qS #[97],qS #[49]],[qS #[98],qS #[50]]])),(109, (.arr 0 2 174 [[qS #[97],qS #[49]],[qS #[98],qS #[51]]])),(112, (.arr 0 2 174 [[qS #[98],qS #[50]],[qS #[99],qS #[52]]])),(112, (.arr 0 2 174 [[qS #[98],qS #[50]],[qS #[99],qS #[52]]])),(109, (.arr 0 2 174 [[qS #[97],qS #[49]],[qS #[98],qS #[51]]])),(106, (.arr 0 2 174 [[qS #[97],qS #[49]],[qS #[98],qS #[50]]])),(90, (.arr 0 1 3 [[qI 1],[qI 0]])),(83, (.arr 0 1 3 [[qI 30],[qI 120]])),(8, (.box 53 [(.aref 623 1),(.pv (qI 12)),(.pv (qI 160))])),(8, (.box 53 [.nils, (.pv (qI 0)),(.pv (qI 0))])),(147, (.arr 0 1 3 [[qI 5],[qI 20],[qI 5]])),(151, (.arr 0 7 46 [[qS #[97],qI 7,qI 10,qI 40,qI 0,qI 180,qI 10],[qS #[98],qI 5,qI 40,qI 20,qI 0,qI 180,qI 30]])),(623, (.arr 1 1 3 [[qI 1],[qI 0]])),(151, (.arr 0 7 46 [[qS #[97],qI 7,qI 10,qI 40,qI 0,qI 180,qI 10],[qS #[98],qI 5,qI 40,qI 20,qI 0,qI 180,qI 30]])),(147, (.arr 0 1 3 [[qI 5],[qI 20],[qI 5]])),(57, (.arr 0 1 3 [[qI 0],[qI 1]])),(145, (.arr 0 7 46 [[qS #[97],qI 7,qI 10,qI 40,qI 0,qI 180,qI 10],[qS #[98],qI 5,qI 40,qI 20,qI 0,qI 180,qI 30]])),(141, (.arr 0 1 3 [[qI 5],[qI 20],[qI 5]])),(139, (.arr 1 1 3 [[qI 30],[qI 120]])),(50, (.arr 0 1 3 [[qI 1],[qI 0]])),(13, (.arr 0 7 46 [[qS #[97],qI 7,qI 10,qI 40,qI 0,qI 180,qI 10],[qS #[98],qI 5,qI 40,qI 20,qI 0,qI 180,qI 30]])),(9, (.arr 0 1 3 [[qI 5],[qI 20],[qI 5]])),(7, (.arr 0 7 46 [[qS #[97],qI 7,qI 10,qI 40,qI 0,qI 180,qI 10],[qS #[98],qI 5,qI 40,qI 20,qI 0,qI 180,qI 30]])),(3, (.arr 0 1 3 [[qI 5],[qI 20],[qI 5]]))]⟩
def st11 : St := ⟨[(162, (.pv (qB false))),(19, (.pv (qI 29))),(18, (.pv (.slice [[qS #[97]]]))),(16, (.pv (qI 0))),(14, (.pv (.slice [[qS #[98],qS #[51]],[qS #[99],qS #[52]]]))),(13, (.pv (qI 0))),(12, (.pv (qS #[97, 61, 49, 32, 98, 61, 50]))),(11, (.aref 112 0)),(10, (.aref 109 0)),(9, (.aref 106 0)),(102, (.pv (qB false))),(8, (.pv (qI 0))),(7, (.bref 8 0)),(6, (.pv (qI 23))),(4, (.pv (qI 0))),(3, (.aref 139 1)),(2, (.pv (qI 0))),(1, (.pv (qI 120))),(0, (.pv (qB false)))],[(160, (.arr 0 1 9 [[qS #[97]]])),(154, (.arr 0 2 175 [[qS #[98],qS #[51]],[qS #[99],qS #[52]]])),(639, (.arr 1 2 175 [[qS #[98],qS #[51]],[qS #[99],qS #[52]]])),(106, (.arr 0 2 174 [[qS #[97],qS #[49]],[qS #[98],qS #[50]]])),(130, (.arr 0 2 174 [[qS #[97],qS #[53]]])),(132, (.arr 0 2 174 [[qS #[97],qS #[54]]])),(132, (.arr 0 2 174 [[qS #[97],qS #[54]]])),(130, (.arr 0 2 174 [[qS #[97],qS #[53]]])),(106, (.arr 0 2 174 [[qS #[97],qS #[49]],[qS #[98],qS #[50]]])),(109, (.arr 0 2 174 [[qS #[97],qS #[49]],[qS #[98],qS #[51]]])),(112, (.arr 0 2 174 [[qS #[98],qS #[50]],[qS #[99],qS #[52]]])),(112, (.arr 0 2 174 [[qS #[98],qS #[50]],[qS #[99],qS #[52]]])),(109, (.arr 0 2 174 [[qS #[97],qS #[49]],[qS #[98],qS #[51]]])),(106, (.arr 0 2 174 [[qS #[97],qS #[49]],[qS #[98],qS #[50]]])),(90, (.arr 0 1 3 [[qI 1],[qI 0]])),(83, (.arr 0 1 3 [[qI 30],[qI 120]])),(8, (.box 53 [(.aref 623 1),(.pv (qI 12)),(.pv (qI 160))])),(8, (.box 53 [.nils, (.pv (qI 0)),(.pv (qI 0))])),(147, (.arr 0 1 3 [[qI 5],[qI 20],[qI 5]])),(151, (.arr 0 7 46 [[qS #[97],qI 7,qI 10,qI 40,qI 0,qI 180,qI 10],[qS #[98],qI 5,qI 40,qI 20,qI 0,qI 180,qI 30]])),(623, (.arr 1 1 3 [[qI 1],[qI 0]])),(151, (.arr 0 7 46 [[qS #[97],qI 7,qI 10,qI 40,qI 0,qI 180,qI 10],[qS #[98],qI 5,qI 40,qI 20,qI 0,qI 180,qI 30]])),(147, (.arr 0 1 3 [[qI 5],[qI 20],[qI 5]])),(57, (.arr 0 1 3 [[qI 0],[qI 1]])),(145, (.arr 0 7 46 [[qS #[97],qI 7,qI 10,qI 40,qI 0,qI 180,qI 10],[qS #[98],qI 5,qI 40,qI 20,qI 0,qI 180,qI 30]])),(141, (.arr 0 1 3 [[qI 5],[qI 20],[qI 5]])),(139, (.arr 1 1 3 [[qI 30],[qI 120]])),(50, (.arr 0 1 3 [[qI 1],[qI 0]])),(13, (.arr 0 7 46 [[qS #[97],qI 7,qI 10,qI 40,qI 0,qI 180,qI 10],[qS #[98],qI 5,qI 40,qI 20,qI 0,qI 180,qI 30]])),(9, (.arr 0 1 3 [[qI 5],[qI 20],[qI 5]])),(7, (.arr 0 7 46 [[qS #[97],qI 7,qI 10,qI 40,qI 0,qI 180,qI 10],[qS #[98],qI 5,qI 40,qI 20,qI 0,qI 180,qI 30]])),(3, (.arr 0 1 3 [[qI 5],[qI 20],[qI 5]]))]⟩
def st12 : St := ⟨[(22, (.pv (qI 0))),(20, (.aref 678 5)),(162, (.pv (qB false))),(19, (.pv (qI 29))),(18, (.pv (.slice [[qS #[97]]]))),(16, (.pv (qI 0))),(14, (.pv (.slice [[qS #[98],qS #[51]],[qS #[99],qS #[52]]]))),(13, (.pv (qI 0))),(12, (.pv (qS #[97, 61, 49, 32, 98, 61, 50]))),(11, (.aref 112 0)),(10, (.aref 109 0)),(9, (.aref 106 0)),(102, (.pv (qB false))),(8, (.pv (qI 0))),(7, (.bref 8 0)),(6, (.pv (qI 23))),(4, (.pv (qI 0))),(3, (.aref 139 1)),(2, (.pv (qI 0))),(1, (.pv (qI 120))),(0, (.pv (qB false)))],[(678, (.arr 5 3 116 [[qS #[97, 99, 116],qS #[115, 116, 97, 114, 116],qI 0],[qS #[97, 99, 116],qS #[99, 108, 111, 115, 101],qI 0],[qS #[114, 101, 112, 101, 97, 116],qS #[],qI 2],[qS #[119, 97, 105, 116],qS #[],qI 3],[qS #[97, 99, 116],qS #[115, 97, 116, 117, 114, 97, 116, 101],qI 0],[qS #[101, 110, 100],qS #[],qI 0]])),(160, (.arr 0 1 9 [[qS #[97]]])),(154, (.arr 0 2 175 [[qS #[98],qS #[51]],[qS #[99],qS #[52]]])),(639, (.arr 1 2 175 [[qS #[98],qS #[51]],[qS #[99],qS #[52]]])),(106, (.arr 0 2 174 [[qS #[97],qS #[49]],[qS #[98],qS #[50]]])),(130, (.arr 0 2 174 [[qS #[97],qS #[53]]])),(132, (.arr 0 2 174 [[qS #[97],qS #[54]]])),(132, (.arr 0 2 174 [[qS #[97],qS #[54]]])),(130, (.arr 0 2 174 [[qS #[97],qS #[53]]])),(106, (.arr 0 2 174 [[qS #[97],qS #[49]],[qS #[98],qS #[50]]])),(109, (.arr 0 2 174 [[qS #[97],qS #[49]],[qS #[98],qS #[51]]])),(112, (.arr 0 2 174 [[qS #[98],qS #[50]],[qS #[99],qS #[52]]])),(112, (.arr 0 2 174 [[qS #[98],qS #[50]],[qS #[99],qS #[52]]])),(109, (.arr 0 2 174 [[qS #[97],qS #[49]],[qS #[98],qS #[51]]])),(106, (.arr 0 2 174 [[qS #[97],qS #[49]],[qS #[98],qS #[50]]])),(90, (.arr 0 1 3 [[qI 1],[qI 0]])),(83, (.arr 0 1 3 [[qI 30],[qI 120]])),(8, (.box 53 [(.aref 623 1),(.pv (qI 12)),(.pv (qI 160))])),(8, (.box 53 [.nils, (.pv (qI 0)),(.pv (qI 0))])),(147, (.arr 0 1 3 [[qI 5],[qI 20],[qI 5]])),(151, (.arr 0 7 46 [[qS #[97],qI 7,qI 10,qI 40,qI 0,qI 180,qI 10],[qS #[98],qI 5,qI 40,qI 20,qI 0,qI 180,qI 30]])),(623, (.arr 1 1 3 [[qI 1],[qI 0]])),(151, (.arr 0 7 46 [[qS #[97],qI 7,qI 10,qI 40,qI 0,qI 180,qI 10],[qS #[98],qI 5,qI 40,qI 20,qI 0,qI 180,qI 30]])),(147, (.arr 0 1 3 [[qI 5],[qI 20],[qI 5]])),(57, (.arr 0 1 3 [[qI 0],[qI 1]])),(145, (.arr 0 7 46 [[qS #[97],qI 7,qI 10,qI 40,qI 0,qI 180,qI 10],[qS #[98],qI 5,qI 40,qI 20,qI 0,qI 180,qI 30]])),(141, (.arr 0 1 3 [[qI 5],[qI 20],[qI 5]])),(139, (.arr 1 1 3 [[qI 30],[qI 120]])),(50, (.arr 0 1 3 [[qI 1],[qI 0]])),(13, (.arr 0 7 46 [[qS #[97],qI 7,qI 10,qI 40,qI 0,qI 180,qI 10],[qS #[98],qI 5,qI 40,qI 20,qI 0,qI 180,qI 30]])),(9, (.arr 0 1 3 [[qI 5],[qI 20],[qI 5]])),(7, (.arr 0 7 46 [[qS #[97],qI 7,qI 10,qI 40,qI 0,qI 180,qI 10],[qS #[98],qI 5,qI 40,qI 20,qI 0,qI 180,qI 30]])),(3, (.arr 0 1 3 [[qI 5],[qI 20],[qI 5]]))]⟩
def st13 : St := ⟨[(25, (.pv (qI 0))),(24, (.aref 765 3)),(23, (.bref 24 0)),(22, (.pv (qI 0))),(20, (.aref 678 5)),(162, (.pv (qB false))),(19, (.pv (qI 29))),(18, (.pv (.slice [[qS #[97]]]))),(16, (.pv (qI 0))),(14, (.pv (.slice [[qS #[98],qS #[51]],[qS #[99],qS #[52]]]))),(13, (.pv (qI 0))),(12, (.pv (qS #[97, 61, 49, 32, 98, 61, 50]))),(11, (.aref 112 0)),(10, (.aref 109 0)),(9, (.aref 106 0)),(102, (.pv (qB false))),(8, (.pv (qI 0))),(7, (.bref 8 0)),(6, (.pv (qI 23))),(4, (.pv (qI 0))),(3, (.aref 139 1)),(2, (.pv (qI 0))),(1, (.pv (qI 120))),(0, (.pv (qB false)))],[(24, (.box 81 [(.pv (qS #[99, 108, 111, 115, 101, 100])),(.pv (qI 2)),(.pv (qB false)),(.pv (qB false))])),(24, (.box 81 [(.pv (qS #[])),(.pv (qI 0)),(.pv (qB false)),(.pv (qB false))])),(765, (.arr 3 2 164 [[qI 0,qS #[115, 116, 97, 114, 116]],[qI 0,qS #[99, 108, 111, 115, 101]],[qI 3,qS #[115, 97, 116, 117, 114, 97, 116, 101]],[qI 6,qS #[115, 97, 116, 117, 114, 97, 116, 101]]])),(678, (.arr 5 3 116 [[qS #[97, 99, 116],qS #[115, 116, 97, 114, 116],qI 0],[qS #[97, 99, 116],qS #[99, 108, 111, 115, 101],qI 0],[qS #[114, 101, 112, 101, 97, 116],qS #[],qI 2],[qS #[119, 97, 105, 116],qS #[],qI 3],[qS #[97, 99, 116],qS #[115, 97, 116, 117, 114, 97, 116, 101],qI 0],[qS #[101, 110, 100],qS #[],qI 0]])),(160, (.arr 0 1 9 [[qS #[97]]])),(154, (.arr 0 2 175 [[qS #[98],qS #[51]],[qS #[99],qS #[52]]])),(639, (.arr 1 2 175 [[qS #[98],qS #[51]],[qS #[99],qS #[52]]])),(106, (.arr 0 2 174 [[qS #[97],qS #[49]],[qS #[98],qS #[50]]])),(130, (.arr 0 2 174 [[qS #[97],qS #[53]]])),(132, (.arr 0 2 174 [[qS #[97],qS #[54]]])),(132, (.arr 0 2 174 [[qS #[97],qS #[54]]])),(130, (.arr 0 2 174 [[qS #[97],qS #[53]]])),(106, (.arr 0 2 174 [[qS #[97],qS #[49]],[qS #[98],qS #[50]]])),(109, (.arr 0 2 174 [[qS #[97],qS #[49]],[qS #[98],qS #[51]]])),(112, (.arr 0 2 174 [[qS #[98],qS #[50]],[qS #[99],qS #[52]]])),(112, (.arr 0 2 174 [[qS #[98],qS #[50]],[qS #[99],qS #[52]]])),(109, (.arr 0 2 174 [[qS #[97],qS #[49]],[qS #[98],qS #[51]]])),(106, (.arr 0 2 174 [[qS #[97],qS #[49]],[qS #[98],qS #[50]]])),(90, (.arr 0 1 3 [[qI 1],[qI 0]])),(83, (.arr 0 1 3 [[qI 30],[qI 120]])),(8, (.box 53 [(.aref 623 1),(.pv (qI 12)),(.pv (qI 160))])),(8, (.box 53 [.nils, (.pv (qI 0)),(.pv (qI 0))])),(147, (.arr 0 1 3 [[qI 5],[qI 20],[qI 5]])),(151, (.arr 0 7 46 [[qS #[97],qI 7,qI 10,qI 40,qI 0,qI 180,qI 10],[qS #[98],qI 5,qI 40,qI 20,qI 0,qI 180,qI 30]])),(623, (.arr 1 1 3 [[qI 1],[qI 0]])),(151, (.arr 0 7 46 [[qS #[97],qI 7,qI 10,qI 40,qI 0,qI 180,qI 10],[qS #[98],qI 5,qI 40,qI 20,qI 0,qI 180,qI 30]])),(147, (.arr 0 1 3 [[qI 5],[qI 20],[qI 5]])),(57, (.arr 0 1 3 [[qI 0],[qI 1]])),(145, (.arr 0 7 46 [[qS #[97],qI 7,qI 10,qI 40,qI 0,qI 180,qI 10],[qS #[98],qI 5,qI 40,qI 20,qI 0,qI 180,qI 30]])),(141, (.arr 0 1 3 [[qI 5],[qI 20],[qI 5]])),(139, (.arr 1 1 3 [[qI 30],[qI 120]])),(50, (.arr 0 1 3 [[qI 1],[qI 0]])),(13, (.arr 0 7 46 [[qS #[97],qI 7,qI 10,qI 40,qI 0,qI 180,qI 10],[qS #[98],qI 5,qI 40,qI 20,qI 0,qI 180,qI 30]])),(9, (.arr 0 1 3 [[qI 5],[qI 20],[qI 5]])),(7, (.arr 0 7 46 [[qS #[97],qI 7,qI 10,qI 40,qI 0,qI 180,qI 10],[qS #[98],qI 5,qI 40,qI 20,qI 0,qI 180,qI 30]])),(3, (.arr 0 1 3 [[qI 5],[qI 20],[qI 5]]))]⟩
def st14 : St := ⟨[(28, (.pv (qI 18))),(27, .nils),(25, (.pv (qI 0))),(24, (.aref 765 3)),(23, (.bref 24 0)),(22, (.pv (qI 0))),(20, (.aref 678 5)),(162, (.pv (qB false))),(19, (.pv (qI 29))),(18, (.pv (.slice [[qS #[97]]]))),(16, (.pv (qI 0))),(14, (.pv (.slice [[qS #[98],qS #[51]],[qS #[99],qS #[52]]]))),(13, (.pv (qI 0))),(12, (.pv (qS #[97, 61, 49, 32, 98, 61, 50]))),(11, (.aref 112 0)),(10, (.aref 109 0)),(9, (.aref 106 0)),(102, (.pv (qB false))),(8, (.pv (qI 0))),(7, (.bref 8 0)),(6, (.pv (qI 23))),(4, (.pv (qI 0))),(3, (.aref 139 1)),(2, (.pv (qI 0))),(1, (.pv (qI 120))),(0, (.pv (qB false)))],[(27, (.box 81 [(.pv (qS #[105, 100, 108, 101])),(.pv (qI 0)),(.pv (qB false)),(.pv (qB false))])),(27, (.box 81 [(.pv (qS #[])),(.pv (qI 0)),(.pv (qB false)),(.pv (qB false))])),(179, (.arr 0 3 116 [[qS #[97, 99, 116],qS #[99, 108, 111, 115, 101],qI 0]])),(24, (.box 81 [(.pv (qS #[99, 108, 111, 115, 101, 100])),(.pv (qI 2)),(.pv (qB false)),(.pv (qB false))])),(24, (.box 81 [(.pv (qS #[])),(.pv (qI 0)),(.pv (qB false)),(.pv (qB false))])),(765, (.arr 3 2 164 [[qI 0,qS #[115, 116, 97, 114, 116]],[qI 0,qS #[99, 108, 111, 115, 101]],[qI 3,qS #[115, 97, 116, 117, 114, 97, 116, 101]],[qI 6,qS #[115, 97, 116, 117, 114, 97, 116, 101]]])),(678, (.arr 5 3 116 [[qS #[97, 99, 116],qS #[115, 116, 97, 114, 116],qI 0],[qS #[97, 99, 116],qS #[99, 108, 111, 115, 101],qI 0],[qS #[114, 101, 112, 101, 97, 116],qS #[],qI 2],[qS #[119, 97, 105, 116],qS #[],qI 3],[qS #[97, 99, 116],qS #[115, 97, 116, 117, 114, 97, 116, 101],qI 0],[qS #[101, 110, 100],qS #[],qI 0]])),(160, (.arr 0 1 9 [[qS #[97]]])),(154, (.arr 0 2 175 [[qS #[98],qS #[51]],[qS #[99],qS #[52]]])),(639, (.arr 1 2 175 [[qS #[98],qS #[51]],[qS #[99],qS #[52]]])),(106, (.arr 0 2 174 [[qS #[97],qS #[49]],[qS #[98],qS #[50]]])),(130, (.arr 0 2 174 [[qS #[97],qS #[53]]])),(132, (.arr 0 2 174 [[qS #[97],qS #[54]]])),(132, (.arr 0 2 174 [[qS #[97],qS #[54]]])),(130, (.arr 0 2 174 [[qS #[97],qS #[53]]])),(106, (.arr 0 2 174 [[qS #[97],qS #[49]],[qS #[98],qS #[50]]])),(109, (.arr 0 2 174 [[qS #[97],qS #[49]],[qS #[98],qS #[51]]])),(112, (.arr 0 2 174 [[qS #[98],qS #[50]],[qS #[99],qS #[52]]])),(112, (.arr 0 2 174 [[qS #[98],qS #[50]],[qS #[99],qS #[52]]])),(109, (.arr 0 2 174 [[qS #[97],qS #[49]],[qS #[98],qS #[51]]])),(106, (.arr 0 2 174 [[qS #[97],qS #[49]],[qS #[98],qS #[50]]])),(90, (.arr 0 1 3 [[qI 1],[qI 0]])),(83, (.arr 0 1 3 [[qI 30],[qI 120]])),(8, (.box 53 [(.aref 623 1),(.pv (qI 12)),(.pv (qI 160))])),(8, (.box 53 [.nils, (.pv (qI 0)),(.pv (qI 0))])),(147, (.arr 0 1 3 [[qI 5],[qI 20],[qI 5]])),(151, (.arr 0 7 46 [[qS #[97],qI 7,qI 10,qI 40,qI 0,qI 180,qI 10],[qS #[98],qI 5,qI 40,qI 20,qI 0,qI 180,qI 30]])),(623, (.arr 1 1 3 [[qI 1],[qI 0]])),(151, (.arr 0 7 46 [[qS #[97],qI 7,qI 10,qI 40,qI 0,qI 180,qI 10],[qS #[98],qI 5,qI 40,qI 20,qI 0,qI 180,qI 30]])),(147, (.arr 0 1 3 [[qI 5],[qI 20],[qI 5]])),(57, (.arr 0 1 3 [[qI 0],[qI 1]])),(145, (.arr 0 7 46 [[qS #[97],qI 7,qI 10,qI 40,qI 0,qI 180,qI 10],[qS #[98],qI 5,qI 40,qI 20,qI 0,qI 180,qI 30]])),(141, (.arr 0 1 3 [[qI 5],[qI 20],[qI 5]])),(139, (.arr 1 1 3 [[qI 30],[qI 120]])),(50, (.arr 0 1 3 [[qI 1],[qI 0]])),(13, (.arr 0 7 46 [[qS #[97],qI 7,qI 10,qI 40,qI 0,qI 180,qI 10],[qS #[98],qI 5,qI 40,qI 20,qI 0,qI 180,qI 30]])),(9, (.arr 0 1 3 [[qI 5],[qI 20],[qI 5]])),(7, (.arr 0 7 46 [[qS #[97],qI 7,qI 10,qI 40,qI 0,qI 180,qI 10],[qS #[98],qI 5,qI 40,qI 20,qI 0,qI 180,qI 30]])),(3, (.arr 0 1 3 [[qI 5],[qI 20],[qI 5]]))]⟩
def st15 : St := ⟨[(211, (.pv (qB false))),(28, (.pv (qI 18))),(27, .nils),(25, (.pv (qI 0))),(24, (.aref 765 3)),(23, (.bref 24 0)),(22, (.pv (qI 0))),(20, (.aref 678 5)),(162, (.pv (qB false))),(19, (.pv (qI 29))),(18, (.pv (.slice [[qS #[97]]]))),(16, (.pv (qI 0))),(14, (.pv (.slice [[qS #[98],qS #[51]],[qS #[99],qS #[52]]]))),(13, (.pv (qI 0))),(12, (.pv (qS #[97, 61, 49, 32, 98, 61, 50]))),(11, (.aref 112 0)),(10, (.aref 109 0)),(9, (.aref 106 0)),(102, (.pv (qB false))),(8, (.pv (qI 0))),(7, (.bref 8 0)),(6, (.pv (qI 23))),(4, (.pv (qI 0))),(3, (.aref 139 1)),(2, (.pv (qI 0))),(1, (.pv (qI 120))),(0, (.pv (qB false)))],[(209, (.arr 0 2 176 [[qI 0,qS #[115, 116, 97, 114, 116]],[qI 0,qS #[99, 108, 111, 115, 101]],[qI 3,qS #[115, 97, 116, 117, 114, 97, 116, 101]],[qI 6,qS #[115, 97, 116, 117, 114, 97, 116, 101]]])),(781, (.arr 3 2 176 [[qI 0,qS #[115, 116, 97, 114, 116]],[qI 0,qS #[99, 108, 111, 115, 101]],[qI 3,qS #[115, 97, 116, 117, 114, 97, 116, 101]],[qI 6,qS #[115, 97, 116, 117, 114, 97, 116, 101]]])),(27, (.box 81 [(.pv (qS #[105, 100, 108, 101])),(.pv (qI 0)),(.pv (qB false)),(.pv (qB false))])),(27, (.box 81 [(.pv (qS #[])),(.pv (qI 0)),(.pv (qB false)),(.pv (qB false))])),(179, (.arr 0 3 116 [[qS #[97, 99, 116],qS #[99, 108, 111, 115, 101],qI 0]])),(24, (.box 81 [(.pv (qS #[99, 108, 111, 115, 101, 100])),(.pv (qI 2)),(.pv (qB false)),(.pv (qB false))])),(24, (.box 81 [(.pv (qS #[])),(.pv (qI 0)),(.pv (qB false)),(.pv (qB false))])),(765, (.arr 3 2 164 [[qI 0,qS #[115, 116, 97, 114, 116]],[qI 0,qS #[99, 108, 111, 115, 101]],[qI 3,qS #[115, 97, 116, 117, 114, 97, 116, 101]],[qI 6,qS #[115, 97, 116, 117, 114, 97, 116, 101]]])),(678, (.arr 5 3 116 [[qS #[97, 99, 116],qS #[115, 116, 97, 114, 116],qI 0],[qS #[97, 99, 116],qS #[99, 108, 111, 115, 101],qI 0],[qS #[114, 101, 112, 101, 97, 116],qS #[],qI 2],[qS #[119, 97, 105, 116],qS #[],qI 3],[qS #[97, 99, 116],qS #[115, 97, 116, 117, 114, 97, 116, 101],qI 0],[qS #[101, 110, 100],qS #[],qI 0]])),(160, (.arr 0 1 9 [[qS #[97]]])),(154, (.arr 0 2 175 [[qS #[98],qS #[51]],[qS #[99],qS #[52]]])),(639, (.arr 1 2 175 [[qS #[98],qS #[51]],[qS #[99],qS #[52]]])),(106, (.arr 0 2 174 [[qS #[97],qS #[49]],[qS #[98],qS #[50]]])),(130, (.arr 0 2 174 [[qS #[97],qS #[53]]])),(132, (.arr 0 2 174 [[qS #[97],qS #[54]]])),(132, (.arr 0 2 174 [[qS #[97],qS #[54]]])),(130, (.arr 0 2 174 [[qS #[97],qS #[53]]])),(106, (.arr 0 2 174 [[qS #[97],qS #[49]],[qS #[98],qS #[50]]])),(109, (.arr 0 2 174 [[qS #[97],qS #[49]],[qS #[98],qS #[51]]])),(112, (.arr 0 2 174 [[qS #[98],qS #[50]],[qS #[99],qS #[52]]])),(112, (.arr 0 2 174 [[qS #[98],qS #[50]],[qS #[99],qS #[52]]])),(109, (.arr 0 2 174 [[qS #[97],qS #[49]],[qS #[98],qS #[51]]])),(106, (.arr 0 2 174 [[qS #[97],qS #[49]],[qS #[98],qS #[50]]])),(90, (.arr 0 1 3 [[qI 1],[qI 0]])),(83, (.arr 0 1 3 [[qI 30],[qI 120]])),(8, (.box 53 [(.aref 623 1),(.pv (qI 12)),(.pv (qI 160))])),(8, (.box 53 [.nils, (.pv (qI 0)),(.pv (qI 0))])),(147, (.arr 0 1 3 [[qI 5],[qI 20],[qI 5]])),(151, (.arr 0 7 46 [[qS #[97],qI 7,qI 10,qI 40,qI 0,qI 180,qI 10],[qS #[98],qI 5,qI 40,qI 20,qI 0,qI 180,qI 30]])),(623, (.arr 1 1 3 [[qI 1],[qI 0]])),(151, (.arr 0 7 46 [[qS #[97],qI 7,qI 10,qI 40,qI 0,qI 180,qI 10],[qS #[98],qI 5,qI 40,qI 20,qI 0,qI 180,qI 30]])),(147, (.arr 0 1 3 [[qI 5],[qI 20],[qI 5]])),(57, (.arr 0 1 3 [[qI 0],[qI 1]])),(145, (.arr 0 7 46 [[qS #[97],qI 7,qI 10,qI 40,qI 0,qI 180,qI 10],[qS #[98],qI 5,qI 40,qI 20,qI 0,qI 180,qI 30]])),(141, (.arr 0 1 3 [[qI 5],[qI 20],[qI 5]])),(139, (.arr 1 1 3 [[qI 30],[qI 120]])),(50, (.arr 0 1 3 [[qI 1],[qI 0]])),(13, (.arr 0 7 46 [[qS #[97],qI 7,qI 10,qI 40,qI 0,qI 180,qI 10],[qS #[98],qI 5,qI 40,qI 20,qI 0,qI 180,qI 30]])),(9, (.arr 0 1 3 [[qI 5],[qI 20],[qI 5]])),(7, (.arr 0 7 46 [[qS #[97],qI 7,qI 10,qI 40,qI 0,qI 180,qI 10],[qS #[98],qI 5,qI 40,qI 20,qI 0,qI 180,qI 30]])),(3, (.arr 0 1 3 [[qI 5],[qI 20],[qI 5]]))]⟩
def st16 : St := ⟨[(29, (.bref 786 0)),(211, (.pv (qB false))),(28, (.pv (qI 18))),(27, .nils),(25, (.pv (qI 0))),(24, (.aref 765 3)),(23, (.bref 24 0)),(22, (.pv (qI 0))),(20, (.aref 678 5)),(162, (.pv (qB false))),(19, (.pv (qI 29))),(18, (.pv (.slice [[qS #[97]]]))),(16, (.pv (qI 0))),(14, (.pv (.slice [[qS #[98],qS #[51]],[qS #[99],qS #[52]]]))),(13, (.pv (qI 0))),(12, (.pv (qS #[97, 61, 49, 32, 98, 61, 50]))),(11, (.aref 112 0)),(10, (.aref 109 0)),(9, (.aref 106 0)),(102, (.pv (qB false))),(8, (.pv (qI 0))),(7, (.bref 8 0)),(6, (.pv (qI 23))),(4, (.pv (qI 0))),(3, (.aref 139 1)),(2, (.pv (qI 0))),(1, (.pv (qI 120))),(0, (.pv (qB false)))],[(784, (.box 267 [.nils, .nils, .nils])),(786, (.box 247 [(.bref 784 0)])),(209, (.arr 0 2 176 [[qI 0,qS #[115, 116, 97, 114, 116]],[qI 0,qS #[99, 108, 111, 115, 101]],[qI 3,qS #[115, 97, 116, 117, 114, 97, 116, 101]],[qI 6,qS #[115, 97, 116, 117, 114, 97, 116, 101]]])),(781, (.arr 3 2 176 [[qI 0,qS #[115, 116, 97, 114, 116]],[qI 0,qS #[99, 108, 111, 115, 101]],[qI 3,qS #[115, 97, 116, 117, 114, 97, 116, 101]],[qI 6,qS #[115, 97, 116, 117, 114, 97, 116, 101]]])),(27, (.box 81 [(.pv (qS #[105, 100, 108, 101])),(.pv (qI 0)),(.pv (qB false)),(.pv (qB false))])),(27, (.box 81 [(.pv (qS #[])),(.pv (qI 0)),(.pv (qB false)),(.pv (qB false))])),(179, (.arr 0 3 116 [[qS #[97, 99, 116],qS #[99, 108, 111, 115, 101],qI 0]])),(24, (.box 81 [(.pv (qS #[99, 108, 111, 115, 101, 100])),(.pv (qI 2)),(.pv (qB false)),(.pv (qB false))])),(24, (.box 81 [(.pv (qS #[])),(.pv (qI 0)),(.pv (qB false)),(.pv (qB false))])),(765, (.arr 3 2 164 [[qI 0,qS #[115, 116, 97, 114, 116]],[qI 0,qS #[99, 108, 111, 115, 101]],[qI 3,qS #[115, 97, 116, 117, 114, 97, 116, 101]],[qI 6,qS #[115, 97, 116, 117, 114, 97, 116, 101]]])),(678, (.arr 5 3 116 [[qS #[97, 99, 116],qS #[115, 116, 97, 114, 116],qI 0],[qS #[97, 99, 116],qS #[99, 108, 111, 115, 101],qI 0],[qS #[114, 101, 112, 101, 97, 116],qS #[],qI 2],[qS #[119, 97, 105, 116],qS #[],qI 3],[qS #[97, 99, 116],qS #[115, 97, 116, 117, 114, 97, 116, 101],qI 0],[qS #[101, 110, 100],qS #[],qI 0]])),(160, (.arr 0 1 9 [[qS #[97]]])),(154, (.arr 0 2 175 [[qS #[98],qS #[51]],[qS #[99],qS #[52]]])),(639, (.arr 1 2 175 [[qS #[98],qS #[51]],[qS #[99],qS #[52]]])),(106, (.arr 0 2 174 [[qS #[97],qS #[49]],[qS #[98],qS #[50]]])),(130, (.arr 0 2 174 [[qS #[97],qS #[53]]])),(132, (.arr 0 2 174 [[qS #[97],qS #[54]]])),(132, (.arr 0 2 174 [[qS #[97],qS #[54]]])),(130, (.arr 0 2 174 [[qS #[97],qS #[53]]])),(106, (.arr 0 2 174 [[qS #[97],qS #[49]],[qS #[98],qS #[50]]])),(109, (.arr 0 2 174 [[qS #[97],qS #[49]],[qS #[98],qS #[51]]])),(112, (.arr 0 2 174 [[qS #[98],qS #[50]],[qS #[99],qS #[52]]])),(112, (.arr 0 2 174 [[qS #[98],qS #[50]],[qS #[99],qS #[52]]])),(109, (.arr 0 2 174 [[qS #[97],qS #[49]],[qS #[98],qS #[51]]])),(106, (.arr 0 2 174 [[qS #[97],qS #[49]],[qS #[98],qS #[50]]])),(90, (.arr 0 1 3 [[qI 1],[qI 0]])),(83, (.arr 0 1 3 [[qI 30],[qI 120]])),(8, (.box 53 [(.aref 623 1),(.pv (qI 12)),(.pv (qI 160))])),(8, (.box 53 [.nils, (.pv (qI 0)),(.pv (qI 0))])),(147, (.arr 0 1 3 [[qI 5],[qI 20],[qI 5]])),(151, (.arr 0 7 46 [[qS #[97],qI 7,qI 10,qI 40,qI 0,qI 180,qI 10],[qS #[98],qI 5,qI 40,qI 20,qI 0,qI 180,qI 30]])),(623, (.arr 1 1 3 [[qI 1],[qI 0]])),(151, (.arr 0 7 46 [[qS #[97],qI 7,qI 10,qI 40,qI 0,qI 180,qI 10],[qS #[98],qI 5,qI 40,qI 20,qI 0,qI 180,qI 30]])),(147, (.arr 0 1 3 [[qI 5],[qI 20],[qI 5]])),(57, (.arr 0 1 3 [[qI 0],[qI 1]])),(145, (.arr 0 7 46 [[qS #[97],qI 7,qI 10,qI 40,qI 0,qI 180,qI 10],[qS #[98],qI 5,qI 40,qI 20,qI 0,qI 180,qI 30]])),(141, (.arr 0 1 3 [[qI 5],[qI 20],[qI 5]])),(139, (.arr 1 1 3 [[qI 30],[qI 120]])),(50, (.arr 0 1 3 [[qI 1],[qI 0]])),(13, (.arr 0 7 46 [[qS #[97],qI 7,qI 10,qI 40,qI 0,qI 180,qI 10],[qS #[98],qI 5,qI 40,qI 20,qI 0,qI 180,qI 30]])),(9, (.arr 0 1 3 [[qI 5],[qI 20],[qI 5]])),(7, (.arr 0 7 46 [[qS #[97],qI 7,qI 10,qI 40,qI 0,qI 180,qI 10],[qS #[98],qI 5,qI 40,qI 20,qI 0,qI 180,qI 30]])),(3, (.arr 0 1 3 [[qI 5],[qI 20],[qI 5]]))]⟩
def st17 : St := ⟨[(214, (.pv (qB false))),(29, (.bref 786 0)),(211, (.pv (qB false))),(28, (.pv (qI 18))),(27, .nils),(25, (.pv (qI 0))),(24, (.aref 765 3)),(23, (.bref 24 0)),(22, (.pv (qI 0))),(20, (.aref 678 5)),(162, (.pv (qB false))),(19, (.pv (qI 29))),(18, (.pv (.slice [[qS #[97]]]))),(16, (.pv (qI 0))),(14, (.pv (.slice [[qS #[98],qS #[51]],[qS #[99],qS #[52]]]))),(13, (.pv (qI 0))),(12, (.pv (qS #[97, 61, 49, 32, 98, 61, 50]))),(11, (.aref 112 0)),(10, (.aref 109 0)),(9, (.aref 106 0)),(102, (.pv (qB false))),(8, (.pv (qI 0))),(7, (.bref 8 0)),(6, (.pv (qI 23))),(4, (.pv (qI 0))),(3, (.aref 139 1)),(2, (.pv (qI 0))),(1, (.pv (qI 120))),(0, (.pv (qB false)))],[(784, (.box 267 [.nils, .nils, .nils])),(786, (.box 247 [(.bref 784 0)])),(209, (.arr 0 2 176 [[qI 0,qS #[115, 116, 97, 114, 116]],[qI 0,qS #[99, 108, 111, 115, 101]],[qI 3,qS #[115, 97, 116, 117, 114, 97, 116, 101]],[qI 6,qS #[115, 97, 116, 117, 114, 97, 116, 101]]])),(781, (.arr 3 2 176 [[qI 0,qS #[115, 116, 97, 114, 116]],[qI 0,qS #[99, 108, 111, 115, 101]],[qI 3,qS #[115, 97, 116, 117, 114, 97, 116, 101]],[qI 6,qS #[115, 97, 116, 117, 114, 97, 116, 101]]])),(27, (.box 81 [(.pv (qS #[105, 100, 108, 101])),(.pv (qI 0)),(.pv (qB false)),(.pv (qB false))])),(27, (.box 81 [(.pv (qS #[])),(.pv (qI 0)),(.pv (qB false)),(.pv (qB false))])),(179, (.arr 0 3 116 [[qS #[97, 99, 116],qS #[99, 108, 111, 115, 101],qI 0]])),(24, (.box 81 [(.pv (qS #[99, 108, 111, 115, 101, 100])),(.pv (qI 2)),(.pv (qB false)),(.pv (qB false))])),(24, (.box 81 [(.pv (qS #[])),(.pv (qI 0)),(.pv (qB false)),(.pv (qB false))])),(765, (.arr 3 2 164 [[qI 0,qS #[115, 116, 97, 114, 116]],[qI 0,qS #[99, 108, 111, 115, 101]],[qI 3,qS #[115, 97, 116, 117, 114, 97, 116, 101]],[qI 6,qS #[115, 97, 116, 117, 114, 97, 116, 101]]])),(678, (.arr 5 3 116 [[qS #[97, 99, 116],qS #[115, 116, 97, 114, 116],qI 0],[qS #[97, 99, 116],qS #[99, 108, 111, 115, 101],qI 0],[qS #[114, 101, 112, 101, 97, 116],qS #[],qI 2],[qS #[119, 97, 105, 116],qS #[],qI 3],[qS #[97, 99, 116],qS #[115, 97, 116, 117, 114, 97, 116, 101],qI 0],[qS #[101, 110, 100],qS #[],qI 0]])),(160, (.arr 0 1 9 [[qS #[97]]])),(154, (.arr 0 2 175 [[qS #[98],qS #[51]],[qS #[99],qS #[52]]])),(639, (.arr 1 2 175 [[qS #[98],qS #[51]],[qS #[99],qS #[52]]])),(106, (.arr 0 2 174 [[qS #[97],qS #[49]],[qS #[98],qS #[50]]])),(130, (.arr 0 2 174 [[qS #[97],qS #[53]]])),(132, (.arr 0 2 174 [[qS #[97],qS #[54]]])),(132, (.arr 0 2 174 [[qS #[97],qS #[54]]])),(130, (.arr 0 2 174 [[qS #[97],qS #[53]]])),(106, (.arr 0 2 174 [[qS #[97],qS #[49]],[qS #[98],qS #[50]]])),(109, (.arr 0 2 174 [[qS #[97],qS #[49]],[qS #[98],qS #[51]]])),(112, (.arr 0 2 174 [[qS #[98],qS #[50]],[qS #[99],qS #[52]]])),(112, (.arr 0 2 174 [[qS #[98],qS #[50]],[qS #[99],qS #[52]]])),(109, (.arr 0 2 174 [[qS #[97],qS #[49]],[qS #[98],qS #[51]]])),(106, (.arr 0 2 174 [[qS #[97],qS #[49]],[qS #[98],qS #[50]]])),(90, (.arr 0 1 3 [[qI 1],[qI 0]])),(83, (.arr 0 1 3 [[qI 30],[qI 120]])),(8, (.box 53 [(.aref 623 1),(.pv (qI 12)),(.pv (qI 160))])),(8, (.box 53 [.nils, (.pv (qI 0)),(.pv (qI 0))])),(147, (.arr 0 1 3 [[qI 5],[qI 20],[qI 5]])),(151, (.arr 0 7 46 [[qS #[97],qI 7,qI 10,qI 40,qI 0,qI 180,qI 10],[qS #[98],qI 5,qI 40,qI 20,qI 0,qI 180,qI 30]])),(623, (.arr 1 1 3 [[qI 1],[qI 0]])),(151, (.arr 0 7 46 [[qS #[97],qI 7,qI 10,qI 40,qI 0,qI 180,qI 10],[qS #[98],qI 5,qI 40,qI 20,qI 0,qI 180,qI 30]])),(147, (.arr 0 1 3 [[qI 5],[qI 20],[qI 5]])),(57, (.arr 0 1 3 [[qI 0],[qI 1]])),(145, (.arr 0 7 46 [[qS #[97],qI 7,qI 10,qI 40,qI 0,qI 180,qI 10],[qS #[98],qI 5,qI 40,qI 20,qI 0,qI 180,qI 30]])),(141, (.arr 0 1 3 [[qI 5],[qI 20],[qI 5]])),(139, (.arr 1 1 3 [[qI 30],[qI 120]])),(50, (.arr 0 1 3 [[qI 1],[qI 0]])),(13, (.arr 0 7 46 [[qS #[97],qI 7,qI 10,qI 40,qI 0,qI 180,qI 10],[qS #[98],qI 5,qI 40,qI 20,qI 0,qI 180,qI 30]])),(9, (.arr 0 1 3 [[qI 5],[qI 20],[qI 5]])),(7, (.arr 0 7 46 [[qS #[97],qI 7,qI 10,qI 40,qI 0,qI 180,qI 10],[qS #[98],qI 5,qI 40,qI 20,qI 0,qI 180,qI 30]])),(3, (.arr 0 1 3 [[qI 5],[qI 20],[qI 5]]))]⟩
def st18 : St := ⟨[(227, (.pv (qB false))),(226, (.pv (qI 9))),(246, (.pv (qB false))),(33, (.pv (qI 0))),(32, (.pv (qS #[99, 108, 111, 115, 101, 100, 32, 48]))),(31, (.bref 32 0)),(225, (.pv (qI 9))),(224, (.aref 225 0)),(214, (.pv (qB false))),(29, (.bref 786 0)),(211, (.pv (qB false))),(28, (.pv (qI 18))),(27, .nils),(25, (.pv (qI 0))),(24, (.aref 765 3)),(23, (.bref 24 0)),(22, (.pv (qI 0))),(20, (.aref 678 5)),(162, (.pv (qB false))),(19, (.pv (qI 29))),(18, (.pv (.slice [[qS #[97]]]))),(16, (.pv (qI 0))),(14, (.pv (.slice [[qS #[98],qS #[51]],[qS #[99],qS #[52]]]))),(13, (.pv (qI 0))),(12, (.pv (qS #[97, 61, 49, 32, 98, 61, 50]))),(11, (.aref 112 0)),(10, (.aref 109 0)),(9, (.aref 106 0)),(102, (.pv (qB false))),(8, (.pv (qI 0))),(7, (.bref 8 0)),(6, (.pv (qI 23))),(4, (.pv (qI 0))),(3, (.aref 139 1)),(2, (.pv (qI 0))),(1, (.pv (qI 120))),(0, (.pv (qB false)))],[(139, (.arr 1 1 3 [[qI 30],[qI 120]])),(623, (.arr 1 1 3 [[qI 1],[qI 0]])),(8, (.box 53 [(.aref 623 1),(.pv (qI 12)),(.pv (qI 160))])),(106, (.arr 0 2 174 [[qS #[97],qS #[49]],[qS #[98],qS #[50]]])),(109, (.arr 0 2 174 [[qS #[97],qS #[49]],[qS #[98],qS #[51]]])),(112, (.arr 0 2 174 [[qS #[98],qS #[50]],[qS #[99],qS #[52]]])),(678, (.arr 5 3 116 [[qS #[97, 99, 116],qS #[115, 116, 97, 114, 116],qI 0],[qS #[97, 99, 116],qS #[99, 108, 111, 115, 101],qI 0],[qS #[114, 101, 112, 101, 97, 116],qS #[],qI 2],[qS #[119, 97, 105, 116],qS #[],qI 3],[qS #[97, 99, 116],qS #[115, 97, 116, 117, 114, 97, 116, 101],qI 0],[qS #[101, 110, 100],qS #[],qI 0]])),(24, (.box 81 [(.pv (qS #[99, 108, 111, 115, 101, 100])),(.pv (qI 2)),(.pv (qB false)),(.pv (qB false))])),(765, (.arr 3 2 164 [[qI 0,qS #[115, 116, 97, 114, 116]],[qI 0,qS #[99, 108, 111, 115, 101]],[qI 3,qS #[115, 97, 116, 117, 114, 97, 116, 101]],[qI 6,qS #[115, 97, 116, 117, 114, 97, 116, 101]]])),(1005, (.arr 4 9 154 [[qI 1,qS #[105, 100, 108, 101],qI 0,qB false,qB false, (.slice [[qS #[109],qI 7,qI 10,qI 40,qI 0,qI 180,qI 10]]),(.slice []),(.slice []),(.slice [])],[qI 2,qS #[111, 112, 101, 110],qI 0,qB false,qB false, (.slice [[qS #[109],qI 7,qI 10,qI 40,qI 0,qI 180,qI 10]]),(.slice []),(.slice []),(.slice [[qI 2,qS #[115, 116, 97, 114, 116]]])],[qI 2,qS #[99, 108, 111, 115, 101, 100],qI 0,qB false,qB false, (.slice [[qS #[109],qI 7,qI 10,qI 40,qI 0,qI 180,qI 10]]),(.slice []),(.slice []),(.slice [[qI 2,qS #[115, 116, 97, 114, 116]],[qI 2,qS #[99, 108, 111, 115, 101]]])]])),(998, (.arr 4 5 119 [[qI 1,qS #[116, 97, 114, 103, 101, 116],(.slice [[qS #[109]]]),(.slice [[qI 1],[qI 7],[qI 10],[qI 40],[qI 0],[qI 180],[qI 10]]),qS #[]],[qI 2,qS #[97, 99, 116],(.slice [[qS #[115, 116, 97, 114, 116]]]),(.slice [[qI 2]]),qS #[]],[qI 3,qS #[97, 99, 116],(.slice [[qS #[99, 108, 111, 115, 101]]]),(.slice [[qI 2]]),qS #[]]])),(959, (.arr 4 5 119 [[qI 1,qS #[116, 97, 114, 103, 101, 116],(.slice [[qS #[109]]]),(.slice [[qI 1],[qI 7],[qI 10],[qI 40],[qI 0],[qI 180],[qI 10]]),qS #[]],[qI 2,qS #[97, 99, 116],(.slice [[qS #[115, 116, 97, 114, 116]]]),(.slice [[qI 2]]),qS #[]],[qI 3,qS #[97, 99, 116],(.slice [[qS #[99, 108, 111, 115, 101]]]),(.slice [[qI 2]]),qS #[]],[qI 4,qS #[111, 98, 115, 101, 114, 118, 101],(.slice [[qS #[109]]]),(.slice [[qI 2]]),qS #[]],[qI 5,qS #[117, 110, 100, 111],(.slice []),(.slice []),qS #[]]])),(784, (.box 267 [(.aref 959 4),(.aref 998 4),(.aref 1005 4)])),(786, (.box 247 [(.bref 784 0)])),(225, (.arr 0 3 178 [[qS #[116, 97, 114, 103, 101, 116, 32, 109, 32, 49, 32, 55, 32, 49, 48, 32, 52, 48, 32, 48, 32, 49, 56, 48, 32, 49, 48],qS #[100, 111, 110, 101, 32, 49],qI 0],[qS #[111, 98, 115, 101, 114, 118, 101, 32, 109, 32, 49],qS #[],qI 19],[qS #[97, 99, 116, 32, 115, 116, 97, 114, 116, 32, 50],qS #[100, 111, 110, 101, 32, 50],qI 0],[qS #[97, 99, 116, 32, 99, 108, 111, 115, 101, 32, 50],qS #[100, 111, 110, 101, 32, 51],qI 0],[qS #[111, 98, 115, 101, 114, 118, 101, 32, 109, 32, 50],qS #[100, 111, 110, 101, 32, 52],qI 0],[qS #[117, 110, 100, 111],qS #[100, 111, 110, 101, 32, 53],qI 0],[qS #[117, 110, 100, 111],qS #[],qI 18],[qS #[116, 97, 114, 103, 101, 116, 115],qS #[109],qI 0],[qS #[115, 116, 97, 116, 101],qS #[99, 108, 111, 115, 101, 100, 32, 48],qI 0]])),(32, (.box 178 [(.pv (qS #[115, 116, 97, 116, 101])),(.pv (qS #[99, 108, 111, 115, 101, 100, 32, 48])),(.pv (qI 0))]))]⟩
def st19 : St := ⟨[(34, (.pv (qS #[49, 32, 116, 97, 114, 103, 101, 116, 32, 109, 32, 49, 32, 55, 32, 49, 48, 32, 52, 48, 32, 48, 32, 49, 56, 48, 32, 49, 48, 35, 53, 51, 49, 53, 57, 55, 52, 10, 50, 32, 97, 99, 116, 32, 115, 116, 97, 114, 116, 32, 50, 35, 50, 53, 52, 55, 54, 55, 48, 10, 51, 32, 97, 99, 116, 32, 99, 108, 111, 115, 101, 32, 50, 35, 48, 51, 50, 49, 54, 48, 57, 10, 52, 32, 111, 98, 115, 101, 114, 118, 101, 32, 109, 32, 50, 35, 52, 50, 53, 57, 50, 55, 49, 10, 53, 32, 117, 110, 100, 111, 35, 53, 51, 56, 51, 52, 53, 57, 10]))),(227, (.pv (qB false))),(226, (.pv (qI 9))),(246, (.pv (qB false))),(33, (.pv (qI 0))),(32, (.pv (qS #[99, 108, 111, 115, 101, 100, 32, 48]))),(31, (.bref 32 0)),(225, (.pv (qI 9))),(224, (.aref 225 0)),(214, (.pv (qB false))),(29, (.bref 786 0)),(211, (.pv (qB false))),(28, (.pv (qI 18))),(27, .nils),(25, (.pv (qI 0))),(24, (.aref 765 3)),(23, (.bref 24 0)),(22, (.pv (qI 0))),(20, (.aref 678 5)),(162, (.pv (qB false))),(19, (.pv (qI 29))),(18, (.pv (.slice [[qS #[97]]]))),(16, (.pv (qI 0))),(14, (.pv (.slice [[qS #[98],qS #[51]],[qS #[99],qS #[52]]]))),(13, (.pv (qI 0))),(12, (.pv (qS #[97, 61, 49, 32, 98, 61, 50]))),(11, (.aref 112 0)),(10, (.aref 109 0)),(9, (.aref 106 0)),(102, (.pv (qB false))),(8, (.pv (qI 0))),(7, (.bref 8 0)),(6, (.pv (qI 23))),(4, (.pv (qI 0))),(3, (.aref 139 1)),(2, (.pv (qI 0))),(1, (.pv (qI 120))),(0, (.pv (qB false)))],[(139, (.arr 1 1 3 [[qI 30],[qI 120]])),(623, (.arr 1 1 3 [[qI 1],[qI 0]])),(8, (.box 53 [(.aref 623 1),(.pv (qI 12)),(.pv (qI 160))])),(106, (.arr 0 2 174 [[qS #[97],qS #[49]],[qS #[98],qS #[50]]])),(109, (.arr 0 2 174 [[qS #[97],qS #[49]],[qS #[98],qS #[51]]])),(112, (.arr 0 2 174 [[qS #[98],qS #[50]],[qS #[99],qS #[52]]])),(678, (.arr 5 3 116 [[qS #[97, 99, 116],qS #[115, 116, 97, 114, 116],qI 0],[qS #[97, 99, 116],qS #[99, 108, 111, 115, 101],qI 0],[qS #[114, 101, 112, 101, 97, 116],qS #[],qI 2],[qS #[119, 97, 105, 116],qS #[],qI 3],[qS #[97, 99, 116],qS #[115, 97, 116, 117, 114, 97, 116, 101],qI 0],[qS #[101, 110, 100],qS #[],qI 0]])),(24, (.box 81 [(.pv (qS #[99, 108, 111, 115, 101, 100])),(.pv (qI 2)),(.pv (qB false)),(.pv (qB false))])),(765, (.arr 3 2 164 [[qI 0,qS #[115, 116, 97, 114, 116]],[qI 0,qS #[99, 108, 111, 115, 101]],[qI 3,qS #[115, 97, 116, 117, 114, 97, 116, 101]],[qI 6,qS #[115, 97, 116, 117, 114, 97, 116, 101]]])),(1005, (.arr 4 9 154 [[qI 1,qS #[105, 100, 108, 101],qI 0,qB false,qB false, (.slice [[qS #[109],qI 7,qI 10,qI 40,qI 0,qI 180,qI 10]]),(.slice []),(.slice []),(.slice [])],[qI 2,qS #[111, 112, 101, 110],qI 0,qB false,qB false, (.slice [[qS #[109],qI 7,qI 10,qI 40,qI 0,qI 180,qI 10]]),(.slice []),(.slice []),(.slice [[qI 2,qS #[115, 116, 97, 114, 116]]])],[qI 2,qS #[99, 108, 111, 115, 101, 100],qI 0,qB false,qB false, (.slice [[qS #[109],qI 7,qI 10,qI 40,qI 0,qI 180,qI 10]]),(.slice []),(.slice []),(.slice [[qI 2,qS #[115, 116, 97, 114, 116]],[qI 2,qS #[99, 108, 111, 115, 101]]])]])),(998, (.arr 4 5 119 [[qI 1,qS #[116, 97, 114, 103, 101, 116],(.slice [[qS #[109]]]),(.slice [[qI 1],[qI 7],[qI 10],[qI 40],[qI 0],[qI 180],[qI 10]]),qS #[]],[qI 2,qS #[97, 99, 116],(.slice [[qS #[115, 116, 97, 114, 116]]]),(.slice [[qI 2]]),qS #[]],[qI 3,qS #[97, 99, 116],(.slice [[qS #[99, 108, 111, 115, 101]]]),(.slice [[qI 2]]),qS #[]]])),(959, (.arr 4 5 119 [[qI 1,qS #[116, 97, 114, 103, 101, 116],(.slice [[qS #[109]]]),(.slice [[qI 1],[qI 7],[qI 10],[qI 40],[qI 0],[qI 180],[qI 10]]),qS #[]],[qI 2,qS #[97, 99, 116],(.slice [[qS #[115, 116, 97, 114, 116]]]),(.slice [[qI 2]]),qS #[]],[qI 3,qS #[97, 99, 116],(.slice [[qS #[99, 108, 111, 115, 101]]]),(.slice [[qI 2]]),qS #[]],[qI 4,qS #[111, 98, 115, 101, 114, 118, 101],(.slice [[qS #[109]]]),(.slice [[qI 2]]),qS #[]],[qI 5,qS #[117, 110, 100, 111],(.slice []),(.slice []),qS #[]]])),(784, (.box 267 [(.aref 959 4),(.aref 998 4),(.aref 1005 4)])),(786, (.box 247 [(.bref 784 0)])),(225, (.arr 0 3 178 [[qS #[116, 97, 114, 103, 101, 116, 32, 109, 32, 49, 32, 55, 32, 49, 48, 32, 52, 48, 32, 48, 32, 49, 56, 48, 32, 49, 48],qS #[100, 111, 110, 101, 32, 49],qI 0],[qS #[111, 98, 115, 101, 114, 118, 101, 32, 109, 32, 49],qS #[],qI 19],[qS #[97, 99, 116, 32, 115, 116, 97, 114, 116, 32, 50],qS #[100, 111, 110, 101, 32, 50],qI 0],[qS #[97, 99, 116, 32, 99, 108, 111, 115, 101, 32, 50],qS #[100, 111, 110, 101, 32, 51],qI 0],[qS #[111, 98, 115, 101, 114, 118, 101, 32, 109, 32, 50],qS #[100, 111, 110, 101, 32, 52],qI 0],[qS #[117, 110, 100, 111],qS #[100, 111, 110, 101, 32, 53],qI 0],[qS #[117, 110, 100, 111],qS #[],qI 18],[qS #[116, 97, 114, 103, 101, 116, 115],qS #[109],qI 0],[qS #[115, 116, 97, 116, 101],qS #[99, 108, 111, 115, 101, 100, 32, 48],qI 0]])),(32, (.box 178 [(.pv (qS #[115, 116, 97, 116, 101])),(.pv (qS #[99, 108, 111, 115, 101, 100, 32, 48])),(.pv (qI 0))]))]⟩
def st20 : St := ⟨[(37, (.pv (qI 28))),(36, (.pv (qI 119))),(35, (.aref 1053 4)),(34, (.pv (qS #[49, 32, 116, 97, 114, 103, 101, 116, 32, 109, 32, 49, 32, 55, 32, 49, 48, 32, 52, 48, 32, 48, 32, 49, 56, 48, 32, 49, 48, 35, 53, 51, 49, 53, 57, 55, 52, 10, 50, 32, 97, 99, 116, 32, 115, 116, 97, 114, 116, 32, 50, 35, 50, 53, 52, 55, 54, 55, 48, 10, 51, 32, 97, 99, 116, 32, 99, 108, 111, 115, 101, 32, 50, 35, 48, 51, 50, 49, 54, 48, 57, 10, 52, 32, 111, 98, 115, 101, 114, 118, 101, 32, 109, 32, 50, 35, 52, 50, 53, 57, 50, 55, 49, 10, 53, 32, 117, 110, 100, 111, 35, 53, 51, 56, 51, 52, 53, 57, 10]))),(227, (.pv (qB false))),(226, (.pv (qI 9))),(246, (.pv (qB false))),(33, (.pv (qI 0))),(32, (.pv (qS #[99, 108, 111, 115, 101, 100, 32, 48]))),(31, (.bref 32 0)),(225, (.pv (qI 9))),(224, (.aref 225 0)),(214, (.pv (qB false))),(29, (.bref 786 0)),(211, (.pv (qB false))),(28, (.pv (qI 18))),(27, .nils),(25, (.pv (qI 0))),(24, (.aref 765 3)),(23, (.bref 24 0)),(22, (.pv (qI 0))),(20, (.aref 678 5)),(162, (.pv (qB false))),(19, (.pv (qI 29))),(18, (.pv (.slice [[qS #[97]]]))),(16, (.pv (qI 0))),(14, (.pv (.slice [[qS #[98],qS #[51]],[qS #[99],qS #[52]]]))),(13, (.pv (qI 0))),(12, (.pv (qS #[97, 61, 49, 32, 98, 61, 50]))),(11, (.aref 112 0)),(10, (.aref 109 0)),(9, (.aref 106 0)),(102, (.pv (qB false))),(8, (.pv (qI 0))),(7, (.bref 8 0)),(6, (.pv (qI 23))),(4, (.pv (qI 0))),(3, (.aref 139 1)),(2, (.pv (qI 0))),(1, (.pv (qI 120))),(0, (.pv (qB false)))],[(1053, (.arr 4 5 119 [[qI 1,qS #[116, 97, 114, 103, 101, 116],(.slice [[qS #[109]]]),(.slice [[qI 1],[qI 7],[qI 10],[qI 40],[qI 0],[qI 180],[qI 10]]),qS #[]],[qI 2,qS #[97, 99, 116],(.slice [[qS #[115, 116, 97, 114, 116]]]),(.slice [[qI 2]]),qS #[]],[qI 3,qS #[97, 99, 116],(.slice [[qS #[99, 108, 111, 115, 101]]]),(.slice [[qI 2]]),qS #[]],[qI 4,qS #[111, 98, 115, 101, 114, 118, 101],(.slice [[qS #[109]]]),(.slice [[qI 2]]),qS #[]],[qI 5,qS #[117, 110, 100, 111],(.slice []),(.slice []),qS #[]]])),(139, (.arr 1 1 3 [[qI 30],[qI 120]])),(623, (.arr 1 1 3 [[qI 1],[qI 0]])),(8, (.box 53 [(.aref 623 1),(.pv (qI 12)),(.pv (qI 160))])),(106, (.arr 0 2 174 [[qS #[97],qS #[49]],[qS #[98],qS #[50]]])),(109, (.arr 0 2 174 [[qS #[97],qS #[49]],[qS #[98],qS #[51]]])),(112, (.arr 0 2 174 [[qS #[98],qS #[50]],[qS #[99],qS #[52]]])),(678, (.arr 5 3 116 [[qS #[97, 99, 116],qS #[115, 116, 97, 114, 116],qI 0],[qS #[97, 99, 116],qS #[99, 108, 111, 115, 101],qI 0],[qS #[114, 101, 112, 101, 97, 116],qS #[],qI 2],[qS #[119, 97, 105, 116],qS #[],qI 3],[qS #[97, 99, 116],qS #[115, 97, 116, 117, 114, 97, 116, 101],qI 0],[qS #[101, 110, 100],qS #[],qI 0]])),(24, (.box 81 [(.pv (qS #[99, 108, 111, 115, 101, 100])),(.pv (qI 2)),(.pv (qB false)),(.pv (qB false))])),(765, (.arr 3 2 164 [[qI 0,qS #[115, 116, 97, 114, 116]],[qI 0,qS #[99, 108, 111, 115, 101]],[qI 3,qS #[115, 97, 116, 117, 114, 97, 116, 101]],[qI 6,qS #[115, 97, 116, 117, 114, 97, 116, 101]]])),(1005, (.arr 4 9 154 [[qI 1,qS #[105, 100, 108, 101],qI 0,qB false,qB false, (.slice [[qS #[109],qI 7,qI 10,qI 40,qI 0,qI 180,qI 10]]),(.slice []),(.slice []),(.slice [])],[qI 2,qS #[111, 112, 101, 110],qI 0,qB false,qB false, (.slice [[qS #[109],qI 7,qI 10,qI 40,qI 0,qI 180,qI 10]]),(.slice []),(.slice []),(.slice [[qI 2,qS #[115, 116, 97, 114, 116]]])],[qI 2,qS #[99, 108, 111, 115, 101, 100],qI 0,qB false,qB false, (.slice [[qS #[109],qI 7,qI 10,qI 40,qI 0,qI 180,qI 10]]),(.slice []),(.slice []),(.slice [[qI 2,qS #[115, 116, 97, 114, 116]],[qI 2,qS #[99, 108, 111, 115, 101]]])]])),(998, (.arr 4 5 119 [[qI 1,qS #[116, 97, 114, 103, 101, 116],(.slice [[qS #[109]]]),(.slice [[qI 1],[qI 7],[qI 10],[qI 40],[qI 0],[qI 180],[qI 10]]),qS #[]],[qI 2,qS #[97, 99, 116],(.slice [[qS #[115, 116, 97, 114, 116]]]),(.slice [[qI 2]]),qS #[]],[qI 3,qS #[97, 99, 116],(.slice [[qS #[99, 108, 111, 115, 101]]]),(.slice [[qI 2]]),qS #[]]])),(959, (.arr 4 5 119 [[qI 1,qS #[116, 97, 114, 103, 101, 116],(.slice [[qS #[109]]]),(.slice [[qI 1],[qI 7],[qI 10],[qI 40],[qI 0],[qI 180],[qI 10]]),qS #[]],[qI 2,qS #[97, 99, 116],(.slice [[qS #[115, 116, 97, 114, 116]]]),(.slice [[qI 2]]),qS #[]],[qI 3,qS #[97, 99, 116],(.slice [[qS #[99, 108, 111, 115, 101]]]),(.slice [[qI 2]]),qS #[]],[qI 4,qS #[111, 98, 115, 101, 114, 118, 101],(.slice [[qS #[109]]]),(.slice [[qI 2]]),qS #[]],[qI 5,qS #[117, 110, 100, 111],(.slice []),(.slice []),qS #[]]])),(784, (.box 267 [(.aref 959 4),(.aref 998 4),(.aref 1005 4)])),(786, (.box 247 [(.bref 784 0)])),(225, (.arr 0 3 178 [[qS #[116, 97, 114, 103, 101, 116, 32, 109, 32, 49, 32, 55, 32, 49, 48, 32, 52, 48, 32, 48, 32, 49, 56, 48, 32, 49, 48],qS #[100, 111, 110, 101, 32, 49],qI 0],[qS #[111, 98, 115, 101, 114, 118, 101, 32, 109, 32, 49],qS #[],qI 19],[qS #[97, 99, 116, 32, 115, 116, 97, 114, 116, 32, 50],qS #[100, 111, 110, 101, 32, 50],qI 0],[qS #[97, 99, 116, 32, 99, 108, 111, 115, 101, 32, 50],qS #[100, 111, 110, 101, 32, 51],qI 0],[qS #[111, 98, 115, 101, 114, 118, 101, 32, 109, 32, 50],qS #[100, 111, 110, 101, 32, 52],qI 0],[qS #[117, 110, 100, 111],qS #[100, 111, 110, 101, 32, 53],qI 0],[qS #[117, 110, 100, 111],qS #[],qI 18],[qS #[116, 97, 114, 103, 101, 116, 115],qS #[109],qI 0],[qS #[115, 116, 97, 116, 101],qS #[99, 108, 111, 115, 101, 100, 32, 48],qI 0]])),(32, (.box 178 [(.pv (qS #[115, 116, 97, 116, 101])),(.pv (qS #[99, 108, 111, 115, 101, 100, 32, 48])),(.pv (qI 0))]))]⟩
def st21 : St := ⟨[(0, (.pv (qB true))),(37, (.pv (qI 28))),(36, (.pv (qI 119))),(35, (.aref 1053 4)),(34, (.pv (qS #[49, 32, 116, 97, 114, 103, 101, 116, 32, 109, 32, 49, 32, 55, 32, 49, 48, 32, 52, 48, 32, 48, 32, 49, 56, 48, 32, 49, 48, 35, 53, 51, 49, 53, 57, 55, 52, 10, 50, 32, 97, 99, 116, 32, 115, 116, 97, 114, 116, 32, 50, 35, 50, 53, 52, 55, 54, 55, 48, 10, 51, 32, 97, 99, 116, 32, 99, 108, 111, 115, 101, 32, 50, 35, 48, 51, 50, 49, 54, 48, 57, 10, 52, 32, 111, 98, 115, 101, 114, 118, 101, 32, 109, 32, 50, 35, 52, 50, 53, 57, 50, 55, 49, 10, 53, 32, 117, 110, 100, 111, 35, 53, 51, 56, 51, 52, 53, 57, 10]))),(227, (.pv (qB false))),(226, (.pv (qI 9))),(246, (.pv (qB false))),(33, (.pv (qI 0))),(32, (.pv (qS #[99, 108, 111, 115, 101, 100, 32, 48]))),(31, (.bref 32 0)),(225, (.pv (qI 9))),(224, (.aref 225 0)),(214, (.pv (qB false))),(29, (.bref 786 0)),(211, (.pv (qB false))),(28, (.pv (qI 18))),(27, .nils),(25, (.pv (qI 0))),(24, (.aref 765 3)),(23, (.bref 24 0)),(22, (.pv (qI 0))),(20, (.aref 678 5)),(162, (.pv (qB false))),(19, (.pv (qI 29))),(18, (.pv (.slice [[qS #[97]]]))),(16, (.pv (qI 0))),(14, (.pv (.slice [[qS #[98],qS #[51]],[qS #[99],qS #[52]]]))),(13, (.pv (qI 0))),(12, (.pv (qS #[97, 61, 49, 32, 98, 61, 50]))),(11, (.aref 112 0)),(10, (.aref 109 0)),(9, (.aref 106 0)),(102, (.pv (qB false))),(8, (.pv (qI 0))),(7, (.bref 8 0)),(6, (.pv (qI 23))),(4, (.pv (qI 0))),(3, (.aref 139 1)),(2, (.pv (qI 0))),(1, (.pv (qI 120)))],[(1053, (.arr 4 5 119 [[qI 1,qS #[116, 97, 114, 103, 101, 116],(.slice [[qS #[109]]]),(.slice [[qI 1],[qI 7],[qI 10],[qI 40],[qI 0],[qI 180],[qI 10]]),qS #[]],[qI 2,qS #[97, 99, 116],(.slice [[qS #[115, 116, 97, 114, 116]]]),(.slice [[qI 2]]),qS #[]],[qI 3,qS #[97, 99, 116],(.slice [[qS #[99, 108, 111, 115, 101]]]),(.slice [[qI 2]]),qS #[]],[qI 4,qS #[111, 98, 115, 101, 114, 118, 101],(.slice [[qS #[109]]]),(.slice [[qI 2]]),qS #[]],[qI 5,qS #[117, 110, 100, 111],(.slice []),(.slice []),qS #[]]])),(139, (.arr 1 1 3 [[qI 30],[qI 120]])),(623, (.arr 1 1 3 [[qI 1],[qI 0]])),(8, (.box 53 [(.aref 623 1),(.pv (qI 12)),(.pv (qI 160))])),(106, (.arr 0 2 174 [[qS #[97],qS #[49]],[qS #[98],qS #[50]]])),(109, (.arr 0 2 174 [[qS #[97],qS #[49]],[qS #[98],qS #[51]]])),(112, (.arr 0 2 174 [[qS #[98],qS #[50]],[qS #[99],qS #[52]]])),(678, (.arr 5 3 116 [[qS #[97, 99, 116],qS #[115, 116, 97, 114, 116],qI 0],[qS #[97, 99, 116],qS #[99, 108, 111, 115, 101],qI 0],[qS #[114, 101, 112, 101, 97, 116],qS #[],qI 2],[qS #[119, 97, 105, 116],qS #[],qI 3],[qS #[97, 99, 116],qS #[115, 97, 116, 117, 114, 97, 116, 101],qI 0],[qS #[101, 110, 100],qS #[],qI 0]])),(24, (.box 81 [(.pv (qS #[99, 108, 111, 115, 101, 100])),(.pv (qI 2)),(.pv (qB false)),(.pv (qB false))])),(765, (.arr 3 2 164 [[qI 0,qS #[115, 116, 97, 114, 116]],[qI 0,qS #[99, 108, 111, 115, 101]],[qI 3,qS #[115, 97, 116, 117, 114, 97, 116, 101]],[qI 6,qS #[115, 97, 116, 117, 114, 97, 116, 101]]])),(1005, (.arr 4 9 154 [[qI 1,qS #[105, 100, 108, 101],qI 0,qB false,qB false, (.slice [[qS #[109],qI 7,qI 10,qI 40,qI 0,qI 180,qI 10]]),(.slice []),(.slice []),(.slice [])],[qI 2,qS #[111, 112, 101, 110],qI 0,qB false,qB false, (.slice [[qS #[109],qI 7,qI 10,qI 40,qI 0,qI 180,qI 10]]),(.slice []),(.slice []),(.slice [[qI 2,qS #[115, 116, 97, 114, 116]]])],[qI 2,qS #[99, 108, 111, 115, 101, 100],qI 0,qB false,qB false, (.slice [[qS #[109],qI 7,qI 10,qI 40,qI 0,qI 180,qI 10]]),(.slice []),(.slice []),(.slice [[qI 2,qS #[115, 116, 97, 114, 116]],[qI 2,qS #[99, 108, 111, 115, 101]]])]])),(998, (.arr 4 5 119 [[qI 1,qS #[116, 97, 114, 103, 101, 116],(.slice [[qS #[109]]]),(.slice [[qI 1],[qI 7],[qI 10],[qI 40],[qI 0],[qI 180],[qI 10]]),qS #[]],[qI 2,qS #[97, 99, 116],(.slice [[qS #[115, 116, 97, 114, 116]]]),(.slice [[qI 2]]),qS #[]],[qI 3,qS #[97, 99, 116],(.slice [[qS #[99, 108, 111, 115, 101]]]),(.slice [[qI 2]]),qS #[]]])),(959, (.arr 4 5 119 [[qI 1,qS #[116, 97, 114, 103, 101, 116],(.slice [[qS #[109]]]),(.slice [[qI 1],[qI 7],[qI 10],[qI 40],[qI 0],[qI 180],[qI 10]]),qS #[]],[qI 2,qS #[97, 99, 116],(.slice [[qS #[115, 116, 97, 114, 116]]]),(.slice [[qI 2]]),qS #[]],[qI 3,qS #[97, 99, 116],(.slice [[qS #[99, 108, 111, 115, 101]]]),(.slice [[qI 2]]),qS #[]],[qI 4,qS #[111, 98, 115, 101, 114, 118, 101],(.slice [[qS #[109]]]),(.slice [[qI 2]]),qS #[]],[qI 5,qS #[117, 110, 100, 111],(.slice []),(.slice []),qS #[]]])),(784, (.box 267 [(.aref 959 4),(.aref 998 4),(.aref 1005 4)])),(786, (.box 247 [(.bref 784 0)])),(225, (.arr 0 3 178 [[qS #[116, 97, 114, 103, 101, 116, 32, 109, 32, 49, 32, 55, 32, 49, 48, 32, 52, 48, 32, 48, 32, 49, 56, 48, 32, 49, 48],qS #[100, 111, 110, 101, 32, 49],qI 0],[qS #[111, 98, 115, 101, 114, 118, 101, 32, 109, 32, 49],qS #[],qI 19],[qS #[97, 99, 116, 32, 115, 116, 97, 114, 116, 32, 50],qS #[100, 111, 110, 101, 32, 50],qI 0],[qS #[97, 99, 116, 32, 99, 108, 111, 115, 101, 32, 50],qS #[100, 111, 110, 101, 32, 51],qI 0],[qS #[111, 98, 115, 101, 114, 118, 101, 32, 109, 32, 50],qS #[100, 111, 110, 101, 32, 52],qI 0],[qS #[117, 110, 100, 111],qS #[100, 111, 110, 101, 32, 53],qI 0],[qS #[117, 110, 100, 111],qS #[],qI 18],[qS #[116, 97, 114, 103, 101, 116, 115],qS #[109],qI 0],[qS #[115, 116, 97, 116, 101],qS #[99, 108, 111, 115, 101, 100, 32, 48],qI 0]])),(32, (.box 178 [(.pv (qS #[115, 116, 97, 116, 101])),(.pv (qS #[99, 108, 111, 115, 101, 100, 32, 48])),(.pv (qI 0))]))]⟩
noncomputable def r0 : Code := c19
noncomputable def r1 : Code := tlC r0
noncomputable def r2 : Code := tlC r1
noncomputable def r3 : Code := tlC r2
noncomputable def r4 : Code := tlC r3
noncomputable def r5 : Code := tlC r4
noncomputable def r6 : Code := tlC r5
noncomputable def r7 : Code := tlC r6
noncomputable def r8 : Code := tlC r7
noncomputable def r9 : Code := tlC r8
noncomputable def r10 : Code := tlC r9
noncomputable def r11 : Code := tlC r10
noncomputable def r12 : Code := tlC r11
noncomputable def r13 : Code := tlC r12
noncomputable def r14 : Code := tlC r13
noncomputable def r15 : Code := tlC r14
noncomputable def r16 : Code := tlC r15
noncomputable def r17 : Code := tlC r16
noncomputable def r18 : Code := tlC r17
noncomputable def r19 : Code := tlC r18
noncomputable def r20 : Code := tlC r19
noncomputable def r21 : Code := tlC r20
end Go.Lens.Tb
end
