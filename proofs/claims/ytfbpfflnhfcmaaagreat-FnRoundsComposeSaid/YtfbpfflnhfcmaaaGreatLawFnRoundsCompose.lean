/-
  Proved: the law FnRoundsCompose returns true for every input; each argument reads afterwards as before. No conditions.
-/
import Derived.Test.YtfbpfflnhfcmaaaGreatF
import Derived.Test.YtfbpfflnhfcmaaaGreatRows
import Derived.WalkKit
import Derived.ProofKit
import Derived.OpenShut
import Derived.ShutString
import Derived.ChangeOld
import Derived.Below
open Option renaming some->ς,none->ξ
open Bool renaming true->ζ,false->η
open True renaming intro->θ
namespace Go.Proofs.YtfbpfflnhfcmaaaGreat.fnRoundsCompose
open Go.ChangeShapes Go.WideShapes Go.ChangeAt Go.RowKit Go.AM
set_option linter.unusedVariables false

theorem own : ownKnob Tryz.prog.godebug = none := by kernel_rfl
theorem laidOut : laidOutB Tryz.prog = true := by kernel_rfl
set_option maxRecDepth 100000 in
theorem lifted (os : Os) (started : os.Started) (H : Type) (enc : TypeId × Value → H) :
    ReturnsInHanded {} Tryz.checked os 5 .any (Rows.fnRoundsComposeSpec.pre6 enc Tryz.prog Tryz.f5 Rows.fnRoundsComposeRow.domain false) (Rows.fnRoundsComposeSpec.post enc Tryz.prog Tryz.f5 false true false false) := by
  refine returnsInHanded_of_change (C := Tryz.checked) own started (by kernel_rfl) Tryz.func5
    (ChangeSpec.witness6 (enc := enc) (C := Tryz.checked) false ⟨#[], #[.slice none 0 0], []⟩ 8 (by kernel_rfl) (by kernel_rfl) (by kernel_rfl) (by kernel_rfl)) ?_
  intro W base args ds gs before hval0 hW hcnd _
  have hval : ∀ (j : Nat) t v, Tryz.f5.params[j]? = some t → args[j]? = some v → Value.okWide Tryz.prog W .any base t v := hval0
  have hW' := hW
  obtain ⟨p, q, hA0, hV, rfl, hfz, hnd⟩ := hW
  have hA : DataW.TrodAll enc Tryz.prog W 0 (fun _ => true) true Tryz.f5.params.toList args.toList ds p := hA0
  rw [Tryz.params5] at hA hval
  obtain ⟨v0, vs0, d0, ds0, p0, q0, hargs, rfl, rfl, h0, r0⟩ := trodAll_cons hA
  obtain ⟨rfl, rfl, rfl⟩ := trodAll_nil r0
  obtain rfl : args = #[v0] := by cases args; simp_all
  obtain ⟨rfl, rfl⟩ := trodVars_none hV
  have k0 := h0
  have lt0 : ∀ x ∈ p0, x.block < W.heap.size := by obtain ⟨m, hm⟩ := k0; exact DataW.trod_lt m _ _ _ hm
  obtain ⟨x0, wt0, rd0⟩ := open_c Tryz.sh22 (fun fs => by rw [Tryz.underlying22]; simp) (hval 0 22 v0 rfl rfl) h0
  clear hA0 hval0
  refine (law_calls (w := W) (vals := #[v0]) (fnRoundsCompose_fn x0 wt0) (show TabsIn W from trivial) ⟨rd0, trivial⟩).mono fun e W' ⟨he, bel⟩ => ?_
  subst he
  exact ⟨_, rfl, _, _, _, [], _, [], hW', trodAll_mk1 (shut_bool Tryz.underlying4 _), (trodAll_cons_mk (Below.trod laidOut (by kernel_rfl) (of_decide_eq_true (by kernel_rfl)) k0 bel lt0) trodAll_mk0), rfl, bel.frame _, fun h => by cases h⟩
theorem andt {a b : Bool} (h : a = true) (k : b = true) : (a && b) = true := by subst h; subst k; rfl
def rankN : Nat := 15577819785634038135633014976771803192406621715590284795299385699457985771223931802026274856296391237452777709542695603552854587407897278269131622794822283160098670547702122837505431114060812555929747162037742801385001691575994139080497069092679130459801673667104524321040869673880301172134473750976398704588485363993058218855051046614045182450411966032907693834059471077485891856381629033981408681203549001259986704910323540682282178434872228276253515264612005012819997008325953468894006872073482576105851635552557845679010600633521421230233752443520563567722892575750332966591568559140378862351604369597045299390233165448562514741219259754705574631330218385633793428214250602978943708943985697849583740129008942002971799449483231495341318045980290636428155811673673231735346568090252310923674479723338396805907584759226045191910749439108842555079974843908196127398630564304466092886123021483492481843310197621743226225193476876035430884119141028202834897696677511747056708269192279322196913562688021054898366552034865134543696693819399309735007433910976405596379223636487541831751807376628311409624757902904842767469555039824011267002879402082350790483533883376811646430367839464720085264574153931536720920037997384520696833
set_option maxRecDepth 100000 in
theorem rk : ranked Tryz.pinned.checked.prog rankN = true := by kernel_rfl
set_option maxRecDepth 100000 in
theorem clo : Tryz.pinned.checked.prog.closure 5 = [5, 6, 20, 57, 27, 107, 49, 28, 72, 131, 74, 145, 137, 133, 229, 108, 134, 230, 132, 58, 51, 195, 225, 194, 278, 191, 140, 226, 227, 236, 228, 136, 135, 142, 237, 238, 304, 231, 138, 232, 141, 235, 234, 233, 139, 144, 239, 73, 143, 75, 146, 147, 240, 80, 156, 155, 257, 159, 261, 259, 305, 350, 154, 256, 241, 307, 306, 260, 308, 351, 187, 310, 309, 157, 258, 242, 8, 21, 59, 60, 109, 192, 193, 110, 196, 105, 197, 279, 255, 280, 46, 111, 198, 112, 199, 281, 30, 31, 77, 153, 32, 78, 79, 33, 81, 34, 82, 158, 104, 76, 148, 244, 311, 243, 246, 245, 312, 313, 314, 334, 370, 315, 352, 380, 389, 316, 353, 317, 354, 355, 382, 381, 336, 371, 332, 149, 247, 248, 52, 318, 356, 357, 330, 366, 331, 367, 368, 358, 383, 359, 369, 384, 319, 360, 385, 390, 361, 386, 320, 362, 387, 391, 321, 150, 249, 250, 151, 152, 251, 252, 253, 322, 254, 185, 186, 272, 188, 273, 326, 364, 327, 365, 274, 328, 189, 275, 329, 276, 333, 190, 277, 335, 23, 24, 35, 83, 160, 84, 85, 161, 262, 263, 163, 86, 87, 162, 164, 88, 89, 165, 90, 91, 166, 264, 26, 68, 40, 125, 71, 126, 213, 300, 69, 70, 127, 214, 301, 215, 216, 221, 128, 217, 218, 219, 220, 106, 176, 267, 222, 302, 56, 129, 223, 130, 224, 303, 66, 120, 204, 203, 282, 205, 283, 337, 372, 184, 271, 183, 270, 325, 363, 119, 123, 121, 206, 284, 338, 177, 207, 285, 286, 339, 373, 208, 287, 103, 100, 340, 374, 269, 324, 209, 288, 289, 178, 341, 375, 290, 122, 67, 124, 167, 50, 210, 291, 292, 343, 342, 376, 388, 296, 293, 344, 345, 294, 299, 295, 346, 347, 211, 42, 101, 180, 181, 102, 182, 297, 348, 212, 298, 349, 377, 378, 379, 265, 22, 61, 113, 62, 114, 200, 201, 116, 63, 115, 117, 64, 65, 118, 202, 25, 16] := by kernel_rfl
theorem fact0 : (Rows.fnRoundsComposeRow.wf (OpenSpec.ofChange Rows.fnRoundsComposeSpec)) = true := by kernel_rfl
theorem fact1 : (laidOutB Tryz.pinned.checked.prog) = true := by kernel_rfl
theorem fact2 : (mapsRowed Tryz.pinned.checked.prog) = true := by kernel_rfl
theorem fact3 : (Tryz.f5.params.all (Tryz.pinned.checked.prog.readableRec ·)) = true := by kernel_rfl
theorem fact4 : (namedTie Tryz.pinned.checked.prog Rows.fnRoundsComposeRow.named Rows.fnRoundsComposeSpec.vars) = true := by kernel_rfl
theorem fact5 : ((Rows.fnRoundsComposeRow.stops == [])) = true := by kernel_rfl
theorem fact6 : ((Tryz.pinned.checked.prog.stops == [])) = true := by kernel_rfl
theorem fact7 : ((Rows.fnRoundsComposeRow.knobs == [])) = true := by kernel_rfl
theorem fact8 : ((Tryz.pinned.checked.prog.stopKnobs == [])) = true := by kernel_rfl
set_option maxRecDepth 100000 in
theorem fact9 : ((Rows.fnRoundsComposeRow.inPlace == Tryz.pinned.checked.prog.inPlace 5)) = true := by rw [inPlace_is clo]; kernel_rfl
set_option maxRecDepth 100000 in
theorem fact10 : ((Rows.fnRoundsComposeRow.unfollowed == Tryz.pinned.checked.prog.unfollowed 5)) = true := by rw [unfollowed_is clo]; kernel_rfl
set_option maxRecDepth 100000 in
theorem fact11 : ((Rows.fnRoundsComposeRow.recurses == Tryz.pinned.checked.prog.recurses 5)) = true := by rw [recurses_of rk, unfollowed_is clo]; kernel_rfl
set_option maxRecDepth 100000 in
theorem fact12 : ((Rows.fnRoundsComposeRow.named == Tryz.pinned.checked.prog.varsNamed 5)) = true := by rw [varsNamed_is clo]; kernel_rfl
theorem fact13 : ((Rows.fnRoundsComposeRow.maps == (Tryz.f5.params.toList ++ Rows.fnRoundsComposeSpec.plain.varTypes Tryz.pinned.checked.prog).any (Tryz.pinned.checked.prog.mapsRec ·))) = true := by kernel_rfl
theorem fact14 : ((Rows.fnRoundsComposeRow.ifaces == (Tryz.f5.params.toList ++ Rows.fnRoundsComposeSpec.plain.varTypes Tryz.pinned.checked.prog).any (Tryz.pinned.checked.prog.ifacesRec ·))) = true := by kernel_rfl
theorem fact15 : ((Rows.fnRoundsComposeRow.mapsOut == Tryz.pinned.checked.prog.mapsAmong Tryz.f5.resultTypes.toList)) = true := by kernel_rfl
theorem fact16 : ((Rows.fnRoundsComposeRow.loops == (Tryz.f5.params.toList ++ Rows.fnRoundsComposeSpec.plain.varTypes Tryz.pinned.checked.prog).any (Tryz.pinned.checked.prog.loopsFrom ·))) = true := by kernel_rfl
theorem fact17 : ((Rows.fnRoundsComposeRow.wideKeys == (Tryz.f5.params.toList ++ Rows.fnRoundsComposeSpec.plain.varTypes Tryz.pinned.checked.prog ++ Tryz.f5.resultTypes.toList).any (Tryz.pinned.checked.prog.wideKeysFrom ·))) = true := by kernel_rfl
theorem fact18 : (Rows.fnRoundsComposeSpec.vars.all (Tryz.pinned.checked.prog.varReadable ·)) = true := by kernel_rfl
theorem fact19 : (Tryz.f5.resultTypes.all (fun t => Tryz.pinned.checked.prog.readableRec t && decide (t < Tryz.pinned.checked.prog.types.size))) = true := by kernel_rfl
theorem fact20 : ((Rows.fnRoundsComposeRow.ifacesOut == Tryz.f5.resultTypes.toList.any (Tryz.pinned.checked.prog.ifacesRec ·))) = true := by kernel_rfl
theorem fact21 : ((Rows.fnRoundsComposeRow.loopsOut == Tryz.f5.resultTypes.toList.any (Tryz.pinned.checked.prog.loopsFrom ·))) = true := by kernel_rfl
theorem fact22 : ((Rows.fnRoundsComposeRow.plainKeys == Tryz.pinned.checked.prog.plainKeys)) = true := by kernel_rfl
theorem fact23 : (Rows.fnRoundsComposeRow.shortTexts.isNone) = true := by kernel_rfl
theorem fact24 : (Tryz.pinned.checked.prog.stopsHeard) = true := by kernel_rfl
theorem fact25 : (Tryz.pinned.checked.prog.mayEnter) = true := by kernel_rfl
theorem fact26 : ((Rows.fnRoundsComposeRow.lifted == Tryz.pinned.checked.prog.liftsFinal)) = true := by kernel_rfl
theorem fact27 : ((Tryz.pinned.checked.prog.make == some Rows.fnRoundsComposeRow.make)) = true := by kernel_rfl
theorem fact28 : ((Rows.fnRoundsComposeRow.kinds == (if Rows.fnRoundsComposeRow.domain.isEmpty then [] else Tryz.f5.params.toList.map fun t => match Tryz.pinned.checked.prog.underlying t with | some (.int k) => some k | _ => none))) = true := by kernel_rfl
theorem fact29 : ((Rows.fnRoundsComposeRow.pinned == Rows.fnRoundsComposeRow.pinnedBy)) = true := by kernel_rfl
theorem fact30 : ((Rows.fnRoundsComposeRow.veiled == (Tryz.f5.params.toList ++ Rows.fnRoundsComposeSpec.plain.varTypes Tryz.pinned.checked.prog ++ Tryz.f5.resultTypes.toList).any (Tryz.pinned.checked.prog.veiledRec ·))) = true := by kernel_rfl
theorem fact31 : (Rows.fnRoundsComposeRow.veiledFits Tryz.pinned.checked.prog Tryz.f5.params.toList (Tryz.f5.params.toList ++ Rows.fnRoundsComposeSpec.plain.varTypes Tryz.pinned.checked.prog ++ Tryz.f5.resultTypes.toList)) = true := by kernel_rfl
set_option maxRecDepth 100000 in
theorem facts : joinedFacts Tryz.pinned.checked.prog 5 Tryz.f5 Rows.fnRoundsComposeSpec Rows.fnRoundsComposeRow = true := (andt (andt (andt (andt (andt (andt (andt (andt (andt (andt (andt (andt (andt (andt (andt (andt (andt (andt (andt (andt (andt (andt (andt (andt (andt (andt (andt (andt (andt (andt (andt fact0 fact1) fact2) fact3) fact4) fact5) fact6) fact7) fact8) fact9) fact10) fact11) fact12) fact13) fact14) fact15) fact16) fact17) fact18) fact19) fact20) fact21) fact22) fact23) fact24) fact25) fact26) fact27) fact28) fact29) fact30) fact31)
theorem funcN : Tryz.pinned.checked.prog.funcNamed Rows.fnRoundsComposeRow.func = some 5 := by kernel_rfl
theorem over : Rows.fnRoundsComposeRow.holds Tryz.pinned (OpenSpec.ofChange Rows.fnRoundsComposeSpec) :=
  OpenClaim.holds_of_wide 5 Tryz.f5 rfl rfl rfl rfl rfl rfl rfl ⟨rfl, rfl, rfl, rfl, rfl⟩ rfl rfl rfl rfl rfl funcN Tryz.func5 facts
    (of_decide_eq_true (by kernel_rfl)) (by unfold Func.isWrapper; first | (rw [if_pos (by decide +kernel)]; kernel_rfl) | (rw [if_neg (by decide +kernel)]; exact ⟨rfl, rfl⟩))
    (fun os started H enc _ => lifted os started H enc)
theorem proved : Rows.FnRoundsComposeSaid := over
#print axioms proved
end Go.Proofs.YtfbpfflnhfcmaaaGreat.fnRoundsCompose
