/-
  Proved: the law FnAudited returns true for every input; each argument reads afterwards as before. No conditions.
-/
import Derived.Test.YtcfhabdgiieejaaGreatF
import Derived.Test.YtcfhabdgiieejaaGreatRows
import Derived.WalkKit
import Derived.ProofKit
import Derived.OpenShut
import Derived.ShutString
import Derived.ChangeOld
import Derived.Below
namespace Go.Proofs.YtcfhabdgiieejaaGreat.fnAudited
open Go.ChangeShapes Go.WideShapes Go.ChangeAt Go.RowKit Go.AM
set_option linter.unusedVariables false

theorem own : ownKnob Tryz.prog.godebug = none := by kernel_rfl
theorem laidOut : laidOutB Tryz.prog = true := by kernel_rfl
set_option maxRecDepth 100000 in
theorem lifted (os : Os) (started : os.Started) (H : Type) (enc : TypeId × Value → H) :
    ReturnsInHanded {} Tryz.checked os 5 .any (Rows.fnAuditedSpec.pre6 enc Tryz.prog Tryz.f5 Rows.fnAuditedRow.domain false) (Rows.fnAuditedSpec.post enc Tryz.prog Tryz.f5 false true false false) := by
  refine returnsInHanded_of_change (C := Tryz.checked) own started (by kernel_rfl) Tryz.func5
    (ChangeSpec.witness6 (enc := enc) (C := Tryz.checked) false ⟨#[], #[.slice none 0 0], []⟩ 8 (by kernel_rfl) (by kernel_rfl) (by kernel_rfl) (by kernel_rfl)) ?_
  intro W base args ds gs before hval0 hW hcnd _
  have hval : ∀ (j : Nat) t v, Tryz.f5.params[j]? = some t → args[j]? = some v → Value.okWide Tryz.prog W .any base t v := hval0
  have hW' := hW
  obtain ⟨p, q, hA0, hV, rfl, hfz, hnd⟩ := hW
  have hA : DataW.TrodAll enc Tryz.prog W 0 (fun _ => true) true Tryz.f5.params.toList args.toList ds p := hA0
  rw [Tryz.params5] at hA hval
  obtain ⟨v0, vs0, d0, ds0, p0, q0, hargs, rfl, rfl, h0, r0⟩ := trodAll_cons hA
  obtain ⟨rfl, rfl, rfl⟩ := trodAll_nil r0
  obtain rfl : args = #[v0] := by cases args; simp_all
  obtain ⟨rfl, rfl⟩ := trodVars_none hV
  have k0 := h0
  have lt0 : ∀ x ∈ p0, x.block < W.heap.size := by obtain ⟨m, hm⟩ := k0; exact DataW.trod_lt m _ _ _ hm
  obtain ⟨x0, wt0, rd0⟩ := open_c Tryz.sh22 (fun fs => by rw [Tryz.underlying22]; simp) (hval 0 22 v0 rfl rfl) h0
  clear hA0 hval0
  refine (law_calls (w := W) (vals := #[v0]) (fnAudited_fn x0 wt0) (show TabsIn W from trivial) ⟨rd0, trivial⟩).mono fun e W' ⟨he, bel⟩ => ?_
  subst he
  exact ⟨_, rfl, _, _, _, [], _, [], hW', trodAll_mk1 (shut_bool Tryz.underlying4 _), (trodAll_cons_mk (Below.trod laidOut (by kernel_rfl) (of_decide_eq_true (by kernel_rfl)) k0 bel lt0) trodAll_mk0), rfl, bel.frame _, fun h => by cases h⟩
theorem andt {a b : Bool} (h : a = true) (k : b = true) : (a && b) = true := by subst h; subst k; rfl
def rankN : Nat := 18832428552156616505963164104761640627258652305419419983021100471394355906154467488077049207691436057642768402174705202383479603092139941511600677913806631248502350812268572394780499688472750618826386185112656005033819604120410770118867020432666208764564545202610566124529476688254672972554028716140171327522475846826753150231128180890868092157461747183530500770212733610502891168247749852650789172664599976595666351971082413284930201335313344562483060808325814871957944816903815349052060288761750619595025686331150058004896494998542622332743431979333093914310222890597012266538889376331262066872084790803095837812030299624844443435692502606797367316745689751835819459990161183920804977258081116206961786854393476934987454624390591109816387754293885905895071072968202959631310896300844071979820691904648685575740846135899480648543826554901447837824314694959925983959142253612382516943660705385718120210436165420758209374425036247622646215546103061518530495482018154740245693921502108263904987997574967327890944491920225415142002369076413038847530598928609985243320489908125218474779476019431607492856972948633735884349901496396900273730762900668716181226312335911938442137409014161954601078843644873217444440063512365197478160086326948243572124550145
set_option maxRecDepth 100000 in
theorem rk : ranked Tryz.pinned.checked.prog rankN = true := by kernel_rfl
set_option maxRecDepth 100000 in
theorem clo : Tryz.pinned.checked.prog.closure 5 = [5, 7, 8, 29, 31, 30, 78, 140, 80, 154, 146, 142, 242, 117, 143, 243, 141, 64, 53, 208, 238, 207, 294, 204, 149, 239, 240, 249, 241, 145, 144, 151, 250, 251, 319, 244, 147, 245, 150, 248, 247, 246, 148, 153, 252, 79, 152, 81, 155, 156, 253, 86, 165, 164, 270, 168, 274, 272, 320, 363, 163, 269, 254, 322, 321, 273, 323, 364, 200, 325, 324, 166, 271, 255, 9, 23, 65, 66, 118, 205, 206, 119, 209, 111, 210, 295, 268, 296, 48, 120, 211, 121, 212, 297, 32, 33, 83, 162, 34, 84, 85, 35, 87, 36, 88, 167, 110, 82, 157, 257, 326, 256, 259, 258, 327, 328, 329, 348, 382, 330, 365, 389, 397, 331, 366, 332, 367, 368, 391, 390, 350, 383, 346, 158, 260, 261, 54, 333, 369, 370, 344, 378, 345, 379, 380, 371, 392, 372, 381, 393, 334, 373, 394, 398, 374, 395, 335, 375, 396, 399, 336, 159, 262, 263, 160, 161, 264, 265, 266, 337, 267, 21, 10, 37, 89, 169, 90, 91, 170, 275, 276, 172, 92, 93, 171, 173, 94, 95, 174, 96, 97, 175, 277, 28, 74, 42, 134, 77, 135, 226, 315, 75, 76, 136, 227, 316, 228, 229, 234, 137, 230, 231, 232, 233, 112, 185, 280, 235, 317, 58, 138, 236, 139, 237, 318, 38, 72, 129, 217, 216, 298, 218, 299, 195, 284, 193, 283, 192, 197, 287, 285, 128, 132, 130, 219, 300, 351, 186, 220, 301, 302, 352, 384, 221, 303, 109, 106, 353, 385, 282, 339, 222, 304, 305, 187, 354, 386, 306, 131, 98, 133, 176, 52, 223, 307, 308, 356, 355, 387, 286, 312, 309, 357, 358, 310, 114, 311, 359, 360, 224, 44, 107, 189, 190, 108, 191, 313, 361, 225, 314, 362, 115, 196, 388, 278, 99, 177, 178, 179, 180, 100, 101, 181, 182, 183, 279, 184, 102, 59, 113, 194, 60, 61, 62, 11, 39, 49, 103, 40, 55, 57, 50, 104, 56, 41] := by kernel_rfl
theorem fact0 : (Rows.fnAuditedRow.wf (OpenSpec.ofChange Rows.fnAuditedSpec)) = true := by kernel_rfl
theorem fact1 : (laidOutB Tryz.pinned.checked.prog) = true := by kernel_rfl
theorem fact2 : (mapsRowed Tryz.pinned.checked.prog) = true := by kernel_rfl
theorem fact3 : (Tryz.f5.params.all (Tryz.pinned.checked.prog.readableRec ·)) = true := by kernel_rfl
theorem fact4 : (namedTie Tryz.pinned.checked.prog Rows.fnAuditedRow.named Rows.fnAuditedSpec.vars) = true := by kernel_rfl
theorem fact5 : ((Rows.fnAuditedRow.stops == [])) = true := by kernel_rfl
theorem fact6 : ((Tryz.pinned.checked.prog.stops == [])) = true := by kernel_rfl
theorem fact7 : ((Rows.fnAuditedRow.knobs == [])) = true := by kernel_rfl
theorem fact8 : ((Tryz.pinned.checked.prog.stopKnobs == [])) = true := by kernel_rfl
set_option maxRecDepth 100000 in
theorem fact9 : ((Rows.fnAuditedRow.inPlace == Tryz.pinned.checked.prog.inPlace 5)) = true := by rw [inPlace_is clo]; kernel_rfl
set_option maxRecDepth 100000 in
theorem fact10 : ((Rows.fnAuditedRow.unfollowed == Tryz.pinned.checked.prog.unfollowed 5)) = true := by rw [unfollowed_is clo]; kernel_rfl
set_option maxRecDepth 100000 in
theorem fact11 : ((Rows.fnAuditedRow.recurses == Tryz.pinned.checked.prog.recurses 5)) = true := by rw [recurses_of rk, unfollowed_is clo]; kernel_rfl
set_option maxRecDepth 100000 in
theorem fact12 : ((Rows.fnAuditedRow.named == Tryz.pinned.checked.prog.varsNamed 5)) = true := by rw [varsNamed_is clo]; kernel_rfl
theorem fact13 : ((Rows.fnAuditedRow.maps == (Tryz.f5.params.toList ++ Rows.fnAuditedSpec.plain.varTypes Tryz.pinned.checked.prog).any (Tryz.pinned.checked.prog.mapsRec ·))) = true := by kernel_rfl
theorem fact14 : ((Rows.fnAuditedRow.ifaces == (Tryz.f5.params.toList ++ Rows.fnAuditedSpec.plain.varTypes Tryz.pinned.checked.prog).any (Tryz.pinned.checked.prog.ifacesRec ·))) = true := by kernel_rfl
theorem fact15 : ((Rows.fnAuditedRow.mapsOut == Tryz.pinned.checked.prog.mapsAmong Tryz.f5.resultTypes.toList)) = true := by kernel_rfl
theorem fact16 : ((Rows.fnAuditedRow.loops == (Tryz.f5.params.toList ++ Rows.fnAuditedSpec.plain.varTypes Tryz.pinned.checked.prog).any (Tryz.pinned.checked.prog.loopsFrom ·))) = true := by kernel_rfl
theorem fact17 : ((Rows.fnAuditedRow.wideKeys == (Tryz.f5.params.toList ++ Rows.fnAuditedSpec.plain.varTypes Tryz.pinned.checked.prog ++ Tryz.f5.resultTypes.toList).any (Tryz.pinned.checked.prog.wideKeysFrom ·))) = true := by kernel_rfl
theorem fact18 : (Rows.fnAuditedSpec.vars.all (Tryz.pinned.checked.prog.varReadable ·)) = true := by kernel_rfl
theorem fact19 : (Tryz.f5.resultTypes.all (fun t => Tryz.pinned.checked.prog.readableRec t && decide (t < Tryz.pinned.checked.prog.types.size))) = true := by kernel_rfl
theorem fact20 : ((Rows.fnAuditedRow.ifacesOut == Tryz.f5.resultTypes.toList.any (Tryz.pinned.checked.prog.ifacesRec ·))) = true := by kernel_rfl
theorem fact21 : ((Rows.fnAuditedRow.loopsOut == Tryz.f5.resultTypes.toList.any (Tryz.pinned.checked.prog.loopsFrom ·))) = true := by kernel_rfl
theorem fact22 : ((Rows.fnAuditedRow.plainKeys == Tryz.pinned.checked.prog.plainKeys)) = true := by kernel_rfl
theorem fact23 : (Rows.fnAuditedRow.shortTexts.isNone) = true := by kernel_rfl
theorem fact24 : (Tryz.pinned.checked.prog.stopsHeard) = true := by kernel_rfl
theorem fact25 : (Tryz.pinned.checked.prog.mayEnter) = true := by kernel_rfl
theorem fact26 : ((Rows.fnAuditedRow.lifted == Tryz.pinned.checked.prog.liftsFinal)) = true := by kernel_rfl
theorem fact27 : ((Tryz.pinned.checked.prog.make == some Rows.fnAuditedRow.make)) = true := by kernel_rfl
theorem fact28 : ((Rows.fnAuditedRow.kinds == (if Rows.fnAuditedRow.domain.isEmpty then [] else Tryz.f5.params.toList.map fun t => match Tryz.pinned.checked.prog.underlying t with | some (.int k) => some k | _ => none))) = true := by kernel_rfl
theorem fact29 : ((Rows.fnAuditedRow.pinned == Rows.fnAuditedRow.pinnedBy)) = true := by kernel_rfl
theorem fact30 : ((Rows.fnAuditedRow.veiled == (Tryz.f5.params.toList ++ Rows.fnAuditedSpec.plain.varTypes Tryz.pinned.checked.prog ++ Tryz.f5.resultTypes.toList).any (Tryz.pinned.checked.prog.veiledRec ·))) = true := by kernel_rfl
theorem fact31 : (Rows.fnAuditedRow.veiledFits Tryz.pinned.checked.prog Tryz.f5.params.toList (Tryz.f5.params.toList ++ Rows.fnAuditedSpec.plain.varTypes Tryz.pinned.checked.prog ++ Tryz.f5.resultTypes.toList)) = true := by kernel_rfl
set_option maxRecDepth 100000 in
theorem facts : joinedFacts Tryz.pinned.checked.prog 5 Tryz.f5 Rows.fnAuditedSpec Rows.fnAuditedRow = true := (andt (andt (andt (andt (andt (andt (andt (andt (andt (andt (andt (andt (andt (andt (andt (andt (andt (andt (andt (andt (andt (andt (andt (andt (andt (andt (andt (andt (andt (andt (andt fact0 fact1) fact2) fact3) fact4) fact5) fact6) fact7) fact8) fact9) fact10) fact11) fact12) fact13) fact14) fact15) fact16) fact17) fact18) fact19) fact20) fact21) fact22) fact23) fact24) fact25) fact26) fact27) fact28) fact29) fact30) fact31)
theorem funcN : Tryz.pinned.checked.prog.funcNamed Rows.fnAuditedRow.func = some 5 := by kernel_rfl
theorem over : Rows.fnAuditedRow.holds Tryz.pinned (OpenSpec.ofChange Rows.fnAuditedSpec) :=
  OpenClaim.holds_of_wide 5 Tryz.f5 rfl rfl rfl rfl rfl rfl rfl ⟨rfl, rfl, rfl, rfl, rfl⟩ rfl rfl rfl rfl rfl funcN Tryz.func5 facts
    (of_decide_eq_true (by kernel_rfl)) (by unfold Func.isWrapper; first | (rw [if_pos (by decide +kernel)]; kernel_rfl) | (rw [if_neg (by decide +kernel)]; exact ⟨rfl, rfl⟩))
    (fun os started H enc _ => lifted os started H enc)
theorem proved : Rows.FnAuditedSaid := over
#print axioms proved
end Go.Proofs.YtcfhabdgiieejaaGreat.fnAudited
