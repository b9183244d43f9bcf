/-
  Proved: the law FnFinalCharges returns true for every input; each argument reads afterwards as before. No conditions.
-/
import Derived.Test.YtmginjngmidkbaaGreatF
import Derived.Test.YtmginjngmidkbaaGreatRows
import Derived.WalkKit
import Derived.ProofKit
import Derived.OpenShut
import Derived.ShutString
import Derived.ChangeOld
import Derived.Below
namespace Go.Proofs.YtmginjngmidkbaaGreat.fnFinalCharges
open Go.ChangeShapes Go.WideShapes Go.ChangeAt Go.RowKit Go.AM
set_option linter.unusedVariables false

theorem own : ownKnob Tryz.prog.godebug = none := by kernel_rfl
theorem laidOut : laidOutB Tryz.prog = true := by kernel_rfl
set_option maxRecDepth 100000 in
theorem lifted (os : Os) (started : os.Started) (H : Type) (enc : TypeId × Value → H) :
    ReturnsInHanded {} Tryz.checked os 4 .any (Rows.fnFinalChargesSpec.pre6 enc Tryz.prog Tryz.f4 Rows.fnFinalChargesRow.domain false) (Rows.fnFinalChargesSpec.post enc Tryz.prog Tryz.f4 false true false false) := by
  refine returnsInHanded_of_change (C := Tryz.checked) own started (by kernel_rfl) Tryz.func4
    (ChangeSpec.witness6 (enc := enc) (C := Tryz.checked) false ⟨#[], #[.slice none 0 0], []⟩ 8 (by kernel_rfl) (by kernel_rfl) (by kernel_rfl) (by kernel_rfl)) ?_
  intro W base args ds gs before hval0 hW hcnd _
  have hval : ∀ (j : Nat) t v, Tryz.f4.params[j]? = some t → args[j]? = some v → Value.okWide Tryz.prog W .any base t v := hval0
  have hW' := hW
  obtain ⟨p, q, hA0, hV, rfl, hfz, hnd⟩ := hW
  have hA : DataW.TrodAll enc Tryz.prog W 0 (fun _ => true) true Tryz.f4.params.toList args.toList ds p := hA0
  rw [Tryz.params4] at hA hval
  obtain ⟨v0, vs0, d0, ds0, p0, q0, hargs, rfl, rfl, h0, r0⟩ := trodAll_cons hA
  obtain ⟨rfl, rfl, rfl⟩ := trodAll_nil r0
  obtain rfl : args = #[v0] := by cases args; simp_all
  obtain ⟨rfl, rfl⟩ := trodVars_none hV
  have k0 := h0
  have lt0 : ∀ x ∈ p0, x.block < W.heap.size := by obtain ⟨m, hm⟩ := k0; exact DataW.trod_lt m _ _ _ hm
  obtain ⟨x0, wt0, rd0⟩ := open_c Tryz.sh22 (fun fs => by rw [Tryz.underlying22]; simp) (hval 0 22 v0 rfl rfl) h0
  clear hA0 hval0
  refine (law_calls (w := W) (vals := #[v0]) (fnFinalCharges_fn x0 wt0) (show TabsIn W from trivial) ⟨rd0, trivial⟩).mono fun e W' ⟨he, bel⟩ => ?_
  subst he
  exact ⟨_, rfl, _, _, _, [], _, [], hW', trodAll_mk1 (shut_bool Tryz.underlying4 _), (trodAll_cons_mk (Below.trod laidOut (by kernel_rfl) (of_decide_eq_true (by kernel_rfl)) k0 bel lt0) trodAll_mk0), rfl, bel.frame _, fun h => by cases h⟩
theorem andt {a b : Bool} (h : a = true) (k : b = true) : (a && b) = true := by subst h; subst k; rfl
def rankN : Nat := 12000715837368218161798338057444090979394266794202405842296985087089141807436471974598433926053148692914024964702131762669754944469904808995992655926547936678926184017420567158284694054933909373513263856490850584589743257065009330598634552260714138109743888067456436842351382086146644452584481039219526918155798255158014077242580813201282033819703749445053602746602737488248694067949587363589922289623361631224034433149817031893490048299623557984726250329783132060161724144534728125497532501870526662851925185489000202217135793581530938129295867653019775766268288513089916288411816200749782351292790705043376307664878252413744048906875141492926678074481503353546095295287224109327309124315896435675600706376784167778581316677410448907324574900970939932622711232223875846660620871752557104814429618446385942727360533254966471961008733183651769411504337084566159131175602009259314290449652887223917414940042021271865144212362010346923107023918778552655866817431865912675562420522246750507431260089428837038032054752929951519269122567856477337513704169281370980798857510926369246846086755781225903146571699684968462425655949721898237106017936647217762665585266321963608715733380397669824388400129
set_option maxRecDepth 100000 in
theorem rk : ranked Tryz.pinned.checked.prog rankN = true := by kernel_rfl
set_option maxRecDepth 100000 in
theorem clo : Tryz.pinned.checked.prog.closure 4 = [4, 8, 9, 32, 34, 33, 58, 111, 174, 113, 188, 180, 176, 249, 202, 177, 250, 175, 120, 73, 244, 245, 283, 332, 280, 183, 246, 247, 256, 248, 179, 178, 185, 257, 258, 312, 251, 181, 252, 184, 255, 254, 253, 182, 187, 259, 112, 186, 114, 189, 190, 260, 126, 210, 209, 290, 213, 294, 292, 313, 342, 208, 289, 261, 315, 314, 293, 316, 343, 344, 318, 317, 211, 291, 262, 25, 63, 121, 122, 203, 281, 282, 204, 284, 132, 285, 333, 288, 334, 79, 205, 286, 206, 287, 335, 64, 65, 123, 207, 66, 124, 125, 67, 127, 68, 128, 212, 131, 115, 191, 264, 319, 263, 266, 265, 320, 321, 322, 345, 363, 323, 346, 364, 376, 324, 347, 325, 348, 349, 366, 365, 377, 380, 350, 192, 267, 268, 74, 326, 351, 352, 353, 367, 354, 368, 369, 355, 370, 356, 371, 372, 327, 357, 373, 378, 358, 374, 328, 359, 375, 379, 329, 193, 269, 270, 194, 195, 271, 272, 273, 330, 274, 16, 48, 35, 82, 137, 83, 84, 138, 220, 221, 140, 85, 86, 139, 141, 87, 50, 108, 88, 89, 142, 222, 15, 44, 36, 103, 47, 104, 163, 240, 45, 46, 105, 164, 241, 165, 166, 171, 106, 167, 168, 169, 170, 107, 172, 242, 173, 243, 76, 18, 53, 49, 20, 55, 91, 149, 234, 229, 303, 235, 231, 199, 276, 219, 296, 218, 201, 279, 277, 146, 151, 150, 51, 109, 110, 214, 236, 306, 307, 339, 360, 237, 308, 136, 134, 340, 361, 275, 331, 238, 309, 310, 215, 341, 362, 311, 145, 37, 90, 143, 72, 144, 223, 224, 298, 297, 337, 278, 228, 225, 299, 300, 226, 118, 227, 301, 302, 147, 81, 117, 197, 198, 135, 217, 230, 304, 148, 232, 305, 119, 200, 338, 233, 17, 52, 19, 54, 21, 56, 57, 22] := by kernel_rfl
theorem fact0 : (Rows.fnFinalChargesRow.wf (OpenSpec.ofChange Rows.fnFinalChargesSpec)) = true := by kernel_rfl
theorem fact1 : (laidOutB Tryz.pinned.checked.prog) = true := by kernel_rfl
theorem fact2 : (mapsRowed Tryz.pinned.checked.prog) = true := by kernel_rfl
theorem fact3 : (Tryz.f4.params.all (Tryz.pinned.checked.prog.readableRec ·)) = true := by kernel_rfl
theorem fact4 : (namedTie Tryz.pinned.checked.prog Rows.fnFinalChargesRow.named Rows.fnFinalChargesSpec.vars) = true := by kernel_rfl
theorem fact5 : ((Rows.fnFinalChargesRow.stops == [])) = true := by kernel_rfl
theorem fact6 : ((Tryz.pinned.checked.prog.stops == [])) = true := by kernel_rfl
theorem fact7 : ((Rows.fnFinalChargesRow.knobs == [])) = true := by kernel_rfl
theorem fact8 : ((Tryz.pinned.checked.prog.stopKnobs == [])) = true := by kernel_rfl
set_option maxRecDepth 100000 in
theorem fact9 : ((Rows.fnFinalChargesRow.inPlace == Tryz.pinned.checked.prog.inPlace 4)) = true := by rw [inPlace_is clo]; kernel_rfl
set_option maxRecDepth 100000 in
theorem fact10 : ((Rows.fnFinalChargesRow.unfollowed == Tryz.pinned.checked.prog.unfollowed 4)) = true := by rw [unfollowed_is clo]; kernel_rfl
set_option maxRecDepth 100000 in
theorem fact11 : ((Rows.fnFinalChargesRow.recurses == Tryz.pinned.checked.prog.recurses 4)) = true := by rw [recurses_of rk, unfollowed_is clo]; kernel_rfl
set_option maxRecDepth 100000 in
theorem fact12 : ((Rows.fnFinalChargesRow.named == Tryz.pinned.checked.prog.varsNamed 4)) = true := by rw [varsNamed_is clo]; kernel_rfl
theorem fact13 : ((Rows.fnFinalChargesRow.maps == (Tryz.f4.params.toList ++ Rows.fnFinalChargesSpec.plain.varTypes Tryz.pinned.checked.prog).any (Tryz.pinned.checked.prog.mapsRec ·))) = true := by kernel_rfl
theorem fact14 : ((Rows.fnFinalChargesRow.ifaces == (Tryz.f4.params.toList ++ Rows.fnFinalChargesSpec.plain.varTypes Tryz.pinned.checked.prog).any (Tryz.pinned.checked.prog.ifacesRec ·))) = true := by kernel_rfl
theorem fact15 : ((Rows.fnFinalChargesRow.mapsOut == Tryz.pinned.checked.prog.mapsAmong Tryz.f4.resultTypes.toList)) = true := by kernel_rfl
theorem fact16 : ((Rows.fnFinalChargesRow.loops == (Tryz.f4.params.toList ++ Rows.fnFinalChargesSpec.plain.varTypes Tryz.pinned.checked.prog).any (Tryz.pinned.checked.prog.loopsFrom ·))) = true := by kernel_rfl
theorem fact17 : ((Rows.fnFinalChargesRow.wideKeys == (Tryz.f4.params.toList ++ Rows.fnFinalChargesSpec.plain.varTypes Tryz.pinned.checked.prog ++ Tryz.f4.resultTypes.toList).any (Tryz.pinned.checked.prog.wideKeysFrom ·))) = true := by kernel_rfl
theorem fact18 : (Rows.fnFinalChargesSpec.vars.all (Tryz.pinned.checked.prog.varReadable ·)) = true := by kernel_rfl
theorem fact19 : (Tryz.f4.resultTypes.all (fun t => Tryz.pinned.checked.prog.readableRec t && decide (t < Tryz.pinned.checked.prog.types.size))) = true := by kernel_rfl
theorem fact20 : ((Rows.fnFinalChargesRow.ifacesOut == Tryz.f4.resultTypes.toList.any (Tryz.pinned.checked.prog.ifacesRec ·))) = true := by kernel_rfl
theorem fact21 : ((Rows.fnFinalChargesRow.loopsOut == Tryz.f4.resultTypes.toList.any (Tryz.pinned.checked.prog.loopsFrom ·))) = true := by kernel_rfl
theorem fact22 : ((Rows.fnFinalChargesRow.plainKeys == Tryz.pinned.checked.prog.plainKeys)) = true := by kernel_rfl
theorem fact23 : (Rows.fnFinalChargesRow.shortTexts.isNone) = true := by kernel_rfl
theorem fact24 : (Tryz.pinned.checked.prog.stopsHeard) = true := by kernel_rfl
theorem fact25 : (Tryz.pinned.checked.prog.mayEnter) = true := by kernel_rfl
theorem fact26 : ((Rows.fnFinalChargesRow.lifted == Tryz.pinned.checked.prog.liftsFinal)) = true := by kernel_rfl
theorem fact27 : ((Tryz.pinned.checked.prog.make == some Rows.fnFinalChargesRow.make)) = true := by kernel_rfl
theorem fact28 : ((Rows.fnFinalChargesRow.kinds == (if Rows.fnFinalChargesRow.domain.isEmpty then [] else Tryz.f4.params.toList.map fun t => match Tryz.pinned.checked.prog.underlying t with | some (.int k) => some k | _ => none))) = true := by kernel_rfl
theorem fact29 : ((Rows.fnFinalChargesRow.pinned == Rows.fnFinalChargesRow.pinnedBy)) = true := by kernel_rfl
theorem fact30 : ((Rows.fnFinalChargesRow.veiled == (Tryz.f4.params.toList ++ Rows.fnFinalChargesSpec.plain.varTypes Tryz.pinned.checked.prog ++ Tryz.f4.resultTypes.toList).any (Tryz.pinned.checked.prog.veiledRec ·))) = true := by kernel_rfl
theorem fact31 : (Rows.fnFinalChargesRow.veiledFits Tryz.pinned.checked.prog Tryz.f4.params.toList (Tryz.f4.params.toList ++ Rows.fnFinalChargesSpec.plain.varTypes Tryz.pinned.checked.prog ++ Tryz.f4.resultTypes.toList)) = true := by kernel_rfl
set_option maxRecDepth 100000 in
theorem facts : joinedFacts Tryz.pinned.checked.prog 4 Tryz.f4 Rows.fnFinalChargesSpec Rows.fnFinalChargesRow = true := (andt (andt (andt (andt (andt (andt (andt (andt (andt (andt (andt (andt (andt (andt (andt (andt (andt (andt (andt (andt (andt (andt (andt (andt (andt (andt (andt (andt (andt (andt (andt fact0 fact1) fact2) fact3) fact4) fact5) fact6) fact7) fact8) fact9) fact10) fact11) fact12) fact13) fact14) fact15) fact16) fact17) fact18) fact19) fact20) fact21) fact22) fact23) fact24) fact25) fact26) fact27) fact28) fact29) fact30) fact31)
theorem funcN : Tryz.pinned.checked.prog.funcNamed Rows.fnFinalChargesRow.func = some 4 := by kernel_rfl
theorem over : Rows.fnFinalChargesRow.holds Tryz.pinned (OpenSpec.ofChange Rows.fnFinalChargesSpec) :=
  OpenClaim.holds_of_wide 4 Tryz.f4 rfl rfl rfl rfl rfl rfl rfl ⟨rfl, rfl, rfl, rfl, rfl⟩ rfl rfl rfl rfl rfl funcN Tryz.func4 facts
    (of_decide_eq_true (by kernel_rfl)) (by unfold Func.isWrapper; first | (rw [if_pos (by decide +kernel)]; kernel_rfl) | (rw [if_neg (by decide +kernel)]; exact ⟨rfl, rfl⟩))
    (fun os started H enc _ => lifted os started H enc)
theorem proved : Rows.FnFinalChargesSaid := over
#print axioms proved
end Go.Proofs.YtmginjngmidkbaaGreat.fnFinalCharges
