/-
  Proved: the law FnEavesdropping returns true for every input; each argument reads afterwards as before. No conditions.
-/
import Derived.Test.YtljhooecmjejiaaGreatF
import Derived.Test.YtljhooecmjejiaaGreatRows
import Derived.WalkKit
import Derived.ProofKit
import Derived.OpenShut
import Derived.ShutString
import Derived.ChangeOld
import Derived.Below
namespace Go.Proofs.YtljhooecmjejiaaGreat.fnEavesdropping
open Go.ChangeShapes Go.WideShapes Go.ChangeAt Go.RowKit Go.AM
set_option linter.unusedVariables false

theorem own : ownKnob Tryz.prog.godebug = none := by kernel_rfl
theorem laidOut : laidOutB Tryz.prog = true := by kernel_rfl
set_option maxRecDepth 100000 in
theorem lifted (os : Os) (started : os.Started) (H : Type) (enc : TypeId × Value → H) :
    ReturnsInHanded {} Tryz.checked os 6 .any (Rows.fnEavesdroppingSpec.pre6 enc Tryz.prog Tryz.f6 Rows.fnEavesdroppingRow.domain false) (Rows.fnEavesdroppingSpec.post enc Tryz.prog Tryz.f6 false true false false) := by
  refine returnsInHanded_of_change (C := Tryz.checked) own started (by kernel_rfl) Tryz.func6
    (ChangeSpec.witness6 (enc := enc) (C := Tryz.checked) false ⟨#[], #[.slice none 0 0], []⟩ 8 (by kernel_rfl) (by kernel_rfl) (by kernel_rfl) (by kernel_rfl)) ?_
  intro W base args ds gs before hval0 hW hcnd _
  have hval : ∀ (j : Nat) t v, Tryz.f6.params[j]? = some t → args[j]? = some v → Value.okWide Tryz.prog W .any base t v := hval0
  have hW' := hW
  obtain ⟨p, q, hA0, hV, rfl, hfz, hnd⟩ := hW
  have hA : DataW.TrodAll enc Tryz.prog W 0 (fun _ => true) true Tryz.f6.params.toList args.toList ds p := hA0
  rw [Tryz.params6] at hA hval
  obtain ⟨v0, vs0, d0, ds0, p0, q0, hargs, rfl, rfl, h0, r0⟩ := trodAll_cons hA
  obtain ⟨rfl, rfl, rfl⟩ := trodAll_nil r0
  obtain rfl : args = #[v0] := by cases args; simp_all
  obtain ⟨rfl, rfl⟩ := trodVars_none hV
  have k0 := h0
  have lt0 : ∀ x ∈ p0, x.block < W.heap.size := by obtain ⟨m, hm⟩ := k0; exact DataW.trod_lt m _ _ _ hm
  obtain ⟨x0, wt0, rd0⟩ := open_c Tryz.sh22 (fun fs => by rw [Tryz.underlying22]; simp) (hval 0 22 v0 rfl rfl) h0
  clear hA0 hval0
  refine (law_calls (w := W) (vals := #[v0]) (fnEavesdropping_fn x0 wt0) (show TabsIn W from trivial) ⟨rd0, trivial⟩).mono fun e W' ⟨he, bel⟩ => ?_
  subst he
  exact ⟨_, rfl, _, _, _, [], _, [], hW', trodAll_mk1 (shut_bool Tryz.underlying4 _), (trodAll_cons_mk (Below.trod laidOut (by kernel_rfl) (of_decide_eq_true (by kernel_rfl)) k0 bel lt0) trodAll_mk0), rfl, bel.frame _, fun h => by cases h⟩
theorem andt {a b : Bool} (h : a = true) (k : b = true) : (a && b) = true := by subst h; subst k; rfl
def rankN : Nat := 12885670512521437928679274625968635026236746442749523874296221117111893974911494182130204111303788998489946930324589896860649264237224565791040301333048034100926653766122751445801133350776049753311500735403072012869821310387073732619930226730569279471037493455672003365682830712537191436093639982392108182763821854747465314109321374518753081330219252601609749153989473532934376091539024080105354530040595625459307255959841055616053669471702097683217984448223050642853726731675147962648627507128759756530477554115921499949428734327477642407642810368114784116113037907552192868294069909214841391666332041899260616671285642307358239185535462245489147648540327740601610047614340186293756090182473581458253257809824047649399436161342746862537235358850929918690804777318585874858303505697551431439347466625882907274013981301614593188374961258050399017124938590420956647588910691094471751430775519691068944287353055633462553899737796397544849627149825383550161969589747903362434068857361014447905413970249821114280549507034693065369259964410038126055058850184676718256783951930156288986757877965589900813143427241552795947188548112849622827862314550117321343024984020048278390239568627679747747606917311104001
set_option maxRecDepth 100000 in
theorem rk : ranked Tryz.pinned.checked.prog rankN = true := by kernel_rfl
set_option maxRecDepth 100000 in
theorem clo : Tryz.pinned.checked.prog.closure 6 = [6, 7, 33, 41, 81, 42, 90, 73, 124, 74, 133, 130, 126, 196, 185, 127, 197, 125, 122, 58, 190, 191, 246, 294, 243, 192, 193, 194, 251, 195, 129, 128, 198, 252, 253, 298, 199, 131, 200, 201, 254, 203, 202, 132, 204, 255, 150, 225, 151, 226, 227, 277, 87, 36, 148, 223, 166, 236, 292, 313, 340, 147, 222, 278, 315, 314, 341, 316, 342, 343, 318, 317, 344, 215, 279, 280, 72, 57, 123, 186, 244, 245, 187, 247, 141, 248, 295, 242, 296, 80, 188, 249, 189, 250, 297, 233, 319, 345, 364, 38, 85, 86, 320, 346, 321, 347, 365, 140, 152, 228, 282, 322, 281, 284, 283, 323, 324, 325, 348, 366, 326, 349, 367, 379, 327, 350, 328, 351, 352, 369, 368, 380, 383, 353, 229, 285, 286, 289, 329, 354, 355, 356, 370, 357, 371, 372, 358, 373, 359, 374, 375, 330, 360, 376, 381, 361, 377, 331, 362, 378, 382, 332, 230, 287, 288, 231, 232, 290, 18, 61, 108, 291, 142, 216, 34, 82, 143, 88, 149, 224, 276, 35, 83, 37, 60, 84, 144, 217, 146, 221, 275, 220, 169, 237, 293, 218, 274, 312, 145, 219, 167, 39, 40, 89] := by kernel_rfl
theorem fact0 : (Rows.fnEavesdroppingRow.wf (OpenSpec.ofChange Rows.fnEavesdroppingSpec)) = true := by kernel_rfl
theorem fact1 : (laidOutB Tryz.pinned.checked.prog) = true := by kernel_rfl
theorem fact2 : (mapsRowed Tryz.pinned.checked.prog) = true := by kernel_rfl
theorem fact3 : (Tryz.f6.params.all (Tryz.pinned.checked.prog.readableRec ·)) = true := by kernel_rfl
theorem fact4 : (namedTie Tryz.pinned.checked.prog Rows.fnEavesdroppingRow.named Rows.fnEavesdroppingSpec.vars) = true := by kernel_rfl
theorem fact5 : ((Rows.fnEavesdroppingRow.stops == [])) = true := by kernel_rfl
theorem fact6 : ((Tryz.pinned.checked.prog.stops == [])) = true := by kernel_rfl
theorem fact7 : ((Rows.fnEavesdroppingRow.knobs == [])) = true := by kernel_rfl
theorem fact8 : ((Tryz.pinned.checked.prog.stopKnobs == [])) = true := by kernel_rfl
set_option maxRecDepth 100000 in
theorem fact9 : ((Rows.fnEavesdroppingRow.inPlace == Tryz.pinned.checked.prog.inPlace 6)) = true := by rw [inPlace_is clo]; kernel_rfl
set_option maxRecDepth 100000 in
theorem fact10 : ((Rows.fnEavesdroppingRow.unfollowed == Tryz.pinned.checked.prog.unfollowed 6)) = true := by rw [unfollowed_is clo]; kernel_rfl
set_option maxRecDepth 100000 in
theorem fact11 : ((Rows.fnEavesdroppingRow.recurses == Tryz.pinned.checked.prog.recurses 6)) = true := by rw [recurses_of rk, unfollowed_is clo]; kernel_rfl
set_option maxRecDepth 100000 in
theorem fact12 : ((Rows.fnEavesdroppingRow.named == Tryz.pinned.checked.prog.varsNamed 6)) = true := by rw [varsNamed_is clo]; kernel_rfl
theorem fact13 : ((Rows.fnEavesdroppingRow.maps == (Tryz.f6.params.toList ++ Rows.fnEavesdroppingSpec.plain.varTypes Tryz.pinned.checked.prog).any (Tryz.pinned.checked.prog.mapsRec ·))) = true := by kernel_rfl
theorem fact14 : ((Rows.fnEavesdroppingRow.ifaces == (Tryz.f6.params.toList ++ Rows.fnEavesdroppingSpec.plain.varTypes Tryz.pinned.checked.prog).any (Tryz.pinned.checked.prog.ifacesRec ·))) = true := by kernel_rfl
theorem fact15 : ((Rows.fnEavesdroppingRow.mapsOut == Tryz.pinned.checked.prog.mapsAmong Tryz.f6.resultTypes.toList)) = true := by kernel_rfl
theorem fact16 : ((Rows.fnEavesdroppingRow.loops == (Tryz.f6.params.toList ++ Rows.fnEavesdroppingSpec.plain.varTypes Tryz.pinned.checked.prog).any (Tryz.pinned.checked.prog.loopsFrom ·))) = true := by kernel_rfl
theorem fact17 : ((Rows.fnEavesdroppingRow.wideKeys == (Tryz.f6.params.toList ++ Rows.fnEavesdroppingSpec.plain.varTypes Tryz.pinned.checked.prog ++ Tryz.f6.resultTypes.toList).any (Tryz.pinned.checked.prog.wideKeysFrom ·))) = true := by kernel_rfl
theorem fact18 : (Rows.fnEavesdroppingSpec.vars.all (Tryz.pinned.checked.prog.varReadable ·)) = true := by kernel_rfl
theorem fact19 : (Tryz.f6.resultTypes.all (fun t => Tryz.pinned.checked.prog.readableRec t && decide (t < Tryz.pinned.checked.prog.types.size))) = true := by kernel_rfl
theorem fact20 : ((Rows.fnEavesdroppingRow.ifacesOut == Tryz.f6.resultTypes.toList.any (Tryz.pinned.checked.prog.ifacesRec ·))) = true := by kernel_rfl
theorem fact21 : ((Rows.fnEavesdroppingRow.loopsOut == Tryz.f6.resultTypes.toList.any (Tryz.pinned.checked.prog.loopsFrom ·))) = true := by kernel_rfl
theorem fact22 : ((Rows.fnEavesdroppingRow.plainKeys == Tryz.pinned.checked.prog.plainKeys)) = true := by kernel_rfl
theorem fact23 : (Rows.fnEavesdroppingRow.shortTexts.isNone) = true := by kernel_rfl
theorem fact24 : (Tryz.pinned.checked.prog.stopsHeard) = true := by kernel_rfl
theorem fact25 : (Tryz.pinned.checked.prog.mayEnter) = true := by kernel_rfl
theorem fact26 : ((Rows.fnEavesdroppingRow.lifted == Tryz.pinned.checked.prog.liftsFinal)) = true := by kernel_rfl
theorem fact27 : ((Tryz.pinned.checked.prog.make == some Rows.fnEavesdroppingRow.make)) = true := by kernel_rfl
theorem fact28 : ((Rows.fnEavesdroppingRow.kinds == (if Rows.fnEavesdroppingRow.domain.isEmpty then [] else Tryz.f6.params.toList.map fun t => match Tryz.pinned.checked.prog.underlying t with | some (.int k) => some k | _ => none))) = true := by kernel_rfl
theorem fact29 : ((Rows.fnEavesdroppingRow.pinned == Rows.fnEavesdroppingRow.pinnedBy)) = true := by kernel_rfl
theorem fact30 : ((Rows.fnEavesdroppingRow.veiled == (Tryz.f6.params.toList ++ Rows.fnEavesdroppingSpec.plain.varTypes Tryz.pinned.checked.prog ++ Tryz.f6.resultTypes.toList).any (Tryz.pinned.checked.prog.veiledRec ·))) = true := by kernel_rfl
theorem fact31 : (Rows.fnEavesdroppingRow.veiledFits Tryz.pinned.checked.prog Tryz.f6.params.toList (Tryz.f6.params.toList ++ Rows.fnEavesdroppingSpec.plain.varTypes Tryz.pinned.checked.prog ++ Tryz.f6.resultTypes.toList)) = true := by kernel_rfl
set_option maxRecDepth 100000 in
theorem facts : joinedFacts Tryz.pinned.checked.prog 6 Tryz.f6 Rows.fnEavesdroppingSpec Rows.fnEavesdroppingRow = true := (andt (andt (andt (andt (andt (andt (andt (andt (andt (andt (andt (andt (andt (andt (andt (andt (andt (andt (andt (andt (andt (andt (andt (andt (andt (andt (andt (andt (andt (andt (andt fact0 fact1) fact2) fact3) fact4) fact5) fact6) fact7) fact8) fact9) fact10) fact11) fact12) fact13) fact14) fact15) fact16) fact17) fact18) fact19) fact20) fact21) fact22) fact23) fact24) fact25) fact26) fact27) fact28) fact29) fact30) fact31)
theorem funcN : Tryz.pinned.checked.prog.funcNamed Rows.fnEavesdroppingRow.func = some 6 := by kernel_rfl
theorem over : Rows.fnEavesdroppingRow.holds Tryz.pinned (OpenSpec.ofChange Rows.fnEavesdroppingSpec) :=
  OpenClaim.holds_of_wide 6 Tryz.f6 rfl rfl rfl rfl rfl rfl rfl ⟨rfl, rfl, rfl, rfl, rfl⟩ rfl rfl rfl rfl rfl funcN Tryz.func6 facts
    (of_decide_eq_true (by kernel_rfl)) (by unfold Func.isWrapper; first | (rw [if_pos (by decide +kernel)]; kernel_rfl) | (rw [if_neg (by decide +kernel)]; exact ⟨rfl, rfl⟩))
    (fun os started H enc _ => lifted os started H enc)
theorem proved : Rows.FnEavesdroppingSaid := over
#print axioms proved
end Go.Proofs.YtljhooecmjejiaaGreat.fnEavesdropping
