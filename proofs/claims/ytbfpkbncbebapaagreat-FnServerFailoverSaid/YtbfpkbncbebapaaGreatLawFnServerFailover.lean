/-
  Proved: the law FnServerFailover returns true for every input; each argument reads afterwards as before. No conditions.
-/
import Derived.Test.YtbfpkbncbebapaaGreatF
import Derived.Test.YtbfpkbncbebapaaGreatRows
import Derived.WalkKit
import Derived.ProofKit
import Derived.OpenShut
import Derived.ShutString
import Derived.ChangeOld
import Derived.Below
namespace Go.Proofs.YtbfpkbncbebapaaGreat.fnServerFailover
open Go.ChangeShapes Go.WideShapes Go.ChangeAt Go.RowKit Go.AM
set_option linter.unusedVariables false

theorem own : ownKnob Tryz.prog.godebug = none := by kernel_rfl
theorem laidOut : laidOutB Tryz.prog = true := by kernel_rfl
set_option maxRecDepth 100000 in
theorem lifted (os : Os) (started : os.Started) (H : Type) (enc : TypeId × Value → H) :
    ReturnsInHanded {} Tryz.checked os 3 .any (Rows.fnServerFailoverSpec.pre6 enc Tryz.prog Tryz.f3 Rows.fnServerFailoverRow.domain false) (Rows.fnServerFailoverSpec.post enc Tryz.prog Tryz.f3 false true false false) := by
  refine returnsInHanded_of_change (C := Tryz.checked) own started (by kernel_rfl) Tryz.func3
    (ChangeSpec.witness6 (enc := enc) (C := Tryz.checked) false ⟨#[], #[.slice none 0 0], []⟩ 8 (by kernel_rfl) (by kernel_rfl) (by kernel_rfl) (by kernel_rfl)) ?_
  intro W base args ds gs before hval0 hW hcnd _
  have hval : ∀ (j : Nat) t v, Tryz.f3.params[j]? = some t → args[j]? = some v → Value.okWide Tryz.prog W .any base t v := hval0
  have hW' := hW
  obtain ⟨p, q, hA0, hV, rfl, hfz, hnd⟩ := hW
  have hA : DataW.TrodAll enc Tryz.prog W 0 (fun _ => true) true Tryz.f3.params.toList args.toList ds p := hA0
  rw [Tryz.params3] at hA hval
  obtain ⟨v0, vs0, d0, ds0, p0, q0, hargs, rfl, rfl, h0, r0⟩ := trodAll_cons hA
  obtain ⟨rfl, rfl, rfl⟩ := trodAll_nil r0
  obtain rfl : args = #[v0] := by cases args; simp_all
  obtain ⟨rfl, rfl⟩ := trodVars_none hV
  have k0 := h0
  have lt0 : ∀ x ∈ p0, x.block < W.heap.size := by obtain ⟨m, hm⟩ := k0; exact DataW.trod_lt m _ _ _ hm
  obtain ⟨x0, wt0, rd0⟩ := open_c Tryz.sh22 (fun fs => by rw [Tryz.underlying22]; simp) (hval 0 22 v0 rfl rfl) h0
  clear hA0 hval0
  refine (law_calls (w := W) (vals := #[v0]) (fnServerFailover_fn x0 wt0) (show TabsIn W from trivial) ⟨rd0, trivial⟩).mono fun e W' ⟨he, bel⟩ => ?_
  subst he
  exact ⟨_, rfl, _, _, _, [], _, [], hW', trodAll_mk1 (shut_bool Tryz.underlying4 _), (trodAll_cons_mk (Below.trod laidOut (by kernel_rfl) (of_decide_eq_true (by kernel_rfl)) k0 bel lt0) trodAll_mk0), rfl, bel.frame _, fun h => by cases h⟩
theorem andt {a b : Bool} (h : a = true) (k : b = true) : (a && b) = true := by subst h; subst k; rfl
def rankN : Nat := 16334527959540997172109524312283470304280965772002136020154791720456442689615710083736959086012077180731294204027931854730373052208343326863616731525354551961734001130710120897146299116018670393921419781338618461195388860351808735532889751610470743342167507051753944625545361635607923783564543162402509970961717190096576721914790350141053390276097980664480195244055935797957188078570342299370194996882879245260442223262677067082622162495802437816746094065084393581249165689554791350494675305863012998991922505703038137075172239305413389151211638197187393229867134289620037424479104015186518781682314639470789744868125846492033567017848891946825881275256990765572196074389719037969227663338353136409731562379026857856214955878869678608385842364383186037996608137385537305298158446195467151565097580056246198919969720381691928856633310310011934566248067316082720387979657285785459408399959200453344741721219861093058852063055516718439019609267327128693124216117229025570941851293891770961677729803410303719264607295082731010622231672561910755620278948112566471425353225232358350629837637170875613264942125904178213142973957335831023202960421513258482971260999279351193220561119056665833072399923943216622185657959135806178576671179777
set_option maxRecDepth 100000 in
theorem rk : ranked Tryz.pinned.checked.prog rankN = true := by kernel_rfl
set_option maxRecDepth 100000 in
theorem clo : Tryz.pinned.checked.prog.closure 3 = [3, 10, 11, 45, 47, 46, 94, 70, 135, 71, 144, 141, 137, 213, 202, 138, 214, 136, 133, 55, 207, 208, 268, 318, 265, 209, 210, 211, 273, 212, 140, 139, 215, 274, 275, 322, 216, 142, 217, 218, 276, 220, 219, 143, 221, 277, 159, 233, 160, 234, 235, 294, 169, 249, 248, 312, 186, 258, 314, 334, 358, 247, 311, 295, 336, 335, 315, 337, 359, 360, 339, 338, 250, 313, 296, 43, 69, 54, 134, 203, 266, 267, 204, 269, 154, 270, 319, 264, 320, 79, 205, 271, 206, 272, 321, 99, 100, 166, 246, 101, 167, 168, 102, 170, 103, 171, 251, 153, 161, 236, 298, 340, 297, 300, 299, 341, 342, 343, 361, 376, 344, 362, 377, 389, 345, 363, 346, 364, 365, 379, 378, 390, 393, 366, 237, 301, 302, 91, 347, 367, 368, 369, 380, 370, 381, 382, 371, 383, 372, 384, 385, 348, 373, 386, 391, 374, 387, 349, 375, 388, 392, 350, 238, 303, 304, 239, 240, 305, 15, 58, 121, 306, 12, 13, 48, 106, 176, 107, 108, 177, 188, 187, 123, 109, 59, 122, 124, 110, 84, 156, 111, 112, 178, 256, 22, 63, 57, 126, 65, 127, 190, 260, 56, 64, 128, 191, 261, 192, 193, 198, 129, 194, 195, 196, 197, 155, 199, 262, 200, 263, 93, 34, 87, 83, 36, 89, 49, 72, 146, 223, 222, 278, 224, 279, 244, 308, 255, 317, 254, 189, 259, 309, 145, 149, 147, 85, 157, 158, 225, 226, 280, 281, 323, 353, 227, 282, 175, 173, 324, 354, 307, 351, 228, 283, 284, 232, 325, 355, 285, 148, 113, 150, 179, 90, 229, 286, 287, 327, 326, 356, 310, 291, 288, 328, 329, 289, 164, 290, 330, 331, 230, 105, 163, 242, 243, 174, 253, 292, 332, 231, 293, 333, 165, 245, 357, 257, 114, 180, 181, 182, 183, 115, 116, 16, 184, 62, 125, 18, 117, 14, 50, 118, 51, 119, 60, 82, 30, 20, 61, 19, 52, 53, 120, 185, 17, 21, 23, 66, 130, 131, 201, 67, 77, 78, 132, 37, 68] := by kernel_rfl
theorem fact0 : (Rows.fnServerFailoverRow.wf (OpenSpec.ofChange Rows.fnServerFailoverSpec)) = true := by kernel_rfl
theorem fact1 : (laidOutB Tryz.pinned.checked.prog) = true := by kernel_rfl
theorem fact2 : (mapsRowed Tryz.pinned.checked.prog) = true := by kernel_rfl
theorem fact3 : (Tryz.f3.params.all (Tryz.pinned.checked.prog.readableRec ·)) = true := by kernel_rfl
theorem fact4 : (namedTie Tryz.pinned.checked.prog Rows.fnServerFailoverRow.named Rows.fnServerFailoverSpec.vars) = true := by kernel_rfl
theorem fact5 : ((Rows.fnServerFailoverRow.stops == [])) = true := by kernel_rfl
theorem fact6 : ((Tryz.pinned.checked.prog.stops == [])) = true := by kernel_rfl
theorem fact7 : ((Rows.fnServerFailoverRow.knobs == [])) = true := by kernel_rfl
theorem fact8 : ((Tryz.pinned.checked.prog.stopKnobs == [])) = true := by kernel_rfl
set_option maxRecDepth 100000 in
theorem fact9 : ((Rows.fnServerFailoverRow.inPlace == Tryz.pinned.checked.prog.inPlace 3)) = true := by rw [inPlace_is clo]; kernel_rfl
set_option maxRecDepth 100000 in
theorem fact10 : ((Rows.fnServerFailoverRow.unfollowed == Tryz.pinned.checked.prog.unfollowed 3)) = true := by rw [unfollowed_is clo]; kernel_rfl
set_option maxRecDepth 100000 in
theorem fact11 : ((Rows.fnServerFailoverRow.recurses == Tryz.pinned.checked.prog.recurses 3)) = true := by rw [recurses_of rk, unfollowed_is clo]; kernel_rfl
set_option maxRecDepth 100000 in
theorem fact12 : ((Rows.fnServerFailoverRow.named == Tryz.pinned.checked.prog.varsNamed 3)) = true := by rw [varsNamed_is clo]; kernel_rfl
theorem fact13 : ((Rows.fnServerFailoverRow.maps == (Tryz.f3.params.toList ++ Rows.fnServerFailoverSpec.plain.varTypes Tryz.pinned.checked.prog).any (Tryz.pinned.checked.prog.mapsRec ·))) = true := by kernel_rfl
theorem fact14 : ((Rows.fnServerFailoverRow.ifaces == (Tryz.f3.params.toList ++ Rows.fnServerFailoverSpec.plain.varTypes Tryz.pinned.checked.prog).any (Tryz.pinned.checked.prog.ifacesRec ·))) = true := by kernel_rfl
theorem fact15 : ((Rows.fnServerFailoverRow.mapsOut == Tryz.pinned.checked.prog.mapsAmong Tryz.f3.resultTypes.toList)) = true := by kernel_rfl
theorem fact16 : ((Rows.fnServerFailoverRow.loops == (Tryz.f3.params.toList ++ Rows.fnServerFailoverSpec.plain.varTypes Tryz.pinned.checked.prog).any (Tryz.pinned.checked.prog.loopsFrom ·))) = true := by kernel_rfl
theorem fact17 : ((Rows.fnServerFailoverRow.wideKeys == (Tryz.f3.params.toList ++ Rows.fnServerFailoverSpec.plain.varTypes Tryz.pinned.checked.prog ++ Tryz.f3.resultTypes.toList).any (Tryz.pinned.checked.prog.wideKeysFrom ·))) = true := by kernel_rfl
theorem fact18 : (Rows.fnServerFailoverSpec.vars.all (Tryz.pinned.checked.prog.varReadable ·)) = true := by kernel_rfl
theorem fact19 : (Tryz.f3.resultTypes.all (fun t => Tryz.pinned.checked.prog.readableRec t && decide (t < Tryz.pinned.checked.prog.types.size))) = true := by kernel_rfl
theorem fact20 : ((Rows.fnServerFailoverRow.ifacesOut == Tryz.f3.resultTypes.toList.any (Tryz.pinned.checked.prog.ifacesRec ·))) = true := by kernel_rfl
theorem fact21 : ((Rows.fnServerFailoverRow.loopsOut == Tryz.f3.resultTypes.toList.any (Tryz.pinned.checked.prog.loopsFrom ·))) = true := by kernel_rfl
theorem fact22 : ((Rows.fnServerFailoverRow.plainKeys == Tryz.pinned.checked.prog.plainKeys)) = true := by kernel_rfl
theorem fact23 : (Rows.fnServerFailoverRow.shortTexts.isNone) = true := by kernel_rfl
theorem fact24 : (Tryz.pinned.checked.prog.stopsHeard) = true := by kernel_rfl
theorem fact25 : (Tryz.pinned.checked.prog.mayEnter) = true := by kernel_rfl
theorem fact26 : ((Rows.fnServerFailoverRow.lifted == Tryz.pinned.checked.prog.liftsFinal)) = true := by kernel_rfl
theorem fact27 : ((Tryz.pinned.checked.prog.make == some Rows.fnServerFailoverRow.make)) = true := by kernel_rfl
theorem fact28 : ((Rows.fnServerFailoverRow.kinds == (if Rows.fnServerFailoverRow.domain.isEmpty then [] else Tryz.f3.params.toList.map fun t => match Tryz.pinned.checked.prog.underlying t with | some (.int k) => some k | _ => none))) = true := by kernel_rfl
theorem fact29 : ((Rows.fnServerFailoverRow.pinned == Rows.fnServerFailoverRow.pinnedBy)) = true := by kernel_rfl
theorem fact30 : ((Rows.fnServerFailoverRow.veiled == (Tryz.f3.params.toList ++ Rows.fnServerFailoverSpec.plain.varTypes Tryz.pinned.checked.prog ++ Tryz.f3.resultTypes.toList).any (Tryz.pinned.checked.prog.veiledRec ·))) = true := by kernel_rfl
theorem fact31 : (Rows.fnServerFailoverRow.veiledFits Tryz.pinned.checked.prog Tryz.f3.params.toList (Tryz.f3.params.toList ++ Rows.fnServerFailoverSpec.plain.varTypes Tryz.pinned.checked.prog ++ Tryz.f3.resultTypes.toList)) = true := by kernel_rfl
set_option maxRecDepth 100000 in
theorem facts : joinedFacts Tryz.pinned.checked.prog 3 Tryz.f3 Rows.fnServerFailoverSpec Rows.fnServerFailoverRow = true := (andt (andt (andt (andt (andt (andt (andt (andt (andt (andt (andt (andt (andt (andt (andt (andt (andt (andt (andt (andt (andt (andt (andt (andt (andt (andt (andt (andt (andt (andt (andt fact0 fact1) fact2) fact3) fact4) fact5) fact6) fact7) fact8) fact9) fact10) fact11) fact12) fact13) fact14) fact15) fact16) fact17) fact18) fact19) fact20) fact21) fact22) fact23) fact24) fact25) fact26) fact27) fact28) fact29) fact30) fact31)
theorem funcN : Tryz.pinned.checked.prog.funcNamed Rows.fnServerFailoverRow.func = some 3 := by kernel_rfl
theorem over : Rows.fnServerFailoverRow.holds Tryz.pinned (OpenSpec.ofChange Rows.fnServerFailoverSpec) :=
  OpenClaim.holds_of_wide 3 Tryz.f3 rfl rfl rfl rfl rfl rfl rfl ⟨rfl, rfl, rfl, rfl, rfl⟩ rfl rfl rfl rfl rfl funcN Tryz.func3 facts
    (of_decide_eq_true (by kernel_rfl)) (by unfold Func.isWrapper; first | (rw [if_pos (by decide +kernel)]; kernel_rfl) | (rw [if_neg (by decide +kernel)]; exact ⟨rfl, rfl⟩))
    (fun os started H enc _ => lifted os started H enc)
theorem proved : Rows.FnServerFailoverSaid := over
#print axioms proved
end Go.Proofs.YtbfpkbncbebapaaGreat.fnServerFailover
