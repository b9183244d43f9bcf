/-
  Proved: the law FnExactSettle returns true for every input; each argument reads afterwards as before. No conditions.
-/
import Derived.Test.YtcnfbcpgepbnkaaGreatF
import Derived.Test.YtcnfbcpgepbnkaaGreatRows
import Derived.WalkKit
import Derived.ProofKit
import Derived.OpenShut
import Derived.ShutString
import Derived.ChangeOld
import Derived.Below
open Option renaming some->ς,none->ξ
open Bool renaming true->ζ,false->η
open True renaming intro->θ
namespace Go.Proofs.YtcnfbcpgepbnkaaGreat.fnExactSettle
open Go.ChangeShapes Go.WideShapes Go.ChangeAt Go.RowKit Go.AM
set_option linter.unusedVariables false

theorem own : ownKnob Tryz.prog.godebug = none := by kernel_rfl
theorem laidOut : laidOutB Tryz.prog = true := by kernel_rfl
set_option maxRecDepth 100000 in
theorem lifted (os : Os) (started : os.Started) (H : Type) (enc : TypeId × Value → H) :
    ReturnsInHanded {} Tryz.checked os 6 .any (Rows.fnExactSettleSpec.pre6 enc Tryz.prog Tryz.f6 Rows.fnExactSettleRow.domain false) (Rows.fnExactSettleSpec.post enc Tryz.prog Tryz.f6 false true false false) := by
  refine returnsInHanded_of_change (C := Tryz.checked) own started (by kernel_rfl) Tryz.func6
    (ChangeSpec.witness6 (enc := enc) (C := Tryz.checked) false ⟨#[], #[.agg #[.slice none 0 0, .slice none 0 0, .slice none 0 0, .slice none 0 0, .slice none 0 0, .int .i64 0, .int .i64 0, .int .i64 0, .int .i64 0, .int .i64 0]], []⟩ 8 (by kernel_rfl) (by kernel_rfl) (by kernel_rfl) (by kernel_rfl)) ?_
  intro W base args ds gs before hval0 hW hcnd _
  have hval : ∀ (j : Nat) t v, Tryz.f6.params[j]? = some t → args[j]? = some v → Value.okWide Tryz.prog W .any base t v := hval0
  have hW' := hW
  obtain ⟨p, q, hA0, hV, rfl, hfz, hnd⟩ := hW
  have hA : DataW.TrodAll enc Tryz.prog W 0 (fun _ => true) true Tryz.f6.params.toList args.toList ds p := hA0
  rw [Tryz.params6] at hA hval
  obtain ⟨v0, vs0, d0, ds0, p0, q0, hargs, rfl, rfl, h0, r0⟩ := trodAll_cons hA
  obtain ⟨rfl, rfl, rfl⟩ := trodAll_nil r0
  obtain rfl : args = #[v0] := by cases args; simp_all
  obtain ⟨rfl, rfl⟩ := trodVars_none hV
  have k0 := h0
  have lt0 : ∀ x ∈ p0, x.block < W.heap.size := by obtain ⟨m, hm⟩ := k0; exact DataW.trod_lt m _ _ _ hm
  obtain ⟨x0, wt0, rd0⟩ := open_agg Tryz.sh32 Tryz.underlying32 (hval 0 32 v0 rfl rfl) h0
  clear hA0 hval0
  refine (law_calls (w := W) (vals := #[v0]) (fnExactSettle_fn x0 wt0) (show TabsIn W from trivial) ⟨rd0, trivial⟩).mono fun e W' ⟨he, bel⟩ => ?_
  subst he
  exact ⟨_, rfl, _, _, _, [], _, [], hW', trodAll_mk1 (shut_bool Tryz.underlying4 _), (trodAll_cons_mk (Below.trod laidOut (by kernel_rfl) (of_decide_eq_true (by kernel_rfl)) k0 bel lt0) trodAll_mk0), rfl, bel.frame _, fun h => by cases h⟩
theorem andt {a b : Bool} (h : a = true) (k : b = true) : (a && b) = true := by subst h; subst k; rfl
def rankN : Nat := 12288733017465055397681498170822749162899729197263263550452715167483167182741109836252400345162368987366676773328155514972555749542209876207618092518004613779876794543740704191274926086653275960633146529211957222760939829868923532842185279726898194981657446834651236942226501206829995260775258793779968568438646598258792628804895797705405518247180301380366472971095544637224143995282988222891463792198485333968245177560493872152518979644167966446181539979801153343960762963528358771569887824110274993168337639899643015333143078859713996100783737980340476501880344482853595477698378866719604543522434778655490198635497432232445027441849319428272753008918428486633910981682230698374719598584900284911807686942756214756060535362688666756804897131564113022700433302807651018445581159162605222476680263830564764446756155229423880050074524338988188340548927217893703867198723415935059534719707616314614523555715246674118969861256576631125685560984486966685927787466383976265677320545962835383944525742799840475816757039918428460848743453079372919332748157036570090885876200508393422182587478767197632323159283637291090507186017998401961816625547863305833433719267660232524631840110977655233310321804289
set_option maxRecDepth 100000 in
theorem rk : ranked Tryz.pinned.checked.prog rankN = true := by kernel_rfl
set_option maxRecDepth 100000 in
theorem clo : Tryz.pinned.checked.prog.closure 6 = [6, 7, 20, 57, 113, 192, 21, 58, 114, 193, 280, 281, 116, 194, 22, 59, 115, 117, 23, 60, 118, 24, 61, 119, 195, 9, 29, 71, 137, 223, 30, 72, 138, 224, 139, 225, 301, 302, 144, 226, 31, 73, 140, 141, 142, 143, 145, 146, 32, 74, 147, 227, 33, 75, 148, 149, 228, 34, 18, 16, 25, 62, 63, 120, 196, 122, 64, 121, 123, 65, 66, 124, 26, 67, 27, 125, 68, 69, 126, 197, 198, 282, 199, 127, 200, 201, 202, 203, 204, 283, 284, 285, 286, 128, 205, 129, 206, 287, 55, 107, 181, 265, 221, 222, 217, 299, 341, 339, 338, 334, 369, 367, 361, 134, 133, 183, 182, 266, 267, 268, 322, 357, 207, 269, 323, 358, 375, 270, 324, 359, 297, 340, 376, 380, 370, 379, 271, 325, 326, 362, 360, 377, 381, 327, 28, 70, 130, 131, 132, 208, 209, 210, 289, 288, 333, 368, 211, 290, 291, 212, 292, 219, 213, 293, 294, 135, 214, 295, 335, 336, 296, 337, 215, 216, 298, 136, 218, 300, 342, 343, 344, 220, 19, 17, 35, 76, 150, 77, 78, 151, 229, 230, 153, 79, 80, 152, 154, 81, 82, 155, 83, 84, 156, 231, 36, 85, 37, 157, 88, 158, 232, 303, 86, 87, 159, 233, 304, 234, 235, 241, 160, 236, 237, 238, 239, 240, 242, 305, 243, 306, 244, 161, 245, 162, 246, 307, 56, 109, 185, 184, 272, 186, 255, 318, 353, 351, 373, 350, 346, 372, 374, 108, 112, 110, 187, 273, 328, 188, 189, 274, 275, 329, 363, 190, 276, 316, 352, 330, 364, 365, 378, 191, 277, 278, 332, 331, 366, 279, 111, 38, 89, 163, 164, 165, 247, 248, 309, 308, 345, 371, 252, 249, 310, 311, 250, 257, 251, 312, 313, 166, 253, 314, 347, 348, 315, 349, 254, 317, 167, 256, 319, 354, 355, 356, 258, 11, 39, 90, 168, 259, 40, 91, 169, 260, 170, 261, 320, 321, 175, 262, 41, 92, 171, 172, 173, 174, 176, 177, 42, 93, 178, 263, 43, 94, 179, 180, 264, 44, 12, 45, 95, 98, 46, 96, 100, 97, 47, 48, 99, 49, 13, 50, 101, 104, 51, 102, 106, 103, 52, 53, 105, 54] := by kernel_rfl
theorem fact0 : (Rows.fnExactSettleRow.wf (OpenSpec.ofChange Rows.fnExactSettleSpec)) = true := by kernel_rfl
theorem fact1 : (laidOutB Tryz.pinned.checked.prog) = true := by kernel_rfl
theorem fact2 : (mapsRowed Tryz.pinned.checked.prog) = true := by kernel_rfl
theorem fact3 : (Tryz.f6.params.all (Tryz.pinned.checked.prog.readableRec ·)) = true := by kernel_rfl
theorem fact4 : (namedTie Tryz.pinned.checked.prog Rows.fnExactSettleRow.named Rows.fnExactSettleSpec.vars) = true := by kernel_rfl
theorem fact5 : ((Rows.fnExactSettleRow.stops == [])) = true := by kernel_rfl
theorem fact6 : ((Tryz.pinned.checked.prog.stops == [])) = true := by kernel_rfl
theorem fact7 : ((Rows.fnExactSettleRow.knobs == [])) = true := by kernel_rfl
theorem fact8 : ((Tryz.pinned.checked.prog.stopKnobs == [])) = true := by kernel_rfl
set_option maxRecDepth 100000 in
theorem fact9 : ((Rows.fnExactSettleRow.inPlace == Tryz.pinned.checked.prog.inPlace 6)) = true := by rw [inPlace_is clo]; kernel_rfl
set_option maxRecDepth 100000 in
theorem fact10 : ((Rows.fnExactSettleRow.unfollowed == Tryz.pinned.checked.prog.unfollowed 6)) = true := by rw [unfollowed_is clo]; kernel_rfl
set_option maxRecDepth 100000 in
theorem fact11 : ((Rows.fnExactSettleRow.recurses == Tryz.pinned.checked.prog.recurses 6)) = true := by rw [recurses_of rk, unfollowed_is clo]; kernel_rfl
set_option maxRecDepth 100000 in
theorem fact12 : ((Rows.fnExactSettleRow.named == Tryz.pinned.checked.prog.varsNamed 6)) = true := by rw [varsNamed_is clo]; kernel_rfl
theorem fact13 : ((Rows.fnExactSettleRow.maps == (Tryz.f6.params.toList ++ Rows.fnExactSettleSpec.plain.varTypes Tryz.pinned.checked.prog).any (Tryz.pinned.checked.prog.mapsRec ·))) = true := by kernel_rfl
theorem fact14 : ((Rows.fnExactSettleRow.ifaces == (Tryz.f6.params.toList ++ Rows.fnExactSettleSpec.plain.varTypes Tryz.pinned.checked.prog).any (Tryz.pinned.checked.prog.ifacesRec ·))) = true := by kernel_rfl
theorem fact15 : ((Rows.fnExactSettleRow.mapsOut == Tryz.pinned.checked.prog.mapsAmong Tryz.f6.resultTypes.toList)) = true := by kernel_rfl
theorem fact16 : ((Rows.fnExactSettleRow.loops == (Tryz.f6.params.toList ++ Rows.fnExactSettleSpec.plain.varTypes Tryz.pinned.checked.prog).any (Tryz.pinned.checked.prog.loopsFrom ·))) = true := by kernel_rfl
theorem fact17 : ((Rows.fnExactSettleRow.wideKeys == (Tryz.f6.params.toList ++ Rows.fnExactSettleSpec.plain.varTypes Tryz.pinned.checked.prog ++ Tryz.f6.resultTypes.toList).any (Tryz.pinned.checked.prog.wideKeysFrom ·))) = true := by kernel_rfl
theorem fact18 : (Rows.fnExactSettleSpec.vars.all (Tryz.pinned.checked.prog.varReadable ·)) = true := by kernel_rfl
theorem fact19 : (Tryz.f6.resultTypes.all (fun t => Tryz.pinned.checked.prog.readableRec t && decide (t < Tryz.pinned.checked.prog.types.size))) = true := by kernel_rfl
theorem fact20 : ((Rows.fnExactSettleRow.ifacesOut == Tryz.f6.resultTypes.toList.any (Tryz.pinned.checked.prog.ifacesRec ·))) = true := by kernel_rfl
theorem fact21 : ((Rows.fnExactSettleRow.loopsOut == Tryz.f6.resultTypes.toList.any (Tryz.pinned.checked.prog.loopsFrom ·))) = true := by kernel_rfl
theorem fact22 : ((Rows.fnExactSettleRow.plainKeys == Tryz.pinned.checked.prog.plainKeys)) = true := by kernel_rfl
theorem fact23 : (Rows.fnExactSettleRow.shortTexts.isNone) = true := by kernel_rfl
theorem fact24 : (Tryz.pinned.checked.prog.stopsHeard) = true := by kernel_rfl
theorem fact25 : (Tryz.pinned.checked.prog.mayEnter) = true := by kernel_rfl
theorem fact26 : ((Rows.fnExactSettleRow.lifted == Tryz.pinned.checked.prog.liftsFinal)) = true := by kernel_rfl
theorem fact27 : ((Tryz.pinned.checked.prog.make == some Rows.fnExactSettleRow.make)) = true := by kernel_rfl
theorem fact28 : ((Rows.fnExactSettleRow.kinds == (if Rows.fnExactSettleRow.domain.isEmpty then [] else Tryz.f6.params.toList.map fun t => match Tryz.pinned.checked.prog.underlying t with | some (.int k) => some k | _ => none))) = true := by kernel_rfl
theorem fact29 : ((Rows.fnExactSettleRow.pinned == Rows.fnExactSettleRow.pinnedBy)) = true := by kernel_rfl
theorem fact30 : ((Rows.fnExactSettleRow.veiled == (Tryz.f6.params.toList ++ Rows.fnExactSettleSpec.plain.varTypes Tryz.pinned.checked.prog ++ Tryz.f6.resultTypes.toList).any (Tryz.pinned.checked.prog.veiledRec ·))) = true := by kernel_rfl
theorem fact31 : (Rows.fnExactSettleRow.veiledFits Tryz.pinned.checked.prog Tryz.f6.params.toList (Tryz.f6.params.toList ++ Rows.fnExactSettleSpec.plain.varTypes Tryz.pinned.checked.prog ++ Tryz.f6.resultTypes.toList)) = true := by kernel_rfl
set_option maxRecDepth 100000 in
theorem facts : joinedFacts Tryz.pinned.checked.prog 6 Tryz.f6 Rows.fnExactSettleSpec Rows.fnExactSettleRow = true := (andt (andt (andt (andt (andt (andt (andt (andt (andt (andt (andt (andt (andt (andt (andt (andt (andt (andt (andt (andt (andt (andt (andt (andt (andt (andt (andt (andt (andt (andt (andt fact0 fact1) fact2) fact3) fact4) fact5) fact6) fact7) fact8) fact9) fact10) fact11) fact12) fact13) fact14) fact15) fact16) fact17) fact18) fact19) fact20) fact21) fact22) fact23) fact24) fact25) fact26) fact27) fact28) fact29) fact30) fact31)
theorem funcN : Tryz.pinned.checked.prog.funcNamed Rows.fnExactSettleRow.func = some 6 := by kernel_rfl
theorem over : Rows.fnExactSettleRow.holds Tryz.pinned (OpenSpec.ofChange Rows.fnExactSettleSpec) :=
  OpenClaim.holds_of_wide 6 Tryz.f6 rfl rfl rfl rfl rfl rfl rfl ⟨rfl, rfl, rfl, rfl, rfl⟩ rfl rfl rfl rfl rfl funcN Tryz.func6 facts
    (of_decide_eq_true (by kernel_rfl)) (by unfold Func.isWrapper; first | (rw [if_pos (by decide +kernel)]; kernel_rfl) | (rw [if_neg (by decide +kernel)]; exact ⟨rfl, rfl⟩))
    (fun os started H enc _ => lifted os started H enc)
theorem proved : Rows.FnExactSettleSaid := over
#print axioms proved
end Go.Proofs.YtcnfbcpgepbnkaaGreat.fnExactSettle
