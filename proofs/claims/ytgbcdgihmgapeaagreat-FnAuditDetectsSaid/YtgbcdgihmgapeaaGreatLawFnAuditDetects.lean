/-
  Proved: the law FnAuditDetects returns true for every input; each argument reads afterwards as before. No conditions.
-/
import Derived.Test.YtgbcdgihmgapeaaGreatF
import Derived.Test.YtgbcdgihmgapeaaGreatRows
import Derived.WalkKit
import Derived.ProofKit
import Derived.OpenShut
import Derived.ShutString
import Derived.ChangeOld
import Derived.Below
open Option renaming some->ς,none->ξ
open Bool renaming true->ζ,false->η
open True renaming intro->θ
namespace Go.Proofs.YtgbcdgihmgapeaaGreat.fnAuditDetects
open Go.ChangeShapes Go.WideShapes Go.ChangeAt Go.RowKit Go.AM
set_option linter.unusedVariables false

theorem own : ownKnob Tryz.prog.godebug = none := by kernel_rfl
theorem laidOut : laidOutB Tryz.prog = true := by kernel_rfl
set_option maxRecDepth 100000 in
theorem lifted (os : Os) (started : os.Started) (H : Type) (enc : TypeId × Value → H) :
    ReturnsInHanded {} Tryz.checked os 3 .any (Rows.fnAuditDetectsSpec.pre6 enc Tryz.prog Tryz.f3 Rows.fnAuditDetectsRow.domain false) (Rows.fnAuditDetectsSpec.post enc Tryz.prog Tryz.f3 false true false false) := by
  refine returnsInHanded_of_change (C := Tryz.checked) own started (by kernel_rfl) Tryz.func3
    (ChangeSpec.witness6 (enc := enc) (C := Tryz.checked) false ⟨#[], #[.slice none 0 0], []⟩ 8 (by kernel_rfl) (by kernel_rfl) (by kernel_rfl) (by kernel_rfl)) ?_
  intro W base args ds gs before hval0 hW hcnd _
  have hval : ∀ (j : Nat) t v, Tryz.f3.params[j]? = some t → args[j]? = some v → Value.okWide Tryz.prog W .any base t v := hval0
  have hW' := hW
  obtain ⟨p, q, hA0, hV, rfl, hfz, hnd⟩ := hW
  have hA : DataW.TrodAll enc Tryz.prog W 0 (fun _ => true) true Tryz.f3.params.toList args.toList ds p := hA0
  rw [Tryz.params3] at hA hval
  obtain ⟨v0, vs0, d0, ds0, p0, q0, hargs, rfl, rfl, h0, r0⟩ := trodAll_cons hA
  obtain ⟨rfl, rfl, rfl⟩ := trodAll_nil r0
  obtain rfl : args = #[v0] := by cases args; simp_all
  obtain ⟨rfl, rfl⟩ := trodVars_none hV
  have k0 := h0
  have lt0 : ∀ x ∈ p0, x.block < W.heap.size := by obtain ⟨m, hm⟩ := k0; exact DataW.trod_lt m _ _ _ hm
  obtain ⟨x0, wt0, rd0⟩ := open_c Tryz.sh22 (fun fs => by rw [Tryz.underlying22]; simp) (hval 0 22 v0 rfl rfl) h0
  clear hA0 hval0
  refine (law_calls (w := W) (vals := #[v0]) (fnAuditDetects_fn x0 wt0) (show TabsIn W from trivial) ⟨rd0, trivial⟩).mono fun e W' ⟨he, bel⟩ => ?_
  subst he
  exact ⟨_, rfl, _, _, _, [], _, [], hW', trodAll_mk1 (shut_bool Tryz.underlying4 _), (trodAll_cons_mk (Below.trod laidOut (by kernel_rfl) (of_decide_eq_true (by kernel_rfl)) k0 bel lt0) trodAll_mk0), rfl, bel.frame _, fun h => by cases h⟩
theorem andt {a b : Bool} (h : a = true) (k : b = true) : (a && b) = true := by subst h; subst k; rfl
def rankN : Nat := 283017964540164243990573922923052217586471220023095862760404514814919205561316263275675285569316028343883803640692012610210216554689542851196446325200038896439792908774030657196107690840982991895102662048822178584890479669043056402845390247372978776959141774430502002863945662218379525437086561083939694884270948921749693347525445950865463737865293082163357922819818080143157814278894040379318214875337973531090082515202574098616020914631250854474614391583198848458688679084877382423687561799405350548878172216762761010561922690970544242332734616434755234065974140551717811149132953548048341301734272144317990676106268035768567296469621237863681704960764145760560020315790448869071362628922526539909821235310933050369
set_option maxRecDepth 100000 in
theorem rk : ranked Tryz.pinned.checked.prog rankN = true := by kernel_rfl
set_option maxRecDepth 100000 in
theorem clo : Tryz.pinned.checked.prog.closure 3 = [3, 4, 5, 11, 13, 12, 24, 41, 67, 42, 75, 73, 69, 117, 80, 70, 118, 68, 49, 52, 112, 113, 130, 163, 127, 25, 114, 115, 45, 116, 72, 71, 27, 46, 47, 79, 119, 74, 120, 26, 44, 122, 121, 59, 29, 48, 14, 28, 43, 76, 77, 123, 153, 190, 189, 187, 185, 213, 191, 152, 186, 188, 214, 124, 155, 154, 192, 156, 193, 194, 158, 157, 195, 215, 125, 126, 30, 50, 51, 81, 128, 129, 82, 131, 132, 133, 164, 165, 166, 167, 83, 134, 84, 135, 168, 58, 159, 196, 216, 160, 197, 198, 161, 184, 162, 199, 217, 78, 31, 53, 86, 136, 85, 88, 87, 137, 138, 139, 169, 200, 140, 170, 201, 218, 141, 171, 142, 172, 173, 203, 202, 219, 222, 174, 54, 89, 90, 93, 143, 175, 176, 177, 204, 178, 205, 206, 179, 207, 180, 208, 209, 144, 181, 210, 220, 182, 211, 145, 183, 212, 221, 146, 55, 91, 92, 56, 57, 94, 95, 96, 147, 97, 6, 15, 7, 8, 16, 32, 17, 33, 60, 9, 18, 34, 61, 37, 62, 98, 148, 35, 36, 63, 99, 149, 100, 101, 107, 64, 102, 103, 104, 105, 106, 108, 150, 109, 65, 110, 66, 111, 151, 10, 20, 21, 23, 22, 40, 39, 38, 19] := by kernel_rfl
theorem fact0 : (Rows.fnAuditDetectsRow.wf (OpenSpec.ofChange Rows.fnAuditDetectsSpec)) = true := by kernel_rfl
theorem fact1 : (laidOutB Tryz.pinned.checked.prog) = true := by kernel_rfl
theorem fact2 : (mapsRowed Tryz.pinned.checked.prog) = true := by kernel_rfl
theorem fact3 : (Tryz.f3.params.all (Tryz.pinned.checked.prog.readableRec ·)) = true := by kernel_rfl
theorem fact4 : (namedTie Tryz.pinned.checked.prog Rows.fnAuditDetectsRow.named Rows.fnAuditDetectsSpec.vars) = true := by kernel_rfl
theorem fact5 : ((Rows.fnAuditDetectsRow.stops == [])) = true := by kernel_rfl
theorem fact6 : ((Tryz.pinned.checked.prog.stops == [])) = true := by kernel_rfl
theorem fact7 : ((Rows.fnAuditDetectsRow.knobs == [])) = true := by kernel_rfl
theorem fact8 : ((Tryz.pinned.checked.prog.stopKnobs == [])) = true := by kernel_rfl
set_option maxRecDepth 100000 in
theorem fact9 : ((Rows.fnAuditDetectsRow.inPlace == Tryz.pinned.checked.prog.inPlace 3)) = true := by rw [inPlace_is clo]; kernel_rfl
set_option maxRecDepth 100000 in
theorem fact10 : ((Rows.fnAuditDetectsRow.unfollowed == Tryz.pinned.checked.prog.unfollowed 3)) = true := by rw [unfollowed_is clo]; kernel_rfl
set_option maxRecDepth 100000 in
theorem fact11 : ((Rows.fnAuditDetectsRow.recurses == Tryz.pinned.checked.prog.recurses 3)) = true := by rw [recurses_of rk, unfollowed_is clo]; kernel_rfl
set_option maxRecDepth 100000 in
theorem fact12 : ((Rows.fnAuditDetectsRow.named == Tryz.pinned.checked.prog.varsNamed 3)) = true := by rw [varsNamed_is clo]; kernel_rfl
theorem fact13 : ((Rows.fnAuditDetectsRow.maps == (Tryz.f3.params.toList ++ Rows.fnAuditDetectsSpec.plain.varTypes Tryz.pinned.checked.prog).any (Tryz.pinned.checked.prog.mapsRec ·))) = true := by kernel_rfl
theorem fact14 : ((Rows.fnAuditDetectsRow.ifaces == (Tryz.f3.params.toList ++ Rows.fnAuditDetectsSpec.plain.varTypes Tryz.pinned.checked.prog).any (Tryz.pinned.checked.prog.ifacesRec ·))) = true := by kernel_rfl
theorem fact15 : ((Rows.fnAuditDetectsRow.mapsOut == Tryz.pinned.checked.prog.mapsAmong Tryz.f3.resultTypes.toList)) = true := by kernel_rfl
theorem fact16 : ((Rows.fnAuditDetectsRow.loops == (Tryz.f3.params.toList ++ Rows.fnAuditDetectsSpec.plain.varTypes Tryz.pinned.checked.prog).any (Tryz.pinned.checked.prog.loopsFrom ·))) = true := by kernel_rfl
theorem fact17 : ((Rows.fnAuditDetectsRow.wideKeys == (Tryz.f3.params.toList ++ Rows.fnAuditDetectsSpec.plain.varTypes Tryz.pinned.checked.prog ++ Tryz.f3.resultTypes.toList).any (Tryz.pinned.checked.prog.wideKeysFrom ·))) = true := by kernel_rfl
theorem fact18 : (Rows.fnAuditDetectsSpec.vars.all (Tryz.pinned.checked.prog.varReadable ·)) = true := by kernel_rfl
theorem fact19 : (Tryz.f3.resultTypes.all (fun t => Tryz.pinned.checked.prog.readableRec t && decide (t < Tryz.pinned.checked.prog.types.size))) = true := by kernel_rfl
theorem fact20 : ((Rows.fnAuditDetectsRow.ifacesOut == Tryz.f3.resultTypes.toList.any (Tryz.pinned.checked.prog.ifacesRec ·))) = true := by kernel_rfl
theorem fact21 : ((Rows.fnAuditDetectsRow.loopsOut == Tryz.f3.resultTypes.toList.any (Tryz.pinned.checked.prog.loopsFrom ·))) = true := by kernel_rfl
theorem fact22 : ((Rows.fnAuditDetectsRow.plainKeys == Tryz.pinned.checked.prog.plainKeys)) = true := by kernel_rfl
theorem fact23 : (Rows.fnAuditDetectsRow.shortTexts.isNone) = true := by kernel_rfl
theorem fact24 : (Tryz.pinned.checked.prog.stopsHeard) = true := by kernel_rfl
theorem fact25 : (Tryz.pinned.checked.prog.mayEnter) = true := by kernel_rfl
theorem fact26 : ((Rows.fnAuditDetectsRow.lifted == Tryz.pinned.checked.prog.liftsFinal)) = true := by kernel_rfl
theorem fact27 : ((Tryz.pinned.checked.prog.make == some Rows.fnAuditDetectsRow.make)) = true := by kernel_rfl
theorem fact28 : ((Rows.fnAuditDetectsRow.kinds == (if Rows.fnAuditDetectsRow.domain.isEmpty then [] else Tryz.f3.params.toList.map fun t => match Tryz.pinned.checked.prog.underlying t with | some (.int k) => some k | _ => none))) = true := by kernel_rfl
theorem fact29 : ((Rows.fnAuditDetectsRow.pinned == Rows.fnAuditDetectsRow.pinnedBy)) = true := by kernel_rfl
theorem fact30 : ((Rows.fnAuditDetectsRow.veiled == (Tryz.f3.params.toList ++ Rows.fnAuditDetectsSpec.plain.varTypes Tryz.pinned.checked.prog ++ Tryz.f3.resultTypes.toList).any (Tryz.pinned.checked.prog.veiledRec ·))) = true := by kernel_rfl
theorem fact31 : (Rows.fnAuditDetectsRow.veiledFits Tryz.pinned.checked.prog Tryz.f3.params.toList (Tryz.f3.params.toList ++ Rows.fnAuditDetectsSpec.plain.varTypes Tryz.pinned.checked.prog ++ Tryz.f3.resultTypes.toList)) = true := by kernel_rfl
set_option maxRecDepth 100000 in
theorem facts : joinedFacts Tryz.pinned.checked.prog 3 Tryz.f3 Rows.fnAuditDetectsSpec Rows.fnAuditDetectsRow = true := (andt (andt (andt (andt (andt (andt (andt (andt (andt (andt (andt (andt (andt (andt (andt (andt (andt (andt (andt (andt (andt (andt (andt (andt (andt (andt (andt (andt (andt (andt (andt fact0 fact1) fact2) fact3) fact4) fact5) fact6) fact7) fact8) fact9) fact10) fact11) fact12) fact13) fact14) fact15) fact16) fact17) fact18) fact19) fact20) fact21) fact22) fact23) fact24) fact25) fact26) fact27) fact28) fact29) fact30) fact31)
theorem funcN : Tryz.pinned.checked.prog.funcNamed Rows.fnAuditDetectsRow.func = some 3 := by kernel_rfl
theorem over : Rows.fnAuditDetectsRow.holds Tryz.pinned (OpenSpec.ofChange Rows.fnAuditDetectsSpec) :=
  OpenClaim.holds_of_wide 3 Tryz.f3 rfl rfl rfl rfl rfl rfl rfl ⟨rfl, rfl, rfl, rfl, rfl⟩ rfl rfl rfl rfl rfl funcN Tryz.func3 facts
    (of_decide_eq_true (by kernel_rfl)) (by unfold Func.isWrapper; first | (rw [if_pos (by decide +kernel)]; kernel_rfl) | (rw [if_neg (by decide +kernel)]; exact ⟨rfl, rfl⟩))
    (fun os started H enc _ => lifted os started H enc)
theorem proved : Rows.FnAuditDetectsSaid := over
#print axioms proved
end Go.Proofs.YtgbcdgihmgapeaaGreat.fnAuditDetects
