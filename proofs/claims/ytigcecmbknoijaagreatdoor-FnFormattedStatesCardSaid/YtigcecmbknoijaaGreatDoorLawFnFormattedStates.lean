/-
  Proved: the law FnFormattedStates returns true for every input; each argument reads afterwards as before. No conditions.
-/
import Derived.Test.YtigcecmbknoijaaGreatDoorF
import Derived.Test.YtigcecmbknoijaaGreatDoorCards
import Derived.Test.YtigcecmbknoijaaGreatDoorTie
import Derived.LaidMore
import Derived.Stop.Joined
import Derived.SevenTiedAt
import Derived.Lib.LaidTab
import Derived.Stop.LaidErr
import Derived.Test.YtigcecmbknoijaaGreatDoorRows
import Derived.WalkKit
import Derived.ProofKit
import Derived.OpenShut
import Derived.ShutString
import Derived.ChangeOld
import Derived.Below
open Option renaming some->ς,none->ξ
open Bool renaming true->ζ,false->η
open True renaming intro->θ
namespace Go.Proofs.YtigcecmbknoijaaGreatDoor.fnFormattedStates
open Go.ChangeShapes Go.WideShapes Go.ChangeAt Go.RowKit Go.AM
set_option linter.unusedVariables false

theorem own : ownKnob Tryz.prog.godebug = none := by kernel_rfl
theorem laidOut : laidOutB Tryz.prog = true := by kernel_rfl
theorem door_met (os : Os) (args : Array Value) : laidMetH Tryz.prog Rows.fnFormattedStatesRow.laid ((World.doorLaid Tryz.prog 2000 os).forCall (fun _ _ => 0) ⟨#[], args, []⟩).memory :=
  laidMetH_of_parts3 (fuel := 8) (laidMet_of_run' 8 (by kernel_rfl) (by kernel_rfl)) (by kernel_rfl) (by kernel_rfl)
/-- What the row lists: the table of powers lies there. -/
theorem tabs {W : World} (h : laidMetH Tryz.prog Rows.fnFormattedStatesRow.laid W) : TabsIn W := by
  rw [MakeChecks.laidMetH_plain _ _ _ (by kernel_rfl)] at h
  have h2 := Lib.tabIs_of_head (P := Tryz.prog) (W := W) (k := .u64) (zs := Lib.pow10Tab) (g := 1) (t := 276) (e := 229) (n := 20) (by kernel_rfl) (by kernel_rfl) Tryz.underlying276 Tryz.underlying229 (by kernel_rfl) (by kernel_rfl) (laidMet.tail (laidMet.tail h))
  unfold Lib.TabIs World.var? at h2
  rw [show Program.globalNamed _ _ = some 1 from by kernel_rfl] at h2
  simp only [Option.bind_some] at h2
  split at h2
  · rename_i cs ty fr hh
    refine ⟨ty, fr, ?_⟩
    rw [hh, Option.some.inj h2]; rfl
  · cases h2
set_option maxRecDepth 100000 in
theorem lifted (os : Os) (started : os.Started) (H : Type) (enc : TypeId × Value → H) :
    ReturnsInHanded {} Tryz.checked os 4 .any (fun w args => (Rows.fnFormattedStatesSpec.pre enc Tryz.prog Tryz.f4 [] false w args ∧ laidMetH Tryz.prog Rows.fnFormattedStatesRow.laid w) ∧ sizedMet enc Tryz.prog Tryz.f4 (OpenSpec.ofChange Rows.fnFormattedStatesSpec) false w args) (Rows.fnFormattedStatesSpec.post enc Tryz.prog Tryz.f4 false true false false) := by
  refine returnsInHanded_of_change_and (C := Tryz.checked) (X := fun w _ => laidMetH Tryz.prog Rows.fnFormattedStatesRow.laid w) (fun _ _ _ hh h => h.of_heap hh) own started (by kernel_rfl) Tryz.func4
    (ChangeSpec.witness_shaped (enc := enc) (C := Tryz.checked) (os := os) (X := fun w _ => laidMetH Tryz.prog Rows.fnFormattedStatesRow.laid w) false (World.doorLaid Tryz.prog 2000 os) #[.slice none 0 0] 8 rfl (World.shaped_of_RefB (by kernel_rfl) (by kernel_rfl)) (by kernel_rfl) (by kernel_rfl) (by kernel_rfl) (door_met os _)) ?_
  intro W base args ds gs before hval0 hW _ _ hL _
  have hval : ∀ (j : Nat) t v, Tryz.f4.params[j]? = some t → args[j]? = some v → Value.okWide Tryz.prog W .any base t v := hval0
  have hW' := hW
  obtain ⟨p, q, hA0, hV, rfl, hfz, hnd⟩ := hW
  have hA : DataW.TrodAll enc Tryz.prog W 0 (fun _ => true) true Tryz.f4.params.toList args.toList ds p := hA0
  rw [Tryz.params4] at hA hval
  obtain ⟨v0, vs0, d0, ds0, p0, q0, hargs, rfl, rfl, h0, r0⟩ := trodAll_cons hA
  obtain ⟨rfl, rfl, rfl⟩ := trodAll_nil r0
  obtain rfl : args = #[v0] := by cases args; simp_all
  obtain ⟨rfl, rfl⟩ := trodVars_none hV
  have k0 := h0
  have lt0 : ∀ x ∈ p0, x.block < W.heap.size := by obtain ⟨m, hm⟩ := k0; exact DataW.trod_lt m _ _ _ hm
  obtain ⟨x0, wt0, rd0⟩ := open_c Tryz.sh22 (fun fs => by rw [Tryz.underlying22]; simp) (hval 0 22 v0 rfl rfl) h0
  clear hA0 hval0
  refine (law_calls (w := W) (vals := #[v0]) (fnFormattedStates_fn x0 wt0) (tabs hL) ⟨rd0, trivial⟩).mono fun e W' ⟨he, bel⟩ => ?_
  subst he
  exact ⟨_, rfl, _, _, _, [], _, [], hW', trodAll_mk1 (shut_bool Tryz.underlying4 _), (trodAll_cons_mk (Below.trod laidOut (by kernel_rfl) (of_decide_eq_true (by kernel_rfl)) k0 bel lt0) trodAll_mk0), rfl, bel.frame _, fun h => by cases h⟩
theorem andt {a b : Bool} (h : a = true) (k : b = true) : (a && b) = true := by subst h; subst k; rfl
def rankN : Nat := 664679741412550481336526320642103935275626385658345233823809369752414837495347253985003647436348618063040608433308708779660958398963190945822135583602171142761262849023341270510642903910260068091499301600589881723857339728995960161232104886583938427060175597265441450525304004668386233192955305688244720959822757270616954427442295456674360767773295331066322245815903554048822102460896726403509343088575102920041064979548488388547182545225408859244167388979152407572496178686909624333929674345353991628436736136210831937944395724609420515751013853642064396451354325509636146510865811715598473447927447083056275041863839441332730901181434836342172624754711164441663668671396847141071021221144298819668836943271916608006379424444355853782191884057301385734261802448087903942239946754394689449774567031180795650931057987820717057
set_option maxRecDepth 100000 in
theorem rk : ranked Tryz.pinned.checked.prog rankN = true := by kernel_rfl
set_option maxRecDepth 100000 in
theorem clo : Tryz.pinned.checked.prog.closure 4 = [4, 5, 15, 26, 35, 55, 77, 119, 39, 60, 104, 76, 70, 78, 120, 121, 167, 182, 180, 123, 122, 81, 131, 169, 16, 36, 80, 130, 132, 79, 124, 125, 168, 205, 213, 126, 206, 207, 208, 127, 133, 171, 170, 177, 128, 129, 82, 83, 84, 85, 88, 8, 87, 137, 179, 136, 176, 178, 212, 86, 134, 172, 209, 210, 173, 211, 135, 174, 175, 48, 56, 89, 17, 37, 57, 90, 92, 91, 138, 41, 93, 139, 145, 140, 94, 141, 181, 142, 95, 143, 144, 96, 146, 97, 98, 147, 58, 99, 148, 18, 38, 59, 100, 114, 161, 162, 150, 149, 183, 184, 185, 152, 65, 151, 153, 186, 101, 108, 102, 154, 187, 214, 230, 106, 188, 189, 215, 226, 231, 241, 233, 243, 244, 250, 109, 12, 234, 67, 111, 160, 216, 232, 242, 217, 218, 112, 103, 155, 190, 192, 191, 219, 220, 221, 66, 110, 222, 235, 245, 251, 223, 236, 224, 237, 238, 247, 246, 69, 113, 156, 193, 194, 195, 225, 239, 248, 240, 249, 157, 158, 159, 196, 197, 198, 227, 199, 40, 61, 62, 105, 19, 20, 21, 29, 50, 71, 72, 115, 27, 47, 68, 22, 25, 32, 51, 73, 116, 163, 164, 201, 200, 202, 165, 166, 203, 204, 228, 229, 46, 64, 33, 52, 74, 117, 75, 118, 53, 54, 23, 42, 63, 107, 43, 24, 44, 45, 30] := by kernel_rfl
theorem fact0 : (Rows.fnFormattedStatesRow.wf (OpenSpec.ofChange Rows.fnFormattedStatesSpec)) = true := by kernel_rfl
theorem fact1 : (laidOutB Tryz.pinned.checked.prog) = true := by kernel_rfl
theorem fact2 : (mapsRowed Tryz.pinned.checked.prog) = true := by kernel_rfl
theorem fact3 : (Tryz.f4.params.all (Tryz.pinned.checked.prog.readableRec ·)) = true := by kernel_rfl
theorem fact4 : (namedTie Tryz.pinned.checked.prog Rows.fnFormattedStatesRow.named Rows.fnFormattedStatesSpec.vars) = true := by kernel_rfl
theorem fact5 : ((Rows.fnFormattedStatesRow.stops == [])) = true := by kernel_rfl
theorem fact6 : ((Tryz.pinned.checked.prog.stops == [])) = true := by kernel_rfl
theorem fact7 : ((Rows.fnFormattedStatesRow.knobs == [])) = true := by kernel_rfl
theorem fact8 : ((Tryz.pinned.checked.prog.stopKnobs == [])) = true := by kernel_rfl
set_option maxRecDepth 100000 in
theorem fact9 : ((Rows.fnFormattedStatesRow.inPlace == Tryz.pinned.checked.prog.inPlace 4)) = true := by rw [inPlace_is clo]; kernel_rfl
set_option maxRecDepth 100000 in
theorem fact10 : ((Rows.fnFormattedStatesRow.unfollowed == Tryz.pinned.checked.prog.unfollowed 4)) = true := by rw [unfollowed_is clo]; kernel_rfl
set_option maxRecDepth 100000 in
theorem fact11 : ((Rows.fnFormattedStatesRow.recurses == Tryz.pinned.checked.prog.recurses 4)) = true := by rw [recurses_of rk, unfollowed_is clo]; kernel_rfl
set_option maxRecDepth 100000 in
theorem fact12 : ((Rows.fnFormattedStatesRow.named == Tryz.pinned.checked.prog.varsNamed 4)) = true := by rw [varsNamed_is clo]; kernel_rfl
theorem fact13 : ((Rows.fnFormattedStatesRow.maps == (Tryz.f4.params.toList ++ Rows.fnFormattedStatesSpec.plain.varTypes Tryz.pinned.checked.prog).any (Tryz.pinned.checked.prog.mapsRec ·))) = true := by kernel_rfl
theorem fact14 : ((Rows.fnFormattedStatesRow.ifaces == (Tryz.f4.params.toList ++ Rows.fnFormattedStatesSpec.plain.varTypes Tryz.pinned.checked.prog).any (Tryz.pinned.checked.prog.ifacesRec ·))) = true := by kernel_rfl
theorem fact15 : ((Rows.fnFormattedStatesRow.mapsOut == Tryz.pinned.checked.prog.mapsAmong Tryz.f4.resultTypes.toList)) = true := by kernel_rfl
theorem fact16 : ((Rows.fnFormattedStatesRow.loops == (Tryz.f4.params.toList ++ Rows.fnFormattedStatesSpec.plain.varTypes Tryz.pinned.checked.prog).any (Tryz.pinned.checked.prog.loopsFrom ·))) = true := by kernel_rfl
theorem fact17 : ((Rows.fnFormattedStatesRow.wideKeys == (Tryz.f4.params.toList ++ Rows.fnFormattedStatesSpec.plain.varTypes Tryz.pinned.checked.prog ++ Tryz.f4.resultTypes.toList).any (Tryz.pinned.checked.prog.wideKeysFrom ·))) = true := by kernel_rfl
theorem fact18 : (Rows.fnFormattedStatesSpec.vars.all (Tryz.pinned.checked.prog.varReadable ·)) = true := by kernel_rfl
theorem fact19 : (Tryz.f4.resultTypes.all (fun t => Tryz.pinned.checked.prog.readableRec t && decide (t < Tryz.pinned.checked.prog.types.size))) = true := by kernel_rfl
theorem fact20 : ((Rows.fnFormattedStatesRow.ifacesOut == Tryz.f4.resultTypes.toList.any (Tryz.pinned.checked.prog.ifacesRec ·))) = true := by kernel_rfl
theorem fact21 : ((Rows.fnFormattedStatesRow.loopsOut == Tryz.f4.resultTypes.toList.any (Tryz.pinned.checked.prog.loopsFrom ·))) = true := by kernel_rfl
theorem fact22 : ((Rows.fnFormattedStatesRow.plainKeys == Tryz.pinned.checked.prog.plainKeys)) = true := by kernel_rfl
theorem fact23 : (Rows.fnFormattedStatesRow.shortTexts.isNone) = true := by kernel_rfl
theorem fact24 : (Tryz.pinned.checked.prog.stopsHeard) = true := by kernel_rfl
theorem fact25 : (Tryz.pinned.checked.prog.mayEnter) = true := by kernel_rfl
theorem fact26 : ((Rows.fnFormattedStatesRow.lifted == Tryz.pinned.checked.prog.liftsFinal)) = true := by kernel_rfl
theorem fact27 : ((Tryz.pinned.checked.prog.make == some Rows.fnFormattedStatesRow.make)) = true := by kernel_rfl
theorem fact28 : ((Rows.fnFormattedStatesRow.kinds == (if Rows.fnFormattedStatesRow.domain.isEmpty then [] else Tryz.f4.params.toList.map fun t => match Tryz.pinned.checked.prog.underlying t with | some (.int k) => some k | _ => none))) = true := by kernel_rfl
theorem fact29 : ((Rows.fnFormattedStatesRow.pinned == Rows.fnFormattedStatesRow.pinnedBy)) = true := by kernel_rfl
theorem fact30 : ((Rows.fnFormattedStatesRow.veiled == (Tryz.f4.params.toList ++ Rows.fnFormattedStatesSpec.plain.varTypes Tryz.pinned.checked.prog ++ Tryz.f4.resultTypes.toList).any (Tryz.pinned.checked.prog.veiledRec ·))) = true := by kernel_rfl
theorem fact31 : (Rows.fnFormattedStatesRow.veiledFits Tryz.pinned.checked.prog Tryz.f4.params.toList (Tryz.f4.params.toList ++ Rows.fnFormattedStatesSpec.plain.varTypes Tryz.pinned.checked.prog ++ Tryz.f4.resultTypes.toList)) = true := by kernel_rfl
set_option maxRecDepth 100000 in
theorem facts : joinedFacts Tryz.pinned.checked.prog 4 Tryz.f4 Rows.fnFormattedStatesSpec Rows.fnFormattedStatesRow = true := (andt (andt (andt (andt (andt (andt (andt (andt (andt (andt (andt (andt (andt (andt (andt (andt (andt (andt (andt (andt (andt (andt (andt (andt (andt (andt (andt (andt (andt (andt (andt fact0 fact1) fact2) fact3) fact4) fact5) fact6) fact7) fact8) fact9) fact10) fact11) fact12) fact13) fact14) fact15) fact16) fact17) fact18) fact19) fact20) fact21) fact22) fact23) fact24) fact25) fact26) fact27) fact28) fact29) fact30) fact31)
theorem funcN : Tryz.pinned.checked.prog.funcNamed Rows.fnFormattedStatesRow.func = some 4 := by kernel_rfl
theorem over : Rows.fnFormattedStatesRow.holds Tryz.pinned (OpenSpec.ofChange Rows.fnFormattedStatesSpec) :=
  OpenClaim.holds_of_wide 4 Tryz.f4 rfl rfl rfl rfl rfl rfl rfl ⟨rfl, rfl, rfl, rfl, rfl⟩ rfl rfl rfl rfl rfl funcN Tryz.func4 facts
    (of_decide_eq_true (by kernel_rfl)) (by unfold Func.isWrapper; first | (rw [if_pos (by decide +kernel)]; kernel_rfl) | (rw [if_neg (by decide +kernel)]; exact ⟨rfl, rfl⟩))
    (fun os started H enc _ => lifted os started H enc)
theorem plain (f : FuncId) (fn : Func) (hf : Tryz.pinned.checked.prog.funcNamed Rows.fnFormattedStatesRow.func = some f) (hfn : Tryz.pinned.checked.prog.funcs[f]? = some fn) :
    false = Tryz.pinned.checked.prog.looks [] ∧ ∀ (j : Nat) t, fn.params[j]? = some t → Tryz.pinned.checked.prog.wantsStandIn t = false := by
  obtain rfl : f = 4 := Option.some.inj ((show Tryz.prog.funcNamed Rows.fnFormattedStatesRow.func = some 4 by kernel_rfl).symm.trans hf) |>.symm
  obtain rfl : fn = Tryz.f4 := (Option.some.inj (Tryz.func4.symm.trans hfn)).symm
  refine ⟨by kernel_rfl, fun j t ht => ?_⟩
  rw [Tryz.params4] at ht
  have hm : t ∈ [22] := by simpa using Array.mem_of_getElem? ht
  have hall : ([22].all fun u => !Tryz.prog.wantsStandIn u) = true := by kernel_rfl
  exact (show Tryz.prog.wantsStandIn t = false by simpa using List.all_eq_true.1 hall t hm)
theorem proved : Rows.FnFormattedStatesCardSaid :=
  Claim7.holds_tied_plain_at .later [] _ _ _ _ over (fun _ h => by cases h) (by kernel_rfl) (fun _ h => by cases h) fnFormattedStates_row_tie rfl ⟨rfl, rfl⟩ (by kernel_rfl) rfl plain (by kernel_rfl)
#print axioms proved
end Go.Proofs.YtigcecmbknoijaaGreatDoor.fnFormattedStates
