/-
  The abstract machine, part Zb: functions that hand back the address of a new variable.
-/
import Derived.Test.YtlpclccdbmoemaaGreatAmZa
set_option linter.unusedVariables false
namespace Go.AM
open Go.RowKit
structure FnN (P : Program) (f : FuncId) (args : List AV) (ty : TypeId) (xs : List D) : Prop where
  enters : ∀ (vs : Array Value) (w : World), (callFunc f vs).run P w = .ok (.enter f vs) w
  calls : ∀ (F : Nat → Prop) (w : World) (vals : Array Value), (∀ b, F b → b < w.heap.size) → TabsIn w → AR w F args vals.toList →
    Calls P f vals w fun e w' => ∃ (b : Nat) (arr : Array Value) (G : Nat → Prop), e = .returned (.pointer (some ⟨b, 0, none⟩)) ∧ Past w w' (fun _ => False) ∧ (∀ k, G k → w.heap.size ≤ k ∧ k < w'.heap.size ∧ Plain w' k) ∧ w.heap.size ≤ b ∧ b < w'.heap.size ∧ ¬ G b ∧ w'.heap[b]? = some (.cells arr ty (0, 0)) ∧ DV w' (fun k => F k ∨ G k) xs arr.toList
/-- Data cells. -/
def dataC : C → Option D
  | .d _ x => some x
  | .nil => some (.l [])
  | _ => none
def dataCs : List C → Option (List D)
  | [] => some []
  | c :: cs => match dataC c, dataCs cs with
    | some x, some xs => some (x :: xs)
    | _, _ => none
theorem dataC_ok {cx : Cx} {E : Env} {w : World} (ok : EnvOK cx E w) {c : C} {x : D} {u : Value} (h : dataC c = some x) (hc : cvC E w c u) : rdD w E.F x u := by
  cases c with
  | d g y => simp [dataC] at h; subst h; exact rdD_H (g' := false) ok hc (by simp)
  | nil =>
    simp [dataC] at h; subst h
    have hu : u = .slice none 0 0 := hc
    subst hu
    rw [rdD]; exact ⟨none, 0, rfl, Nat.le_refl _, .inl rfl⟩
  | _ => simp [dataC] at h
theorem dataCs_ok {cx : Cx} {E : Env} {w : World} (ok : EnvOK cx E w) : ∀ {cs : List C} {xs : List D} {us : List Value}, dataCs cs = some xs → CV E w cs us → DV w E.F xs us
  | [], xs, [], h, _ => by simp [dataCs] at h; subst h; trivial
  | [], _, _ :: _, _, hc => hc.elim
  | c :: cs, xs, [], h, hc => hc.elim
  | c :: cs, xs, u :: us, h, hc => by
    simp only [dataCs] at h
    split at h
    · rename_i x xs' h1 h2
      simp at h; subst h
      exact ⟨dataC_ok ok h1 hc.1, dataCs_ok ok h2 hc.2⟩
    · cases h
theorem DV_mono {w w' : World} {F F' : Nat → Prop} (hw : ∀ b, F b → w'.heap[b]? = w.heap[b]?) (hF : ∀ b, F b → F' b) : ∀ {xs : List D} {us : List Value}, DV w F xs us → DV w' F' xs us
  | [], [], _ => trivial
  | x :: xs, u :: us, h => ⟨rdD_mono hw hF x u h.1, DV_mono hw hF h.2⟩
  | [], _ :: _, h => h.elim
  | _ :: _, [], h => h.elim
def PostN (N : Nat) (rs : List ResultVar) (ty : TypeId) (xs : List D) : Exit → St → Prop
  | .ret, s | .normal, s => ∃ s' k o cs, Weak N s s' ∧ rs = [.tmp k] ∧ gt s'.sl k = .v (.c (.p o 0)) ∧ go s'.ob o = some (.var ty cs) ∧ dataCs cs = some xs ∧ rsv o = false
  | _, _ => False
instance {N : Nat} {rs : List ResultVar} {ty : TypeId} {xs : List D} : Clo N (PostN N rs ty xs) := ⟨fun e s m hw h => by
  cases e <;> simp only [PostN] at h ⊢ <;> first | exact h | (obtain ⟨s', k, o, cs, h1, h2⟩ := h; exact ⟨s', k, o, cs, weak_trans hw h1, h2⟩)⟩
theorem fin_retN {N : Nat} {s : St} {rs : List ResultVar} {ty : TypeId} {xs xs' : List D} {k o : Nat} {cs : List C} (h1 : rs = [.tmp k]) (h2 : gt s.sl k = .v (.c (.p o 0))) (h3 : go s.ob o = some (.var ty cs)) (h4 : dataCs cs = some xs') (h5 : rsv o = false) (h6 : xs' = xs) : PostN N rs ty xs .ret s := by
  subst h6; exact ⟨s, k, o, cs, weak_refl s, h1, h2, h3, h4, h5⟩
theorem fn_inN {P : Program} {f : FuncId} {fn : Func} {c : Code} {N : Nat} {args : List AV} {rs : List ResultVar} {ty : TypeId} {xs : List D} {sl0 : List (Nat × T)} (hf : P.funcs[f]? = some fn) (hb : fn.body = some c) (hnm : (fn.name == "runtime.NumGoroutine") = false) (hN : fn.ntmps = N) (hrs : fn.results.toList = rs)
    (ha : Nat.ble args.length N = true) (hs : argO 0 args = some sl0) (h : AWC P N c ⟨sl0, [], 0⟩ (PostN N rs ty xs)) : FnN P f args ty xs := by
  rw [argO_eq hs] at h
  refine ⟨fun vs w => by simp [callFunc, hf, hb]; simpa using hnm, fun F w vals hF hT hA => ?_⟩
  subst hrs
  refine calls_of_wp hf hb ?_
  let E : Env := { r := fun _ => none, F := F, G := fun _ => False }
  obtain ⟨h1, h2⟩ := argSl_ok (E := E) (F := F) rfl 0 hA
  have hle : args.length ≤ N := Nat.le_of_ble_eq_true ha
  have hsz : vals.size = args.length := by simpa using h1
  have hR : Rel N ⟨w, fun _ => False, fun _ => none, F, fun _ => False, ⟨hT, fun _ _ h => h⟩, fun _ => False⟩ E ⟨argSl 0 args, [], 0⟩ { tmps := vals ++ Array.replicate (fn.ntmps - vals.size) undef, defers := [] } w := by
    refine ⟨⟨hF, fun _ h => h.elim, fun _ h => h.elim, (fun _ _ _ h => by cases h), (fun _ _ _ _ _ h => by cases h), rfl, rfl, rfl, Nat.le_refl _, fun _ _ _ => rfl, (fun _ _ _ h => by cases h), fun _ h => .inl h, fun b h h' => absurd (hF b h) (by have : w.heap.size ≤ b := h'; omega), ⟨fun _ _ h => h.elim, fun _ _ _ h => h.elim, fun _ h => h.elim, fun _ h => h.elim, fun _ h => h.elim⟩⟩, (fun _ _ h => by cases h), (fun _ _ h => by cases h), fun k => ?_, rfl, by simp; omega, fun _ _ h => h.elim⟩
    by_cases hk : k < args.length
    · obtain ⟨u, h3, h4⟩ := (h2 k).1 ⟨Nat.zero_le _, by omega⟩
      have : (vals ++ Array.replicate (fn.ntmps - vals.size) undef).getD k undef = u := by
        have h5 : vals[k]? = some u := by simpa using h3
        have h6 : (vals ++ Array.replicate (fn.ntmps - vals.size) undef)[k]? = some u := by rw [Array.getElem?_append_left (by omega)]; exact h5
        simp [h6]
      rw [this]; exact h4
    · have := (h2 k).2 (by omega)
      show cvT E w (gt (argSl 0 args) k) _
      rw [this]; trivial
  refine wp_mono (h _ E _ w hR) ?_
  rintro e a' w' ⟨E', s', hR', hq⟩
  have fin : (∃ s'' k o cs, Weak N s' s'' ∧ fn.results.toList = [.tmp k] ∧ gt s''.sl k = .v (.c (.p o 0)) ∧ go s''.ob o = some (.var ty cs) ∧ dataCs cs = some xs ∧ rsv o = false) →
      a'.defers = [] ∧ ∃ v, (results fn a'.tmps).run P w' = .ok v w' ∧ ∃ (b : Nat) (arr : Array Value) (G : Nat → Prop), Ending.returned v = .returned (.pointer (some ⟨b, 0, none⟩)) ∧ Past w w' (fun _ => False) ∧ (∀ k, G k → w.heap.size ≤ k ∧ k < w'.heap.size ∧ Plain w' k) ∧ w.heap.size ≤ b ∧ b < w'.heap.size ∧ ¬ G b ∧ w'.heap[b]? = some (.cells arr ty (0, 0)) ∧ DV w' (fun k => F k ∨ G k) xs arr.toList := by
    rintro ⟨s'', k, o, cs, hw, hr1, hg, ho, hd, hv⟩
    obtain ⟨E'', hR''⟩ := hw _ _ _ _ hR'
    have ok := hR''.ok
    have hsl := hR''.sl k
    rw [hg] at hsl
    obtain ⟨b, cc, hrb, hu⟩ := hsl
    obtain ⟨b', c', arr, k1, k2, k3, k4⟩ := hR''.obs o _ ho
    rw [hrb] at k1; cases k1
    have hfr : fn.results = #[.tmp k] := by apply Array.ext'; simpa using hr1
    refine ⟨hR''.dfr, .pointer (some ⟨b, 0, none⟩), ?_, b, arr, fun k => E''.F k ∧ w.heap.size ≤ k, rfl, ⟨ok.os, ok.tape, ok.output, ok.size, ok.block⟩, fun k hk => ⟨hk.2, ok.fb k hk.1, ok.gc k hk.1 hk.2⟩, ?_, (ok.rb o b cc hrb).1, fun h => k4 h.1, k2, ?_⟩
    · have hres : results fn a'.tmps = (fn.results.mapM (resOne a'.tmps)) >>= fun vs => pure (if h : vs.size = 1 then vs[0] else .tuple vs) := rfl
      rw [hres, hfr]
      simp [resOne, hu]
    · rcases (ok.rb o b cc hrb).2 with h | h
      · exact h
      · exact h.1.elim
    · exact DV_mono (fun _ _ => rfl) (fun k hk => (ok.ff k hk).elim .inl (fun h => .inr ⟨hk, h⟩)) (dataCs_ok ok hd k3)
  cases e with
  | normal => exact fin hq
  | ret => exact fin hq
  | _ => exact hq.elim
theorem n_callN {P : Program} {d : Tmp} {ty0 : TypeId} {ps : String} {af : Array Edge} {gd : Option (Nat × Bool)} {f : FuncId} {args : List Operand} {tys : Array TypeId} {ts : List T} {avs : List AV} {eqs : List (Nat × Nat)} {ty : TypeId} {xs : List D} {nx : Nat}
    (hl : ts.length = args.length) (ha : tsdat [] ts = some (avs, eqs)) (hF : FnN P f avs ty xs) (he : Eqs eqs) :
    AWN P ⟨some d, .call ⟨.value (.func f), args.toArray, tys⟩, ty0, ps, af, gd⟩ (args.zip ts) [] (.v (.c (.p nx 0))) [(nx, .var ty (xs.map (ldC false)))] := by
  intro cx E a w ok hn hb hfr
  have hA := tsdat_ok ok (nob := []) (fun l x h => by cases h) ha he hl hn
  have hcF : ∀ b, callF E [] b → E.F b := by
    rintro b (h | ⟨l, x, c, h1, h2⟩)
    · exact h
    · cases h1
  have hc := hF.calls (callF E []) w (args.map a.eval).toArray (fun b h => ok.fb b (hcF b h)) ok.tabs (by simpa using hA)
  have hent := hF.enters (args.map a.eval).toArray w
  unfold Oper.wp
  have hrun : (execOp a.eval ⟨some d, .call ⟨.value (.func f), args.toArray, tys⟩, ty0, ps, af, gd⟩).run P w = .ok (.enter f (args.map a.eval).toArray) w := by
    simp only [execOp, resolve, Act.eval, Deferred.ofValue, Sem.run_bind, Sem.run_pure, Result.andThen_ok, invoke]
    simpa using hent
  rw [hrun, Oper.upon_enter]
  refine hc.mono ?_
  rintro e w' ⟨b, arr, G, rfl, hp, hG, hb1, hb2, hbG, hh, hD⟩
  obtain ⟨hl0, hrv⟩ := hfr nx (.var ty (xs.map (ldC false))) (List.mem_singleton.2 rfl)
  obtain ⟨ok', ext⟩ := env_after (nx := nx) (bs := [(b, 0)]) ok hp hG (by simp; exact ⟨hb1, hb2⟩) (by simp) (fun l h1 h2 => by
    have : l = nx := by simp at h2; omega
    subst this; exact ⟨hl0, hrv⟩)
  have hr : (E.after nx [(b, 0)] G).r nx = some (b, 0) := by simp [Env.after]
  refine ⟨.pointer (some ⟨b, 0, none⟩), E.after nx [(b, 0)] G, rfl, ok', ext, ⟨b, 0, hr, rfl⟩, fun l ob hm => ?_, fun l x hx => ?_⟩
  · simp at hm; obtain ⟨rfl, rfl⟩ := hm
    refine ⟨b, 0, arr, hr, hh, ?_, ?_⟩
    · exact DV_CV (E := E.after l [(b, 0)] G) (F := fun k => E.F k ∨ G k) rfl (DV_mono (fun _ _ => rfl) (fun k hk => hk.elim (fun h => .inl (hcF k h)) .inr) hD)
    · rintro (h | h)
      · have := ok.fb b h; omega
      · exact hbG h
  · simp only [Env.after] at hx
    split at hx
    · rename_i hh2
      have : l = nx := by have := hh2.2; simp at this; omega
      subst this; exact .inr ⟨.var ty (xs.map (ldC false)), List.mem_singleton.2 rfl⟩
    · exact .inl hx
theorem cn {P : Program} {N : Nat} {d : Tmp} {ty0 : TypeId} {ps : String} {af : Array Edge} {gd : Option (Nat × Bool)} {f : FuncId} {args : List Operand} {tys : Array TypeId} {sl : List (Nat × T)} {ob : List (Nat × Ob)} {nx nx' : Nat} {ts : List T} {avs : List AV} {eqs : List (Nat × Nat)} {ty : TypeId} {xs : List D} {cs : List C}
    (hF : FnN P f avs ty xs) (ht : opTs sl args = some ts) (ha : tsdat [] ts = some (avs, eqs)) (he : Eqs eqs) (hc : ldO false xs = some cs) (hN : nlt d N = true) (hq : nxt nx = some nx') :
    NS P N ⟨some d, .call ⟨.value (.func f), args.toArray, tys⟩, ty0, ps, af, gd⟩ ⟨sl, ob, nx⟩ ⟨(d, .v (.c (.p nx 0))) :: sl, (nx, .var ty cs) :: ob, nx'⟩ ⟨d, args.zip ts, [], .v (.c (.p nx 0)), [(nx, .var ty cs)]⟩ := by
  obtain ⟨h1, h2⟩ := opTs_ok ht
  rw [ldO_eq hc]
  exact ns_mk (st := ⟨sl, ob, nx⟩) (n_callN h1 ha hF he) rfl hN h2 trivial (nxt_ok hq)
end Go.AM
