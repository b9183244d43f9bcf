/-
  The abstract machine, part T: a row that nobody writes any more becomes data.
-/
import Derived.Test.YtlpclccdbmoemaaGreatAmS
set_option linter.unusedVariables false
namespace Go.AM
/-- Row o is not written any more. -/
theorem weak_frz {N : Nat} {sl : List (Nat × T)} {ob : List (Nat × Ob)} {nx o ty sz : Nat} {els : List (List D)} {g : Bool} (ho : go ob o = some (.row ty sz els g true)) (hlt : rsv o = false) :
    Weak N ⟨sl, ob, nx⟩ ⟨sl, (o, .row ty sz els g false) :: ob, nx⟩ := by
  intro cx E a w hR
  obtain ⟨b, c, arr, hr, hh, ha, hlc, hmx, hes, hrd, hFm, _⟩ := hR.obs o _ ho
  have hF := hFm rfl
  obtain ⟨hb1, hb2⟩ := hR.ok.rb o b c hr
  have hb3 : cx.w0.heap.size ≤ b := by
    rcases hb2 with h | h
    · exact h
    · rw [hlt] at h; cases h.2
  let E' : Env := ⟨E.r, fun k => E.F k ∨ k = b, fun k => E.G k ∨ (g = true ∧ k = b), E.T, E.Z, E.n⟩
  have hH : ∀ g' k, E.H g' k → E'.H g' k := fun g' k hk => by cases g' <;> exact .inl hk
  have hk : Keeps E w E' w := ⟨fun _ _ h => h, hH, fun _ _ _ => rfl, fun _ _ h => ⟨h, rfl⟩, fun _ h => ⟨h, .refl _ _⟩, rfl⟩
  refine ⟨E', ⟨?_, ?_, ?_, hR.ok.rb, hR.ok.inj, hR.ok.os, hR.ok.tape, hR.ok.output, hR.ok.size, hR.ok.block, hR.ok.pin, fun k hk => hk.elim (hR.ok.ff k) (fun e => .inr (e ▸ hb3)), fun k hk hk' => hk.elim (fun h => hR.ok.gc k h hk') (fun e => e ▸ ⟨arr, ty, hh⟩),
    ⟨fun l k h => ?_, hR.ok.sf.tt, fun k h => ?_, hR.ok.sf.zs, hR.ok.sf.ze⟩⟩, hR.dom, fun l x hl => ?_, fun k => cvT_keeps hk (hR.sl k), hR.dfr, hR.size, hR.td⟩
  · rintro k (h | rfl)
    · exact hR.ok.fb k h
    · exact hb1
  · rintro k (h | ⟨_, rfl⟩)
    · exact .inl (hR.ok.gf k h)
    · exact .inr rfl
  · rintro k (h | ⟨_, rfl⟩)
    · exact hR.ok.gn k h
    · exact .inl hb3
  · obtain ⟨h1, h2, h3, h4⟩ := hR.ok.sf.tb l k h
    exact ⟨h1, fun hk => hk.elim h2 (fun e => by subst e; exact h3 o c hr), h3, h4⟩
  · obtain ⟨h1, h2, h3, h4⟩ := hR.ok.sf.zc k h
    exact ⟨h1, fun hk => hk.elim h2 (fun e => by subst e; exact h3 o c hr), h3, h4⟩
  · by_cases hol : o = l
    · subst hol
      rw [go_same] at hl
      cases hl
      exact ⟨b, c, arr, hr, hh, ha, hlc, hmx, hes, rdLL_mono' (fun _ _ => rfl) (hH g) rfl _ _ hrd, (fun h => by cases h), fun _ => ⟨.inr rfl, fun hg => .inr ⟨hg, rfl⟩⟩⟩
    · rw [go_other _ _ hol] at hl
      refine relOb_keeps hk (fun _ _ _ => rfl) (fun b' c' hr' hn hn' => ?_) (hR.obs l x hl)
      rcases hn' with h | h
      · exact hn h
      · subst h; exact hol (hR.ok.inj _ _ _ _ _ hr hr')
/-- A cell that names a row which nobody writes, as data; what must be equal for that. -/
def dfz (ob : List (Nat × Ob)) : C → Option (C × List (Nat × Nat))
  | .w o n => match go ob o with
    | some (.row _ _ els g false) => some (.d g (.l els), [(els.length, n)])
    | _ => some (.w o n, [])
  | c => some (c, [])
def dfzs (ob : List (Nat × Ob)) : List C → Option (List C × List (Nat × Nat))
  | [] => some ([], [])
  | c :: cs => match dfz ob c, dfzs ob cs with
    | some (x, e), some (xs, es) => some (x :: xs, e ++ es)
    | _, _ => none
def vfz (ob : List (Nat × Ob)) : T → Option (T × List (Nat × Nat))
  | .v (.c c) => match dfz ob c with
    | some (x, e) => some (.v (.c x), e)
    | none => none
  | .v (.agg cs) => match dfzs ob cs with
    | some (x, e) => some (.v (.agg x), e)
    | none => none
  | _ => none
theorem dfz_ok {E : Env} {w : World} {ob : List (Nat × Ob)} (hob : ∀ l x, go ob l = some x → relOb E w l x) {c c' : C} {e : List (Nat × Nat)} {u : Value} (h : dfz ob c = some (c', e)) (he : Eqs e) (hc : cvC E w c u) : cvC E w c' u := by
  unfold dfz at h
  split at h
  · rename_i o n
    split at h
    · rename_i ho
      simp at h; obtain ⟨rfl, rfl⟩ := h
      obtain ⟨b, c, hr, rfl⟩ := hc
      obtain ⟨b', c', arr, hr', hh, ha, hlc, hmx, hes, hrd, _, hFm⟩ := hob o _ ho
      rw [hr] at hr'; cases hr'
      obtain ⟨h1, h2⟩ := hFm rfl
      have hn := he.1
      subst hn
      show rdD _ _ _ _
      rw [rdD]
      refine ⟨_, _, rfl, hlc, .inr ⟨b, 0, rfl, ?_, hrd⟩⟩
      rename_i g _
      cases g
      · exact h1
      · exact h2 rfl
    · simp at h; obtain ⟨rfl, rfl⟩ := h; exact hc
  · simp at h; obtain ⟨rfl, rfl⟩ := h; exact hc
theorem dfzs_ok {E : Env} {w : World} {ob : List (Nat × Ob)} (hob : ∀ l x, go ob l = some x → relOb E w l x) : ∀ {cs cs' : List C} {e : List (Nat × Nat)} {us : List Value}, dfzs ob cs = some (cs', e) → Eqs e → CV E w cs us → CV E w cs' us
  | [], cs', e, us, h, he, hc => by simp [dfzs] at h; obtain ⟨rfl, rfl⟩ := h; exact hc
  | c :: cs, cs', e, us, h, he, hc => by
    cases us with
    | nil => exact hc.elim
    | cons u us =>
      simp only [dfzs] at h
      split at h
      · rename_i h1 h2
        simp at h; obtain ⟨rfl, rfl⟩ := h
        obtain ⟨k1, k2⟩ := Eqs_append he
        exact ⟨dfz_ok hob h1 k1 hc.1, dfzs_ok hob h2 k2 hc.2⟩
      · cases h
theorem weak_cast {N : Nat} {sl : List (Nat × T)} {ob : List (Nat × Ob)} {nx k : Nat} {t t' : T} {e : List (Nat × Nat)} (hk : gt sl k = t) (hv : vfz ob t = some (t', e)) (he : Eqs e) : Weak N ⟨sl, ob, nx⟩ ⟨(k, t') :: sl, ob, nx⟩ := by
  intro cx E a w hR
  refine ⟨E, hR.ok, hR.dom, hR.obs, fun j => ?_, hR.dfr, hR.size, hR.td⟩
  by_cases hj : k = j
  · subst hj
    rw [gt_same]
    have := hR.sl k
    rw [hk] at this
    unfold vfz at hv
    split at hv
    · split at hv
      · rename_i h1; simp at hv; obtain ⟨rfl, rfl⟩ := hv; exact dfz_ok hR.obs h1 he this
      · cases hv
    · split at hv
      · rename_i h1; simp at hv; obtain ⟨rfl, rfl⟩ := hv; obtain ⟨arr, hu, hc⟩ := this; exact ⟨arr, hu, dfzs_ok hR.obs h1 he hc⟩
      · cases hv
    · cases hv
  · rw [gt_other _ _ hj]; exact hR.sl j
end Go.AM
