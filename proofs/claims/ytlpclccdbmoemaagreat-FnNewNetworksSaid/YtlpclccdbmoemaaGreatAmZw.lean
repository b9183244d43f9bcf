/-
  The abstract machine, part Zw: a contract FnV whose new rows are handed on as data, as a contract FnW.
-/
import Derived.Test.YtlpclccdbmoemaaGreatAmZv
set_option linter.unusedVariables false
namespace Go.AM
open Go.RowKit
def fzC (nw : List (Nat × Ob)) : C → Option (RC × List (Nat × Nat))
  | .d _ (.i k n) => some (.d (.i k n), [])
  | .d _ (.b x) => some (.d (.b x), [])
  | .d _ (.str s) => some (.d (.str s), [])
  | .d true (.l xs) => some (.d (.l xs), [])
  | .wn l n => match go nw l with
    | some (.rown _ _ els true) => some (.d (.l els), [(els.length, n)])
    | _ => none
  | .w l n => match go nw l with
    | some (.row _ _ els true true) => some (.d (.l els), [(els.length, n)])
    | _ => none
  | _ => none
def fzCs (nw : List (Nat × Ob)) : List C → Option (List RC × List (Nat × Nat))
  | [] => some ([], [])
  | c :: cs => match fzC nw c, fzCs nw cs with
    | some (r, e), some (rs, es) => some (r :: rs, e ++ es)
    | _, _ => none
def fzV (nw : List (Nat × Ob)) : V → Option (RV × List (Nat × Nat))
  | .c c => match fzC nw c with
    | some (r, e) => some (.c r, e)
    | none => none
  | .agg cs => match fzCs nw cs with
    | some (r, e) => some (.agg r, e)
    | none => none
def fzVs (nw : List (Nat × Ob)) : List V → Option (List RV × List (Nat × Nat))
  | [] => some ([], [])
  | c :: cs => match fzV nw c, fzVs nw cs with
    | some (r, e), some (rs, es) => some (r :: rs, e ++ es)
    | _, _ => none
def fzT (nw : List (Nat × Ob)) : T → Option (List RV × List (Nat × Nat))
  | .v v => match fzV nw v with
    | some (r, e) => some ([r], e)
    | none => none
  | .tup (a :: b :: vs) => fzVs nw (a :: b :: vs)
  | _ => none
section
variable {nw : List (Nat × Ob)} {E : Env} {w : World} {G : Nat → Prop} {base : Nat} (hG : ∀ b, E.G b → G b) (hN : ∀ l y, go nw l = some y → relOb E w l y) (hb : ∀ l y b c, go nw l = some y → E.r l = some (b, c) → Plain w b → G b)
include hG hN hb
theorem fzC_ok {c : C} {r : RC} {e : List (Nat × Nat)} {u : Value} (h : fzC nw c = some (r, e)) (he : Eqs e) (hc : cvC E w c u) : rcR w G base r u [] := by
  cases c with
  | d g x =>
    cases x with
    | i k n => simp [fzC] at h; obtain ⟨rfl, rfl⟩ := h; exact ⟨rfl, by simpa [cvC, rdD] using hc⟩
    | b n => simp [fzC] at h; obtain ⟨rfl, rfl⟩ := h; exact ⟨rfl, by simpa [cvC, rdD] using hc⟩
    | str n => simp [fzC] at h; obtain ⟨rfl, rfl⟩ := h; exact ⟨rfl, by simpa [cvC, rdD] using hc⟩
    | k A n c' => simp [fzC] at h
    | l xs =>
      cases g with
      | false => simp [fzC] at h
      | true => simp [fzC] at h; obtain ⟨rfl, rfl⟩ := h; exact ⟨rfl, rdD_mono (fun _ _ => rfl) hG _ _ hc⟩
  | wn l n =>
    simp only [fzC] at h
    split at h
    · rename_i ty sz els hg
      simp at h; obtain ⟨rfl, rfl⟩ := h
      have hn : els.length = n := he.1
      rcases hc with ⟨h0, h1, h2⟩ | ⟨h0, b, c, h1, h2⟩
      · subst h2; subst hn
        have : els = [] := List.eq_nil_of_length_eq_zero h1
        subst this
        exact ⟨rfl, none, 0, rfl, Nat.le_refl _, .inl rfl⟩
      · rcases hN l _ hg with ⟨k0, _⟩ | ⟨_, b', c', arr, k1, k2, k3, k4, k5, k6, k7, k8⟩
        · exact absurd k0 h0
        · rw [h1] at k1; cases k1
          exact ⟨rfl, some ⟨b, 0, none⟩, c, by rw [hn]; exact h2, k4, .inr ⟨b, 0, rfl, hb l _ b c hg h1 ⟨arr, ty, k2⟩, rdLL_mono' (fun _ _ => rfl) hG rfl _ _ k7⟩⟩
    · cases h
  | w l n =>
    simp only [fzC] at h
    split at h
    · rename_i ty sz els hg
      simp at h; obtain ⟨rfl, rfl⟩ := h
      have hn : els.length = n := he.1
      obtain ⟨b, c, h1, h2⟩ := hc
      obtain ⟨b', c', arr, k1, k2, k3, k4, k5, k6, k7, k8, _⟩ := hN l _ hg
      rw [h1] at k1; cases k1
      exact ⟨rfl, some ⟨b, 0, none⟩, c, by rw [hn]; exact h2, k4, .inr ⟨b, 0, rfl, hb l _ b c hg h1 ⟨arr, ty, k2⟩, rdLL_mono' (fun _ _ => rfl) hG rfl _ _ k7⟩⟩
    · cases h
  | _ => simp [fzC] at h
theorem fzCs_ok : ∀ {cs : List C} {rs : List RC} {e : List (Nat × Nat)} {us : List Value}, fzCs nw cs = some (rs, e) → Eqs e → CV E w cs us → rcsR w G base rs us []
  | [], rs, e, us, h, he, hc => by
    simp [fzCs] at h; obtain ⟨rfl, rfl⟩ := h
    cases us with
    | nil => rfl
    | cons _ _ => exact hc.elim
  | c :: cs, rs, e, us, h, he, hc => by
    simp only [fzCs] at h
    split at h
    · rename_i r e1 rs' e2 h1 h2
      simp at h; obtain ⟨rfl, rfl⟩ := h
      obtain ⟨g1, g2⟩ := Eqs_append he
      cases us with
      | nil => exact hc.elim
      | cons u us => exact ⟨[], [], rfl, fzC_ok hG hN hb h1 g1 hc.1, fzCs_ok h2 g2 hc.2⟩
    · cases h
theorem fzV_ok {v : V} {r : RV} {e : List (Nat × Nat)} {u : Value} (h : fzV nw v = some (r, e)) (he : Eqs e) (hc : cvV E w v u) : rvR w G base r u [] := by
  cases v with
  | c c =>
    simp only [fzV] at h
    split at h
    · rename_i r' e' h1; simp at h; obtain ⟨rfl, rfl⟩ := h; exact fzC_ok hG hN hb h1 he hc
    · cases h
  | agg cs =>
    simp only [fzV] at h
    split at h
    · rename_i r' e' h1; simp at h; obtain ⟨rfl, rfl⟩ := h
      obtain ⟨arr, hu, hc⟩ := hc
      exact ⟨arr, hu, fzCs_ok hG hN hb h1 he hc⟩
    · cases h
theorem fzVs_ok : ∀ {cs : List V} {rs : List RV} {e : List (Nat × Nat)} {us : List Value}, fzVs nw cs = some (rs, e) → Eqs e → VV E w cs us → rvsR w G base rs us []
  | [], rs, e, us, h, he, hc => by
    simp [fzVs] at h; obtain ⟨rfl, rfl⟩ := h
    cases us with
    | nil => rfl
    | cons _ _ => exact hc.elim
  | c :: cs, rs, e, us, h, he, hc => by
    simp only [fzVs] at h
    split at h
    · rename_i r e1 rs' e2 h1 h2
      simp at h; obtain ⟨rfl, rfl⟩ := h
      obtain ⟨g1, g2⟩ := Eqs_append he
      cases us with
      | nil => exact hc.elim
      | cons u us => exact ⟨[], [], rfl, fzV_ok hG hN hb h1 g1 hc.1, fzVs_ok h2 g2 hc.2⟩
    · cases h
theorem fzT_ok {t : T} {rs : List RV} {e : List (Nat × Nat)} {u : Value} (h : fzT nw t = some (rs, e)) (he : Eqs e) (hc : cvT E w t u) : resR w G base rs u [] := by
  cases t with
  | v v =>
    simp only [fzT] at h
    split at h
    · rename_i r' e' h1; simp at h; obtain ⟨rfl, rfl⟩ := h; exact fzV_ok hG hN hb h1 he hc
    · cases h
  | any => cases h
  | tup ts =>
    match ts, h, hc with
    | [], h, _ => cases h
    | [_], h, _ => cases h
    | a :: b :: vs, h, hc =>
      obtain ⟨arr, hu, hc⟩ := hc
      have h : fzVs nw (a :: b :: vs) = some (rs, e) := h
      have key := fzVs_ok hG hN hb (base := base) h he hc
      have hlen : ∃ x y zs, rs = x :: y :: zs := by
        simp only [fzVs] at h
        split at h
        · rename_i r e1 rs' e2 h1 h2
          split at h2
          · rename_i r' e1' rs'' e2' h1' h2'
            simp at h2 h; obtain ⟨rfl, rfl⟩ := h2; obtain ⟨rfl, rfl⟩ := h; exact ⟨_, _, _, rfl⟩
          · cases h2
        · cases h
      obtain ⟨x, y, zs, rfl⟩ := hlen
      exact ⟨arr, hu, key⟩
end
def nwNew : List (Nat × Ob) → Bool
  | [] => true
  | (l, _) :: r => !rsv l && nwNew r
theorem nwNew_go {l : Nat} {y : Ob} : ∀ {nw : List (Nat × Ob)}, nwNew nw = true → go nw l = some y → rsv l = false
  | [], _, h => by cases h
  | (k, z) :: r, h0, h => by
    simp only [nwNew, Bool.and_eq_true, Bool.not_eq_true'] at h0
    by_cases e : k = l
    · subst e; exact h0.1
    · rw [go_other _ _ e] at h; exact nwNew_go h0.2 h
theorem FnV.frzW {P : Program} {f : FuncId} {t t' : TypeId} {cs cs' : List C} {args : List T} {out : T} {nw : List (Nat × Ob)} {res : List RV} {e : List (Nat × Nat)} (h : FnV P f [(200, .var t cs)] args [(200, .var t' cs')] out nw) (hf : cs'.all C.free = true) (hz : fzT nw out = some (res, e)) (he : Eqs e) (hn : nwNew nw = true) :
    FnW P f (.var t cs) args (.var t' cs') res := by
  refine ⟨h.enters, fun F w vals b c hF hb hT hs hx hA => ?_⟩
  have hbF : ¬ F b := by
    obtain ⟨b', c', arr, k1, k2, k3, k4⟩ := hx
    simp [E0] at k1; obtain ⟨rfl, rfl⟩ := k1
    exact k4
  have hr0 : ∀ o p, (E0 b c F).r o = some p ↔ o = 200 ∧ p = (b, c) := fun o p => by
    show (if o = 200 then some (b, c) else none) = some p ↔ _
    split
    · rename_i h; simp [h, eq_comm]
    · rename_i h; simp [h]
  have hI : VIn (E0 b c F) w := ⟨hF, fun _ h => h.elim, fun o b' c' h => by
      obtain ⟨rfl, e⟩ := (hr0 _ _).1 h; cases e; exact ⟨hb, rfl, hbF⟩, fun o o' b' c1 c2 h h' => by rw [((hr0 _ _).1 h).1, ((hr0 _ _).1 h').1], fun _ _ h => h, fun _ h => h⟩
  refine (h.calls (E0 b c F) w vals hI hT (fun k hk o c' h => by obtain ⟨_, e⟩ := (hr0 _ _).1 h; cases e; exact hs b hk rfl) (fun l x h => ?_) hA).mono ?_
  · by_cases el : 200 = l
    · subst el; rw [go_same] at h; cases h; exact hx
    · rw [go_other _ _ el] at h; cases h
  · rintro en w' ⟨v, E', hen, vo, hv, hys, hnw⟩
    refine ⟨v, fun k => (E'.F k ∧ w.heap.size ≤ k) ∨ (w.heap.size ≤ k ∧ k < w'.heap.size ∧ Plain w' k ∧ ∃ l y c, go nw l = some y ∧ E'.r l = some (k, c)), [], hen, ⟨vo.past.os, vo.past.tape, vo.past.output, vo.past.size, fun k hk hW => vo.past.block k hk (fun ⟨o, c', ho⟩ => hW (by obtain ⟨_, e⟩ := (hr0 _ _).1 ho; cases e; rfl))⟩, fun k hk => ?_, ?_, by simp, ?_⟩
    · rcases hk with ⟨h1, h2⟩ | ⟨h1, h2, h3, _⟩
      · refine ⟨h2, vo.fb k h1, ?_⟩
        rcases vo.f0 k h1 with h | h
        · have := hF k h; omega
        · exact h.2
      · exact ⟨h1, h2, h3⟩
    · refine fzT_ok (fun k hk => .inl ⟨vo.gf k hk, (vo.g0 k hk).resolve_right (fun h => h.elim)⟩) hnw (fun l y k c' hg hr hp => ?_) hz he hv
      obtain ⟨q1, q2⟩ := vo.rb l k c' hr
      exact .inr ⟨q2.resolve_right (fun q => by rw [nwNew_go hn hg] at q; cases q.2), q1, hp, l, y, c', hg, hr⟩
    · obtain ⟨b', c', arr, k1, k2, k3, k4⟩ := hys 200 _ (go_same _ _ _)
      have hp := vo.pin 200 _ rfl k1
      obtain ⟨_, ep⟩ := (hr0 _ _).1 hp; cases ep
      refine ⟨b, c, arr, by simp [E1], k2, CV_free (E := E') (fun g k hk => ?_) (fun _ _ _ => rfl) hf k3, ?_⟩
      · have hFk : ∀ k, E'.F k → F k ∨ (E'.F k ∧ w.heap.size ≤ k) := fun k hk => (vo.f0 k hk).imp id (fun h => ⟨hk, h.1⟩)
        cases g with
        | false =>
          show F k ∨ _
          rcases hFk k hk with h | h
          · exact .inl h
          · exact .inr (.inl h)
        | true =>
          exact .inl ⟨vo.gf k hk, (vo.g0 k hk).resolve_right (fun h => h.elim)⟩
      · rintro (h1 | ⟨h1, h2⟩ | ⟨h1, _⟩)
        · exact hbF h1
        · omega
        · omega
end Go.AM
