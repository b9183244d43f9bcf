/-
  The abstract machine, part Zt: rows of pairs: opened at a place, begun, frozen.
-/
import Derived.Test.YtlpclccdbmoemaaGreatAmZs
set_option linter.unusedVariables false
namespace Go.AM
open Go.RowKit
section
variable {P : Program} {N : Nat} {sl sl1 sl2 : List (Nat × T)} {ob ob1 : List (Nat × Ob)} {nx : Nat} {AQ : Exit → St → Prop}
theorem rel_add {cx : Cx} {E : Env} {a : Act} {w : World} {o : Nat} {z : Ob} (hR : Rel N cx E ⟨sl, ob, nx⟩ a w) (hz : relOb E w o z) : Rel N cx E ⟨sl, (o, z) :: ob, nx⟩ a w :=
  ⟨hR.ok, hR.dom, fun l x h => by
    by_cases e : o = l
    · subst e; rw [go_same] at h; cases h; exact hz
    · rw [go_other _ _ e] at h; exact hR.obs l x h, hR.sl, hR.dfr, hR.size, hR.td⟩
/-- A slot is opened: what lies in it is told; the row that it names is a thing of its own. -/
theorem awc_open {c : Code} {o i : Nat} {ty nt : TypeId} {els : List (Int × List Int)} {e : Int × List Int} (ho : go ob o = some (.cxo o ty nt els none)) (he : els[i]? = some e) (hol : nlt o nx = true) (hrv : rsv nx = false)
    (h1 : killS nx sl = some sl1) (h2 : dropS o sl1 = some sl2) (h3 : delO nx (delO o ob) = ob1) (h4 : okO nx o ob1 = true)
    (hnil : e.2 = [] → AWC P N c ⟨sl2, (o, .cxo o ty nt els (some (i, none, 0, 0))) :: ob1, nx⟩ AQ)
    (hcons : ∀ k cc, AWC P N c ⟨sl2, (nx, .abs nx (Hid.loc nt (some ⟨k, 0, none⟩) e.2.length cc e.2)) :: (o, .cxo o ty nt els (some (i, some ⟨k, 0, none⟩, e.2.length, cc))) :: ob1, nx + 1⟩ AQ) : AWC P N c ⟨sl, ob, nx⟩ AQ := by
  intro cx E a w hR
  have ok := hR.ok
  obtain ⟨hnn, b, cb, hd, hr, hS, hF⟩ := cx_open he (hR.obs o _ ho)
  have hil : i < els.length := (List.getElem?_eq_some_iff.1 he).1
  have hs0 := hS.s i e he rfl
  have hn0 := hS.ne i e he rfl
  cases hdi : hd i with
  | none =>
    rw [hdi] at hs0 hn0
    refine hnil hn0 cx E a w (rel_kg hR ok ⟨fun _ _ _ h => h, fun _ _ h => h, fun _ _ _ => rfl, fun _ _ _ h => ⟨h, rfl⟩, fun b _ => ⟨by assumption, SimB.refl w b⟩, fun _ _ => Iff.rfl⟩ h1 h2 h3 h4 (.inr ⟨hnn, b, cb, hr, ⟨hd, hS.blk, hS.len, hS.cap, hS.a, fun j ej hj _ => hS.s j ej hj rfl, fun j ej hj _ => hS.ne j ej hj rfl, fun j j' k c1 c2 hj hj' _ _ => hS.inj j j' k c1 c2 hj hj' rfl rfl, fun j A n k h => ?_⟩, hF⟩) (fun _ _ _ _ _ _ => rfl) (fun _ _ _ _ _ _ h => h) hR.dom hR.td)
    cases h
    exact hs0
  | some p =>
    obtain ⟨k, cc⟩ := p
    rw [hdi] at hs0 hn0
    obtain ⟨hTk, hrow⟩ := hn0
    obtain ⟨t1, t2, t3, t4⟩ := ok.sf.tb o k hTk
    obtain ⟨E', hE'⟩ : ∃ E' : Env, E' = { E with r := fun l => if l = nx then some (k, cc) else E.r l, T := fun l j => E.T l j ∧ j ≠ k, n := fun l => l ≠ nx ∧ E.n l } := ⟨_, rfl⟩
    have e_r : ∀ l p, E'.r l = some p ↔ (l = nx ∧ p = (k, cc)) ∨ (l ≠ nx ∧ E.r l = some p) := fun l p => by
      subst hE'
      show (if l = nx then some (k, cc) else E.r l) = some p ↔ _
      split
      · rename_i h; simp [h, eq_comm]
      · rename_i h; simp [h]
    have e_T : ∀ l j, E'.T l j ↔ E.T l j ∧ j ≠ k := fun l j => by subst hE'; exact Iff.rfl
    have e_F : E'.F = E.F := by subst hE'; rfl
    have e_G : E'.G = E.G := by subst hE'; rfl
    have e_Z : E'.Z = E.Z := by subst hE'; rfl
    have e_n : ∀ l, E'.n l ↔ l ≠ nx ∧ E.n l := fun l => by subst hE'; exact Iff.rfl
    have e_H : ∀ g, E'.H g = E.H g := fun g => by cases g; exact e_F; exact e_G
    have hnx : ∀ l p, E.r l = some p → l ≠ nx := fun l p h => Nat.ne_of_lt (hR.dom l p h)
    have hon : o ≠ nx := Nat.ne_of_lt (blt_lt hol)
    have ok' : EnvOK cx E' w := by
      refine ⟨by rw [e_F]; exact ok.fb, by rw [e_F, e_G]; exact ok.gf, by rw [e_G]; exact ok.gn, fun l j c h => ?_, fun l l' j c c' h h' => ?_, ok.os, ok.tape, ok.output, ok.size, ok.block, fun l p hp h => ?_, by rw [e_F]; exact ok.ff, by rw [e_F]; exact ok.gc, ⟨fun l j h => ?_, fun l l' j h h' => ok.sf.tt l l' j ((e_T _ _).1 h).1 ((e_T _ _).1 h').1, fun j h => ?_, ok.sf.zs, by rw [e_Z]; exact ok.sf.ze⟩⟩
      · rcases (e_r _ _).1 h with ⟨rfl, hp⟩ | ⟨_, h⟩
        · cases hp; exact ⟨t1.1, .inl t1.2⟩
        · exact ok.rb l j c h
      · rcases (e_r _ _).1 h with ⟨rfl, hp⟩ | ⟨q1, h⟩ <;> rcases (e_r _ _).1 h' with ⟨rfl, hp'⟩ | ⟨q2, h'⟩
        · rfl
        · cases hp; exact absurd h' (t3 l' c')
        · cases hp'; exact absurd h (t3 l c)
        · exact ok.inj l l' j c c' h h'
      · rcases (e_r _ _).1 h with ⟨rfl, hp'⟩ | ⟨_, h⟩
        · rw [rsv_rsp hrv] at hp; cases hp
        · exact ok.pin l p hp h
      · obtain ⟨h, hj⟩ := (e_T _ _).1 h
        obtain ⟨u1, u2, u3, u4⟩ := ok.sf.tb l j h
        refine ⟨u1, by rw [e_F]; exact u2, fun o' c' h' => ?_, u4⟩
        rcases (e_r _ _).1 h' with ⟨_, hp⟩ | ⟨_, h'⟩
        · cases hp; exact hj rfl
        · exact u3 o' c' h'
      · obtain ⟨u1, u2, u3, u4⟩ := ok.sf.zc j h
        refine ⟨u1, by rw [e_F]; exact u2, fun o' c' h' => ?_, u4⟩
        rcases (e_r _ _).1 h' with ⟨_, hp⟩ | ⟨_, h'⟩
        · cases hp; have := t1.2; have := u1.1; omega
        · exact u3 o' c' h'
    have kg : KG nx o E w E' w := ⟨fun l p hl h => (e_r _ _).2 (.inr ⟨hl, h⟩), fun g j h => by rw [e_H]; exact h, fun _ _ _ => rfl, fun l j hl h => ⟨(e_T _ _).2 ⟨h, fun e => by subst e; exact hl (ok.sf.tt l o j h hTk)⟩, rfl⟩, fun j h => ⟨by rw [e_Z]; exact h, SimB.refl w j⟩, fun l hl => by rw [e_n]; simp [hl]⟩
    refine hcons k cc cx E' a w (rel_add (rel_kg hR ok' kg h1 h2 h3 h4 (.inr ⟨by rw [e_n]; simp [hnn], b, cb, (e_r _ _).2 (.inr ⟨hon, hr⟩), ⟨hd, hS.blk, hS.len, hS.cap, hS.a, fun j ej hj _ => hS.s j ej hj rfl, fun j ej hj hjh => (hS.ne j ej hj rfl).keep (fun k' c' hk' hT => (e_T o k').2 ⟨hT, fun ek => ?_⟩) (fun _ _ _ _ => rfl), fun j j' k c1 c2 hj hj' _ _ => hS.inj j j' k c1 c2 hj hj' rfl rfl, fun j A n k' h => ?_⟩, by rw [e_F]; exact hF⟩)
      (fun _ _ _ _ _ _ => rfl) (fun l b' c' _ _ _ h => by rw [e_F]; exact h) (fun l p h => ?_) (fun l j h => Nat.lt_succ_of_lt (hR.td l j ((e_T _ _).1 h).1))) (.inr ⟨by rw [e_n]; simp, k, cc, (e_r _ _).2 (.inl ⟨rfl, rfl⟩), ⟨rfl, rfl, rfl, hrow⟩, by rw [e_F]; exact t2⟩))
    · subst ek
      have := hS.inj j i k' c' cc (List.getElem?_eq_some_iff.1 hj).1 hil rfl rfl hk' hdi
      subst this
      simp [holeAt] at hjh
    · cases h; exact hs0
    · rcases (e_r _ _).1 h with ⟨rfl, _⟩ | ⟨_, h⟩
      · exact Nat.lt_succ_self _
      · exact Nat.lt_succ_of_lt (hR.dom l p h)
/-- A row of pairs begins: all its slots are nil. -/
theorem weak_cx {o : Nat} {ty nt : TypeId} {al : List Int} {g : Bool} (ho : go ob o = some (.rown ty 2 (al.map fun a => [.i .i64 a, .k none 0 0]) g)) (h3 : delO o ob = ob1) : Weak N ⟨sl, ob, nx⟩ ⟨sl, (o, .cxo o ty nt (al.map fun a => (a, [])) none) :: ob1, nx⟩ := by
  subst h3
  intro cx E a w hR
  refine ⟨E, hR.ok, hR.dom, fun l x h => ?_, hR.sl, hR.dfr, hR.size, hR.td⟩
  by_cases e : o = l
  · subst e
    rw [go_same] at h; cases h
    rcases hR.obs o _ ho with ⟨h0, h1⟩ | ⟨h0, b, c, arr, hr, hh, h1, h2, h3, h4, h5, h6⟩
    · refine .inl ⟨h0, ?_⟩
      show al.map _ = []
      simpa using h1
    · have key : ∀ i e, (al.map fun a => ((a, []) : Int × List Int))[i]? = some e → w.cell? ⟨b, i * 2, none⟩ = some (.int .i64 e.1) ∧ w.cell? ⟨b, i * 2 + 1, none⟩ = some (.slice none 0 0) ∧ e.2 = [] := by
        intro i e hi
        rw [List.getElem?_map] at hi
        cases ha : al[i]? with
        | none => rw [ha] at hi; cases hi
        | some x =>
          rw [ha] at hi; cases hi
          have := rdLL_at (sz := 2) (i := i) (e := [.i .i64 x, .k none 0 0]) h5 h4 (by rw [List.getElem?_map, ha]; rfl)
          rw [rdL, rdL] at this
          obtain ⟨⟨u, u1, u2⟩, ⟨v, v1, v2⟩, _⟩ := this
          simp only [rdD] at u2 v2
          subst u2; subst v2
          exact ⟨by simpa using u1, by simpa using v1, rfl⟩
      refine .inr ⟨h0, b, c, hr, ⟨fun _ => none, ⟨arr, hh, h1⟩, by simpa using h2, h3, fun i e hi => (key i e hi).1, fun i e hi _ => ?_, fun i e hi _ => (key i e hi).2.2, fun _ _ _ _ _ _ _ _ _ h => (by cases h), fun _ _ _ _ h => (by cases h)⟩, h6⟩
      rw [(key i e hi).2.2]; exact (key i e hi).2.1
  · rw [go_other _ _ e] at h
    exact hR.obs l x (delO_go h).2
def encCx (e : Int × List Int) : List D := [.i .i64 e.1, .l (e.2.map eI)]
/-- Such a row becomes a row whose slots are data. -/
theorem weak_frzcx {o : Nat} {ty nt : TypeId} {els : List (Int × List Int)} (ho : go ob o = some (.cxo o ty nt els none)) (h1 : killS nx sl = some sl1) (h2 : dropS o sl1 = some sl2) (h3 : delO nx (delO o ob) = ob1) (h4 : okO nx o ob1 = true) :
    Weak N ⟨sl, ob, nx⟩ ⟨sl2, (o, .rown ty 2 (els.map encCx) true) :: ob1, nx⟩ := by
  intro cx E a w hR
  have ok := hR.ok
  obtain ⟨E', hE'⟩ : ∃ E' : Env, E' = { E with F := fun j => E.F j ∨ E.T o j, G := fun j => E.G j ∨ E.T o j, T := fun l j => l ≠ o ∧ E.T l j } := ⟨_, rfl⟩
  have e_T : ∀ l j, E'.T l j ↔ l ≠ o ∧ E.T l j := fun l j => by subst hE'; exact Iff.rfl
  have e_F : ∀ j, E'.F j ↔ E.F j ∨ E.T o j := fun j => by subst hE'; exact Iff.rfl
  have e_G : ∀ j, E'.G j ↔ E.G j ∨ E.T o j := fun j => by subst hE'; exact Iff.rfl
  have e_r : E'.r = E.r := by subst hE'; rfl
  have e_Z : E'.Z = E.Z := by subst hE'; rfl
  have e_n : E'.n = E.n := by subst hE'; rfl
  have ok' : EnvOK cx E' w := by
    refine ⟨fun j h => ?_, fun j h => ?_, fun j h => ?_, by rw [e_r]; exact ok.rb, by rw [e_r]; exact ok.inj, ok.os, ok.tape, ok.output, ok.size, ok.block, by rw [e_r]; exact ok.pin, fun j h => ?_, fun j h h' => ?_, ⟨fun l j h => ?_, fun l l' j h h' => ok.sf.tt l l' j ((e_T _ _).1 h).2 ((e_T _ _).1 h').2, fun j h => ?_, ok.sf.zs, by rw [e_Z]; exact ok.sf.ze⟩⟩
    · rcases (e_F j).1 h with h | h
      · exact ok.fb j h
      · exact (ok.sf.tb o j h).1.1
    · rcases (e_G j).1 h with h | h
      · exact (e_F j).2 (.inl (ok.gf j h))
      · exact (e_F j).2 (.inr h)
    · rcases (e_G j).1 h with h | h
      · exact ok.gn j h
      · exact .inl (ok.sf.tb o j h).1.2
    · rcases (e_F j).1 h with h | h
      · exact ok.ff j h
      · exact .inr (ok.sf.tb o j h).1.2
    · rcases (e_F j).1 h with h | h
      · exact ok.gc j h h'
      · exact (ok.sf.tb o j h).2.2.2
    · obtain ⟨hl, h⟩ := (e_T _ _).1 h
      obtain ⟨u1, u2, u3, u4⟩ := ok.sf.tb l j h
      refine ⟨u1, fun hf => ?_, by rw [e_r]; exact u3, u4⟩
      rcases (e_F j).1 hf with hf | hf
      · exact u2 hf
      · exact hl (ok.sf.tt l o j h hf)
    · obtain ⟨u1, u2, u3, u4⟩ := ok.sf.zc j h
      refine ⟨u1, fun hf => ?_, by rw [e_r]; exact u3, u4⟩
      rcases (e_F j).1 hf with hf | hf
      · exact u2 hf
      · have := (ok.sf.tb o j hf).1.2; have := u1.1; omega
  have hFr : ∀ l b c, E.r l = some (b, c) → ¬ E.F b → ¬ E'.F b := fun l b c hr hn hf => by
    rcases (e_F b).1 hf with hf | hf
    · exact hn hf
    · exact (ok.sf.tb o b hf).2.2.1 l c hr
  have kg : KG nx o E w E' w := ⟨fun l p _ h => by rw [e_r]; exact h, fun g j h => by cases g; exact (e_F j).2 (.inl h); exact (e_G j).2 (.inl h), fun _ _ _ => rfl, fun l j hl h => ⟨(e_T _ _).2 ⟨hl, h⟩, rfl⟩, fun j h => ⟨by rw [e_Z]; exact h, SimB.refl w j⟩, fun l _ => by rw [e_n]⟩
  refine ⟨E', rel_kg hR ok' kg h1 h2 h3 h4 ?_ (fun _ _ _ _ _ _ => rfl) (fun l b c _ _ hr => hFr l b c hr) (by rw [e_r]; exact hR.dom) (fun l j h => hR.td l j ((e_T _ _).1 h).2)⟩
  rcases hR.obs o _ ho with ⟨h0, h0'⟩ | ⟨h0, b, c, hr, ⟨hd, hS⟩, hF⟩
  · have h0' : els = [] := h0'
    exact .inl ⟨by rw [e_n]; exact h0, by rw [h0']; rfl⟩
  · obtain ⟨arr, hh, ha⟩ := hS.blk
    refine .inr ⟨by rw [e_n]; exact h0, b, c, arr, by rw [e_r]; exact hr, hh, ha, by simpa using hS.len, hS.cap, (fun e he => by obtain ⟨x, _, rfl⟩ := List.mem_map.1 he; rfl), rdLL_of (sz := 2) (fun e he => by obtain ⟨x, _, rfl⟩ := List.mem_map.1 he; rfl) fun i e hi => ?_, hFr o b c hr hF⟩
    rw [List.getElem?_map] at hi
    cases hx : els[i]? with
    | none => rw [hx] at hi; cases hi
    | some x =>
      rw [hx] at hi; cases hi
      rw [encCx, rdL, rdL, rdL, Nat.zero_add]
      refine ⟨⟨_, hS.a i x hx, by rw [rdD]⟩, ⟨_, hS.s i x hx rfl, ?_⟩, trivial⟩
      have hne := hS.ne i x hx rfl
      rw [rdD]
      cases hdi : hd i with
      | none =>
        rw [hdi] at hne
        have hne : x.2 = [] := hne
        rw [hne]; exact ⟨none, 0, rfl, Nat.le_refl _, .inl rfl⟩
      | some p =>
        obtain ⟨k, cc⟩ := p
        rw [hdi] at hne
        exact ⟨some ⟨k, 0, none⟩, cc, by simp [nv], by simpa using hne.2.2.1, .inr ⟨k, 0, rfl, (e_G k).2 (.inr hne.1), hne.2.rd _⟩⟩
end
end Go.AM
