/-
  The abstract machine, part Zf: regions that draw their order and write: calls that write what is handed to them go among other operations; any other writing operation parts the region.
-/
import Derived.Test.YtlpclccdbmoemaaGreatAmZe
set_option linter.unusedVariables false
namespace Go.AM
open Go.RowKit
/-- What was there is as it was, but for the blocks of the objects 'up'. -/
structure ExtW (up : List (Nat × Ob)) (E : Env) (w : World) (E' : Env) (w' : World) : Prop where
  r : ∀ o x, E.r o = some x → E'.r o = some x
  F : ∀ b, E.F b → E'.F b
  G : ∀ b, E.G b → E'.G b
  F' : ∀ b, E'.F b → E.F b ∨ w.heap.size ≤ b
  heap : ∀ b, b < w.heap.size → (∀ l ob c, (l, ob) ∈ up → E.r l ≠ some (b, c)) → w'.heap[b]? = w.heap[b]?
  own : ∀ l ob b c, (l, ob) ∈ up → E.r l = some (b, c) → ¬ E.F b
  T : E'.T = E.T
  Z : E'.Z = E.Z
  n : E'.n = E.n
theorem ExtW.of_ext {E E' : Env} {w w' : World} (x : Ext E w E' w') : ExtW [] E w E' w' := ⟨x.r, x.F, x.G, x.F', fun b h _ => x.heap b h, fun _ _ _ _ h => (by cases h), x.T, x.Z, x.n⟩
theorem Keeps.of_extW {cx : Cx} {E E' : Env} {w w' : World} {up : List (Nat × Ob)} (ok : EnvOK cx E w) (x : ExtW up E w E' w') : Keeps E w E' w' := by
  have hF : ∀ b, E.F b → w'.heap[b]? = w.heap[b]? := fun b h => x.heap b (ok.fb b h) (fun l ob c hm hr => x.own l ob b c hm hr h)
  refine ⟨x.r, fun g b h => by cases g; exact x.F b h; exact x.G b h, fun g b h => by cases g; exact hF b h; exact hF b (ok.gf b h), fun l b h => ⟨by rw [x.T]; exact h, x.heap b (ok.sf.tb l b h).1.1 (fun l' ob c _ hr => (ok.sf.tb l b h).2.2.1 l' c hr)⟩,
    fun b h => ⟨by rw [x.Z]; exact h, .of_eq (x.heap b (ok.sf.zb b h).1.2.1 (fun l' ob c _ hr => (ok.sf.zb b h).2.2.1 l' c hr))⟩, x.n⟩
/-- One operation that writes the objects 'up' and nothing else that is there. -/
def AWX (P : Program) (o : Oper) (needs : List (Operand × T)) (nob : List (Nat × Ob)) (out : T) (nw up : List (Nat × Ob)) : Prop :=
  ∀ (cx : Cx) (E : Env) (a : Act) (w : World), EnvOK cx E w → (∀ x t, (x, t) ∈ needs → cvT E w t (a.eval x)) → (∀ l ob, (l, ob) ∈ nob → relOb E w l ob) →
    (∀ l ob, (l, ob) ∈ nw → E.r l = none ∧ rsv l = false) →
    o.wp P a w (fun a' w' => ∃ v E', a' = a.put o.dst v ∧ EnvOK cx E' w' ∧ ExtW up E w E' w' ∧ cvT E' w' out v ∧ (∀ l ob, (l, ob) ∈ nw → relOb E' w' l ob) ∧ (∀ l ob, (l, ob) ∈ up → relOb E' w' l ob) ∧
      (∀ l x, E'.r l = some x → E.r l = some x ∨ ∃ ob, (l, ob) ∈ nw)) (fun _ _ _ => False)
theorem awx_of_awn {P : Program} {o : Oper} {needs : List (Operand × T)} {nob : List (Nat × Ob)} {out : T} {nw : List (Nat × Ob)} (h : AWN P o needs nob out nw) : AWX P o needs nob out nw [] := by
  intro cx E a w ok hn hb hf
  refine Oper.wp_mono ?_ (h cx E a w ok hn hb hf)
  rintro a' w' ⟨v, E', h1, h2, h3, h4, h5, h6⟩
  exact ⟨v, E', h1, h2, .of_ext h3, h4, h5, (fun _ _ h => by cases h), h6⟩
/-- A call that writes one thing. -/
theorem awx_callW {P : Program} {d : Tmp} {ty : TypeId} {ps : String} {af : Array Edge} {gd : Option (Nat × Bool)} {f : FuncId} {args : List Operand} {tys : Array TypeId} {nx o : Nat} {x0 y : Ob} {ts ts' : List T} {eqs : List (Nat × Nat)} {res : List RV} {out : T} {nw : List (Nat × Ob)} {n : Nat}
    (hF : FnW P f x0.loc ts' y res) (hlen : ts.length = args.length) (hfx : x0.free = true) (hfy : y.free = true) (ha : locTs [] o ts = some (ts', eqs)) (he : Eqs eqs) (hi : impR nx res = some (out, nw, n)) :
    AWX P ⟨some d, .call ⟨.value (.func f), args.toArray, tys⟩, ty, ps, af, gd⟩ (args.zip ts) [(o, x0)] out nw [(o, y)] := by
  intro cx E a w ok hn hb hfr
  obtain ⟨nob, hnob⟩ : ∃ nob : List (Nat × Ob), nob = [] := ⟨_, rfl⟩
  rw [← hnob] at ha
  have hob : ∀ l x, go nob l = some x → relOb E w l x := fun l x h => by subst hnob; cases h
  have hx0 := hb o x0 (by simp)
  obtain ⟨b, c0, hr, hbF⟩ : ∃ b c0, E.r o = some (b, c0) ∧ ¬ E.F b := by
    cases x0 with
    | rown ty sz els g => exact absurd hfx Bool.false_ne_true
    | abs l y => exact absurd hfx Bool.false_ne_true
    | var t cs => obtain ⟨b, c, arr, h1, h2, h3, h4⟩ := hx0; exact ⟨b, c, h1, h4⟩
    | row t sz els g m =>
      obtain ⟨b, c, arr, h1, h2, h3, h4, h5, h6, h7, h8, h9⟩ := hx0
      have hm : m = true := hfx
      subst hm
      exact ⟨b, c, h1, h8 rfl⟩
  have hbC : ¬ callF E nob b := by
    rintro (h | ⟨l, x, c, h1, h2⟩)
    · exact hbF h
    · subst hnob; cases h1
  have hFb : ∀ b, callF E nob b → b < w.heap.size := by
    rintro b (h | ⟨l, x, c, h1, h2⟩)
    · exact ok.fb b h
    · exact (ok.rb l b c h2).1
  have hbs0 := (ok.rb o b c0 hr).1
  have hA := locTs_ok (a := a) ok hob hr ha he hlen hn
  have hX : relOb (E0 b c0 (callF E nob)) w 200 x0.loc := by
    have hl := relOb_loc ok hfx hx0
    have hnoG : ∀ E2 : Env, (∀ k, E.F k → E2.F k) → E2.r 200 = some (b, c0) → ¬ E2.F b → relOb E2 w 200 x0.loc := by
      intro E2 h1 h2 h3
      cases x0 with
      | rown ty sz els g => exact absurd hfx Bool.false_ne_true
      | abs l y => exact absurd hfx Bool.false_ne_true
      | var t cs =>
        obtain ⟨b', c', arr, k1, k2, k3, k4⟩ := hl
        rw [hr] at k1; cases k1
        refine ⟨b, c0, arr, h2, k2, ?_, h3⟩
        have key : ∀ (cs : List C) (us : List Value), cs.all C.free = true → CV E w (cs.map C.loc) us → CV E2 w (cs.map C.loc) us := by
          intro cs
          induction cs with
          | nil =>
            intro us _ h
            cases us with
            | nil => trivial
            | cons _ _ => exact h.elim
          | cons c cs ih =>
            intro us hf h
            simp only [List.all_cons, Bool.and_eq_true] at hf
            cases us with
            | nil => exact h.elim
            | cons u us =>
              refine ⟨?_, ih us hf.2 h.2⟩
              have h5 := h.1
              cases c with
              | d g y => exact rdD_mono (fun _ _ => rfl) h1 _ _ h5
              | nil => exact h5
              | fn f => exact h5
              | any => trivial
              | _ => simp [C.free] at hf
        exact key cs _ hfx k3
      | row t sz els g m =>
        obtain ⟨b', c', arr, k1, k2, k3, k4, k5, k6, k7, k8, k9⟩ := hl
        rw [hr] at k1; cases k1
        have hm : m = true := hfx
        subst hm
        exact ⟨b, c0, arr, h2, k2, k3, k4, k5, k6, rdLL_mono' (fun _ _ => rfl) h1 rfl _ _ k7, fun _ => h3, fun h => by cases h⟩
    exact hnoG _ (fun k hk => .inl hk) (by simp [E0]) hbC
  have hc := hF.calls (callF E nob) w (args.map a.eval).toArray b c0 hFb hbs0 ok.tabs (ok.ntab hr) hX (by simpa using hA)
  have hent := hF.enters (args.map a.eval).toArray w
  unfold Oper.wp
  have hrun : (execOp a.eval ⟨some d, .call ⟨.value (.func f), args.toArray, tys⟩, ty, ps, af, gd⟩).run P w = .ok (.enter f (args.map a.eval).toArray) w := by
    simp only [execOp, resolve, Act.eval, Deferred.ofValue, Sem.run_bind, Sem.run_pure, Result.andThen_ok, invoke]
    simpa using hent
  rw [hrun, Oper.upon_enter]
  refine hc.mono ?_
  rintro e w' ⟨v, G, bs, rfl, hpast, hG2, hres, hnd, hY⟩
  have hbs := resR_bs hres
  have hlab : ∀ l, nx ≤ l → l < nx + bs.length → E.r l = none ∧ rsv l = false := by
    have himp := impR_ok (E := ⟨fun o => bs[o - nx]?, G, G, fun _ _ => False, fun _ => False, fun _ => False⟩) (fun _ h => h) (fun b _ h => h) hi hres (fun i p hi => by simpa using hi)
    intro l h1 h2
    obtain ⟨x, hx⟩ := himp.2.2.2 l h1 (by rw [himp.2.1]; exact h2)
    exact hfr l x hx
  let E' : Env := ⟨fun l => if nx ≤ l ∧ l < nx + bs.length then bs[l - nx]? else E.r l, fun k => E.F k ∨ G k, fun k => E.G k ∨ G k, E.T, E.Z, E.n⟩
  have hsz := hpast.size
  have hws := ok.size
  have hold : ∀ l p, E.r l = some p → E'.r l = some p := fun l p h => by
    show (if nx ≤ l ∧ l < nx + bs.length then bs[l - nx]? else E.r l) = some p
    rw [if_neg]
    · exact h
    · rintro ⟨h1, h2⟩; have := (hlab l h1 h2).1; rw [this] at h; cases h
  have hnew : ∀ l b c, E'.r l = some (b, c) → (nx ≤ l ∧ l < nx + bs.length ∧ bs[l - nx]? = some (b, c)) ∨ (E.r l = some (b, c)) := by
    intro l b c h
    have h : (if nx ≤ l ∧ l < nx + bs.length then bs[l - nx]? else E.r l) = some (b, c) := h
    split at h
    · rename_i hh; exact .inl ⟨hh.1, hh.2, h⟩
    · exact .inr h
  have hheap : ∀ k, k < w.heap.size → k ≠ b → w'.heap[k]? = w.heap[k]? := fun k hk hne => hpast.block k hk hne
  have hHb : ∀ g k, E.H g k → k ≠ b ∧ k < w.heap.size := fun g k hk => ⟨fun e => by subst e; cases g; exact hbF hk; exact hbF (ok.gf _ hk), ok.hb hk⟩
  have ok' : EnvOK cx E' w' := by
    refine ⟨fun k h => ?_, fun k h => ?_, fun k h => ?_, fun l k c h => ?_, fun l l' k c c' h h' => ?_, by rw [hpast.os]; exact ok.os, by rw [hpast.tape]; exact ok.tape, by rw [hpast.output]; exact ok.output, by omega, fun k h hW => ?_, fun l p hv h => ?_, fun k h => ?_,
      fun k h h' => h.elim (fun h => (ok.gc k h h').of_eq (hheap k (hHb false k h).2 (hHb false k h).1)) (fun h => (hG2 k h).2.2),
      ok.sf.turn hr rfl rfl (fun k h => h.elim .inl (fun h => .inr (hG2 k h).1)) (fun l k c h => by
        rcases hnew l k c h with ⟨_, _, h⟩ | h
        · exact .inr (hbs _ (List.mem_of_getElem? h)).1
        · exact .inl ⟨l, c, h⟩) hsz hheap⟩
    · rcases h with h | h
      · have := ok.fb k h; omega
      · exact (hG2 k h).2.1
    · rcases h with h | h
      · exact .inl (ok.gf k h)
      · exact .inr h
    · rcases h with h | h
      · exact ok.gn k h
      · have := hG2 k h; omega
    · rcases hnew l k c h with ⟨_, _, h⟩ | h
      · have := hbs _ (List.mem_of_getElem? h); exact ⟨this.2, .inl (by have := this.1; simp at this; omega)⟩
      · have := ok.rb l k c h; exact ⟨by omega, this.2⟩
    · rcases hnew l k c h with ⟨h1, h2, h3⟩ | h3 <;> rcases hnew l' k c' h' with ⟨k1, k2, k3⟩ | k3
      · have hi : l - nx < bs.length := by omega
        have hj : l' - nx < bs.length := by omega
        rcases Nat.lt_trichotomy (l - nx) (l' - nx) with hlt | heq | hlt
        · exfalso
          have := List.pairwise_iff_getElem.1 hnd (l - nx) (l' - nx) (by simpa using hi) (by simpa using hj) hlt
          rw [List.getElem?_eq_getElem hi] at h3; rw [List.getElem?_eq_getElem hj] at k3
          simp at h3 k3; simp [h3, k3] at this
        · omega
        · exfalso
          have := List.pairwise_iff_getElem.1 hnd (l' - nx) (l - nx) (by simpa using hj) (by simpa using hi) hlt
          rw [List.getElem?_eq_getElem hi] at h3; rw [List.getElem?_eq_getElem hj] at k3
          simp at h3 k3; simp [h3, k3] at this
      · have h5 := hbs _ (List.mem_of_getElem? h3); have h6 := ok.rb l' k c' k3; simp at h5; omega
      · have h5 := hbs _ (List.mem_of_getElem? k3); have h6 := ok.rb l k c h3; simp at h5; omega
      · exact ok.inj l l' k c c' h3 k3
    · have hkb : k ≠ b := fun e => by
        subst e
        rcases (ok.rb o k c0 hr).2 with h' | h'
        · omega
        · exact hW h'.1
      rw [hheap k (by omega) hkb]; exact ok.block k h hW
    · rcases hnew l p.1 p.2 h with ⟨h1, h2, _⟩ | h
      · rw [rsv_rsp (hlab l h1 h2).2] at hv; cases hv
      · exact ok.pin l p hv h
    · rcases h with h | h
      · exact ok.ff k h
      · exact .inr (by have := hG2 k h; omega)
  have himp := impR_ok (E := E') (G := G) (base := w.heap.size) (fun b h => .inr h) (fun b hb hng hF => by
    rcases hF with h | h
    · have := ok.fb b h; omega
    · exact hng h) hi hres (fun i p hi => by
      have : i < bs.length := (List.getElem?_eq_some_iff.1 hi).1
      show (if nx ≤ nx + i ∧ nx + i < nx + bs.length then bs[nx + i - nx]? else E.r (nx + i)) = some p
      rw [if_pos (by omega)]; simpa using hi)
  refine ⟨v, E', rfl, ok', ⟨hold, fun k h => .inl h, fun k h => .inl h, fun k h => h.elim .inl (fun h => .inr (hG2 k h).1), fun k hk hne => hheap k hk (fun e => by subst e; exact hne o y c0 (by simp) hr), fun l ob k c hm hl => ?_, rfl, rfl, rfl⟩, himp.1, fun l x hm => (himp.2.2.1 l x hm).1, fun l x hm => ?_, fun l p h => ?_⟩
  · simp at hm; obtain ⟨rfl, rfl⟩ := hm; rw [hr] at hl; cases hl; exact hbF
  · simp at hm; obtain ⟨rfl, rfl⟩ := hm
    refine relOb_free hfy (fun k c h => ?_) (fun g k h => ?_) (fun _ _ _ => rfl) (fun _ _ _ => rfl) (fun k c h hn hh => ?_) hY
    · simp [E1] at h; rw [← h.1, ← h.2]; exact hold _ _ hr
    · cases g with
      | false =>
        rcases h with h | h
        · rcases h with h | ⟨l, x, c, h1, h2⟩
          · exact .inl h
          · subst hnob; cases h1
        · exact .inr h
      | true => exact .inr h
    · simp [E1] at h; obtain ⟨rfl, rfl⟩ := h
      rcases hh with hh | hh
      · exact hbF hh
      · have := hG2 _ hh; omega
  · rcases hnew l p.1 p.2 h with ⟨h1, h2, _⟩ | h
    · obtain ⟨x, hx⟩ := himp.2.2.2 l h1 (by rw [himp.2.1]; exact h2); exact .inr ⟨x, hx⟩
    · exact .inl h
end Go.AM
