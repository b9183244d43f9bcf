/-
  The abstract machine, part J: calls as operations; regions that draw their order.
-/
import Derived.Test.YtlpclccdbmoemaaGreatAmI
set_option linter.unusedVariables false
namespace Go.AM
open Go.RowKit

theorem rcR_bs {w : World} {G : Nat → Prop} {base : Nat} {r : RC} {u : Value} {bs : List (Nat × Nat)} (h : rcR w G base r u bs) : ∀ p ∈ bs, base ≤ p.1 ∧ p.1 < w.heap.size := by
  cases r with
  | d x => obtain ⟨rfl, _⟩ := h; simp
  | own ty sz els n =>
    obtain ⟨b, c, arr, rfl, _, hh, _, _, _, _, _, _, hb⟩ := h
    intro p hp; simp at hp; subst hp
    refine ⟨hb, ?_⟩
    rcases Nat.lt_or_ge b w.heap.size with h | h
    · exact h
    · rw [Array.getElem?_eq_none h] at hh; cases hh
  | nil => obtain ⟨rfl, _⟩ := h; simp
theorem rcsR_bs {w : World} {G : Nat → Prop} {base : Nat} : ∀ {rs : List RC} {us : List Value} {bs : List (Nat × Nat)}, rcsR w G base rs us bs → ∀ p ∈ bs, base ≤ p.1 ∧ p.1 < w.heap.size
  | [], [], bs, h => by have : bs = [] := h; subst this; simp
  | r :: rs, u :: us, bs, h => fun p hp => by
    obtain ⟨b1, b2, rfl, h1, h2⟩ := h
    rcases List.mem_append.1 hp with h | h
    · exact rcR_bs h1 p h
    · exact rcsR_bs h2 p h
  | [], _ :: _, _, h => h.elim
  | _ :: _, [], _, h => h.elim
theorem rvR_bs {w : World} {G : Nat → Prop} {base : Nat} {r : RV} {u : Value} {bs : List (Nat × Nat)} (h : rvR w G base r u bs) : ∀ p ∈ bs, base ≤ p.1 ∧ p.1 < w.heap.size := by
  cases r with
  | c r => exact rcR_bs h
  | agg rs => obtain ⟨_, _, h⟩ := h; exact rcsR_bs h
theorem rvsR_bs {w : World} {G : Nat → Prop} {base : Nat} : ∀ {rs : List RV} {us : List Value} {bs : List (Nat × Nat)}, rvsR w G base rs us bs → ∀ p ∈ bs, base ≤ p.1 ∧ p.1 < w.heap.size
  | [], [], bs, h => by have : bs = [] := h; subst this; simp
  | r :: rs, u :: us, bs, h => fun p hp => by
    obtain ⟨b1, b2, rfl, h1, h2⟩ := h
    rcases List.mem_append.1 hp with h | h
    · exact rvR_bs h1 p h
    · exact rvsR_bs h2 p h
  | [], _ :: _, _, h => h.elim
  | _ :: _, [], _, h => h.elim
theorem resR_bs {w : World} {G : Nat → Prop} {base : Nat} {rs : List RV} {u : Value} {bs : List (Nat × Nat)} (h : resR w G base rs u bs) : ∀ p ∈ bs, base ≤ p.1 ∧ p.1 < w.heap.size := by
  match rs, h with
  | [r], h => exact rvR_bs h
  | [], h => obtain ⟨_, _, h⟩ := h; exact rvsR_bs h
  | _ :: _ :: _, h => obtain ⟨_, _, h⟩ := h; exact rvsR_bs h

section
variable {P : Program} {N : Nat} {d : Tmp} {ty : TypeId} {ps : String} {af : Array Edge} {gd : Option (Nat × Bool)} {st : St}

/-- The environment behind a call. -/
def Env.after (E : Env) (nx : Nat) (bs : List (Nat × Nat)) (G : Nat → Prop) : Env :=
  ⟨fun o => if nx ≤ o ∧ o < nx + bs.length then bs[o - nx]? else E.r o, fun b => E.F b ∨ G b, fun b => E.G b ∨ G b, E.T, E.Z, E.n⟩
theorem env_after {cx : Cx} {E : Env} {w w' : World} {nx : Nat} {bs : List (Nat × Nat)} {G : Nat → Prop} (ok : EnvOK cx E w) (hp : Past w w' (fun _ => False)) (hG : ∀ b, G b → w.heap.size ≤ b ∧ b < w'.heap.size ∧ Plain w' b)
    (hbs : ∀ p ∈ bs, w.heap.size ≤ p.1 ∧ p.1 < w'.heap.size) (hnd : (bs.map (·.1)).Nodup) (hfr : ∀ l, nx ≤ l → l < nx + bs.length → E.r l = none ∧ rsv l = false) :
    EnvOK cx (E.after nx bs G) w' ∧ Ext E w (E.after nx bs G) w' := by
  have hsz := hp.size
  have hws := ok.size
  have hnew : ∀ o b c, (E.after nx bs G).r o = some (b, c) → (nx ≤ o ∧ o < nx + bs.length ∧ bs[o - nx]? = some (b, c)) ∨ (E.r o = some (b, c)) := by
    intro o b c h
    simp only [Env.after] at h
    split at h
    · rename_i hh; exact .inl ⟨hh.1, hh.2, h⟩
    · exact .inr h
  refine ⟨⟨fun b hb => ?_, fun b hb => ?_, fun b hb => ?_, fun o b c h => ?_, fun o o' b c c' h h' => ?_, by rw [hp.os]; exact ok.os, by rw [hp.tape]; exact ok.tape, by rw [hp.output]; exact ok.output, by omega, fun b hb hW => ?_, fun o x hx h => ?_, fun b hb => hb.elim (ok.ff b) (fun h => .inr (by have := (hG b h).1; omega)),
    fun b hb hb' => hb.elim (fun h => (ok.gc b h hb').of_eq (hp.block b (ok.fb b h) (fun h => h))) (fun h => (hG b h).2.2),
    ok.sf.grow rfl rfl (fun b hb => hb.elim .inl (fun h => .inr (hG b h).1)) (fun o b c h => by
      rcases hnew o b c h with ⟨_, _, h⟩ | h
      · exact .inr (hbs _ (List.mem_of_getElem? h)).1
      · exact .inl ⟨o, c, h⟩) hsz (fun b hb => hp.block b hb (fun h => h))⟩,
    ⟨fun o x h => ?_, fun b h => .inl h, fun b h => .inl h, fun b h => ?_, fun b hb => hp.block b hb (fun h => h), rfl, rfl, rfl⟩⟩
  · rcases hb with h | h
    · have := ok.fb b h; omega
    · exact (hG b h).2.1
  · rcases hb with h | h
    · exact .inl (ok.gf b h)
    · exact .inr h
  · rcases hb with h | h
    · exact ok.gn b h
    · have := hG b h; omega
  · rcases hnew o b c h with ⟨_, _, h⟩ | h
    · have := hbs _ (List.mem_of_getElem? h); exact ⟨this.2, .inl (by have := this.1; simp at this; omega)⟩
    · have := ok.rb o b c h; exact ⟨by omega, this.2⟩
  · rcases hnew o b c h with ⟨h1, h2, h3⟩ | h3 <;> rcases hnew o' b c' h' with ⟨k1, k2, k3⟩ | k3
    · have hi : o - nx < bs.length := by omega
      have hj : o' - nx < bs.length := by omega
      rcases Nat.lt_trichotomy (o - nx) (o' - nx) with hlt | heq | hlt
      · exfalso
        have := List.pairwise_iff_getElem.1 hnd (o - nx) (o' - nx) (by simpa using hi) (by simpa using hj) hlt
        rw [List.getElem?_eq_getElem hi] at h3; rw [List.getElem?_eq_getElem hj] at k3
        simp at h3 k3; simp [h3, k3] at this
      · omega
      · exfalso
        have := List.pairwise_iff_getElem.1 hnd (o' - nx) (o - nx) (by simpa using hj) (by simpa using hi) hlt
        rw [List.getElem?_eq_getElem hi] at h3; rw [List.getElem?_eq_getElem hj] at k3
        simp at h3 k3; simp [h3, k3] at this
    · have h5 := hbs _ (List.mem_of_getElem? h3); have h6 := ok.rb o' b c' k3; simp at h5; omega
    · have h5 := hbs _ (List.mem_of_getElem? k3); have h6 := ok.rb o b c h3; simp at h5; omega
    · exact ok.inj o o' b c c' h3 k3
  · rw [hp.block b (by omega) (fun h => h)]; exact ok.block b hb hW
  · rcases hnew o x.1 x.2 h with ⟨h1, h2, _⟩ | h
    · rw [rsv_rsp (hfr o h1 h2).2] at hx; cases hx
    · exact ok.pin o x hx h
  · simp only [Env.after]
    rw [if_neg]
    · exact h
    · rintro ⟨h1, h2⟩; have := (hfr o h1 h2).1; rw [this] at h; cases h
  · rcases h with h | h
    · exact .inl h
    · exact .inr (hG b h).1
theorem n_call {f : FuncId} {args : List Operand} {tys : Array TypeId} {ts : List T} {nob : List (Nat × Ob)} {avs : List AV} {eqs : List (Nat × Nat)} {res : List RV} {out : T} {nw : List (Nat × Ob)} {nx n : Nat}
    (hl : ts.length = args.length) (ha : tsdatR nob ts = some (avs, eqs)) (hF : Fn P f avs res) (he : Eqs eqs) (hi : impR nx res = some (out, nw, n)) :
    AWN P ⟨some d, .call ⟨.value (.func f), args.toArray, tys⟩, ty, ps, af, gd⟩ (args.zip ts) nob out nw := by
  intro cx E a w ok hn hb hfr
  have hob : ∀ l x, go nob l = some x → relOb E w l x := fun l x h => hb l x (go_mem h)
  have hA := tsdatR_ok ok hob ha he hl hn
  have hFb : ∀ b, callR E nob b → b < w.heap.size := by
    rintro b ((h | ⟨l, x, c, h1, h2⟩) | ⟨l, h⟩)
    · exact ok.fb b h
    · exact (ok.rb l b c h2).1
    · exact (ok.sf.tb l b h).1.1
  have hc := hF.calls (callR E nob) w (args.map a.eval).toArray hFb ok.tabs (by simpa using hA)
  have hent := hF.enters (args.map a.eval).toArray w
  unfold Oper.wp
  have hrun : (execOp a.eval ⟨some d, .call ⟨.value (.func f), args.toArray, tys⟩, ty, ps, af, gd⟩).run P w = .ok (.enter f (args.map a.eval).toArray) w := by
    simp only [execOp, resolve, Act.eval, Deferred.ofValue, Sem.run_bind, Sem.run_pure, Result.andThen_ok, invoke]
    simpa using hent
  rw [hrun, Oper.upon_enter]
  refine hc.mono ?_
  rintro e w' ⟨v, G, bs, rfl, hp, hG, hres, hnd⟩
  have hbs := resR_bs hres
  have hlen : ∀ l, nx ≤ l → l < nx + bs.length → E.r l = none ∧ rsv l = false := by
    -- the labels that an import makes are the new ones
    have himp := impR_ok (E := ⟨fun o => bs[o - nx]?, G, G, fun _ _ => False, fun _ => False, fun _ => False⟩) (fun _ h => h) (fun b _ h => h) hi hres (fun i p hi => by simpa using hi)
    intro l h1 h2
    obtain ⟨x, hx⟩ := himp.2.2.2 l h1 (by rw [himp.2.1]; exact h2)
    exact hfr l x hx
  obtain ⟨ok', ext⟩ := env_after ok hp hG hbs hnd hlen
  have himp := impR_ok (E := E.after nx bs G) (G := G) (base := w.heap.size) (fun b h => .inr h) (fun b hb hng hF => by
    rcases hF with h | h
    · have := ok.fb b h; omega
    · exact hng h) hi hres (fun i p hi => by
      have : i < bs.length := (List.getElem?_eq_some_iff.1 hi).1
      simp only [Env.after]; rw [if_pos (by omega)]; simpa using hi)
  refine ⟨v, E.after nx bs G, rfl, ok', ext, himp.1, fun l ob hm => (himp.2.2.1 l ob hm).1, fun l x hx => ?_⟩
  simp only [Env.after] at hx
  split at hx
  · rename_i hh; obtain ⟨x, hx⟩ := himp.2.2.2 l hh.1 (by rw [himp.2.1]; exact hh.2); exact .inr ⟨x, hx⟩
  · exact .inl hx

/-! one step of the walk, for regions of either kind -/
structure Inf where
  d : Tmp
  needs : List (Operand × T)
  nob : List (Nat × Ob)
  out : T
  nw : List (Nat × Ob)
/-- An operation that writes nothing that is there, at a state. -/
def NS (P : Program) (N : Nat) (o : Oper) (st st' : St) (x : Inf) : Prop :=
  AWN P o x.needs x.nob x.out x.nw ∧ o.dst = some x.d ∧ x.d < N ∧ Lk st.sl x.needs ∧ Lo st.ob x.nob ∧ Nw st.nx x.nw st'.nx ∧ st' = ⟨(x.d, x.out) :: st.sl, x.nw ++ st.ob, st'.nx⟩
theorem ns_mk {o : Oper} {needs : List (Operand × T)} {nob nw : List (Nat × Ob)} {out : T} {n : Nat} (h : AWN P o needs nob out nw) (hd : o.dst = some d) (hN : nlt d N = true) (hn : Lk st.sl needs) (hb : Lo st.ob nob) (hw : Nw st.nx nw n) :
    NS P N o st ⟨(d, out) :: st.sl, nw ++ st.ob, n⟩ ⟨d, needs, nob, out, nw⟩ := ⟨h, hd, blt_lt hN, hn, hb, hw, rfl⟩
theorem ns_awo {o : Oper} {st' : St} {x : Inf} (h : NS P N o st st' x) : AWO P N o st st' := by
  obtain ⟨h1, h2, h3, h4, h5, h6, h7⟩ := h
  rw [h7]
  exact awo_of_awn h1 h2 h3 h4 h5 h6
theorem awr_n {ops : Array Oper} {l : List Oper} {o : Oper} {st' : St} {x : Inf} {K : St → Prop} (hg : o.guard = none) (h : NS P N o st st' x) (h' : AWR P N ops l st' K) : AWR P N ops (o :: l) st K := awr_step hg (ns_awo h) h'
theorem awr_ng {ops : Array Oper} {l : List Oper} {o : Oper} {st' : St} {x : Inf} {K : St → Prop} {j : Nat} {dj : Tmp} {b : Bool} (hg : o.guard = some (j, b)) (hj : (ops[j]?).bind (·.dst) = some dj) (hdj : nlt dj N = true) (hb : gt st.sl dj = tB b) (h : NS P N o st st' x)
    (h' : AWR P N ops l st' K) : AWR P N ops (o :: l) st K := awr_guard_run hg hj (blt_lt hdj) hb (ns_awo h) h'

/-! a region that draws its order -/
/-- One operation of it: carried out, or left out by its guard. -/
def DS (P : Program) (N : Nat) (ops : Array Oper) (o : Oper) (st st' : St) (x : Inf) : Prop :=
  (o.guard = none ∧ NS P N o st st' x) ∨
  (∃ j dj b y, o.guard = some (j, b) ∧ (ops[j]?).bind (·.dst) = some dj ∧ dj < N ∧ gt st.sl dj = tB b ∧ NS P N o st st' y ∧ x = { y with needs := (.tmp dj, tB b) :: y.needs }) ∨
  (∃ j dj b d, o.guard = some (j, b) ∧ (ops[j]?).bind (·.dst) = some dj ∧ dj < N ∧ noG b (gt st.sl dj) = true ∧ o.dst = some d ∧ d < N ∧ x = ⟨d, [(.tmp dj, gt st.sl dj)], [], .tup [], []⟩ ∧ st' = ⟨(d, .tup []) :: st.sl, st.ob, st.nx⟩)
/-- States that hold the same. -/
def Same (s t : St) : Prop := (∀ k, gt s.sl k = gt t.sl k) ∧ s.ob = t.ob ∧ s.nx = t.nx
def DR (P : Program) (N : Nat) (ops : Array Oper) : List Oper → List Inf → St → (List Inf → St → Prop) → Prop
  | [], is, st, K => K is st
  | o :: r, is, st, K => ∃ x st1 st', DS P N ops o st st1 x ∧ Same st1 st' ∧ DR P N ops r (is ++ [x]) st' K
section
variable {ops : Array Oper} {l : List Oper} {o : Oper} {st' : St} {x : Inf} {K : List Inf → St → Prop} {is : List Inf}
theorem dr_nil (h : K is st) : DR P N ops [] is st K := h
theorem Same.refl (s : St) : Same s s := ⟨fun _ => rfl, rfl, rfl⟩
theorem dr_n (hg : o.guard = none) (h : NS P N o st st' x) (h' : DR P N ops l (is ++ [x]) st' K) : DR P N ops (o :: l) is st K := ⟨x, st', st', .inl ⟨hg, h⟩, .refl _, h'⟩
theorem dr_ng {j : Nat} {dj : Tmp} {b : Bool} (hg : o.guard = some (j, b)) (hj : (ops[j]?).bind (·.dst) = some dj) (hdj : nlt dj N = true) (hb : gt st.sl dj = tB b) (h : NS P N o st st' x)
    (h' : DR P N ops l (is ++ [{ x with needs := (.tmp dj, tB b) :: x.needs }]) st' K) : DR P N ops (o :: l) is st K := ⟨_, st', st', .inr (.inl ⟨j, dj, b, x, hg, hj, blt_lt hdj, hb, h, rfl⟩), .refl _, h'⟩
theorem dr_skip {j : Nat} {dj d : Tmp} {b : Bool} (hg : o.guard = some (j, b)) (hj : (ops[j]?).bind (·.dst) = some dj) {t : T} (hdj : nlt dj N = true) (ht : gt st.sl dj = t) (hb : noG b t = true) (hd : o.dst = some d) (hN : nlt d N = true)
    (h' : DR P N ops l (is ++ [⟨d, [(.tmp dj, t)], [], .tup [], []⟩]) ⟨(d, .tup []) :: st.sl, st.ob, st.nx⟩ K) : DR P N ops (o :: l) is st K :=
  ⟨_, _, _, .inr (.inr ⟨j, dj, b, d, hg, hj, blt_lt hdj, by rw [ht]; exact hb, hd, blt_lt hN, by rw [ht], rfl⟩), .refl _, h'⟩
theorem same_decide {d : Tmp} {b c : Bool} (hb : gt st.sl d = tB b) (h : b = c) : Same st ⟨(d, tB c) :: st.sl, st.ob, st.nx⟩ := by
  refine ⟨fun k => ?_, rfl, rfl⟩
  by_cases hk : d = k
  · subst hk; rw [gt_same, hb, h]
  · rw [gt_other _ _ hk]
end
end
end Go.AM
