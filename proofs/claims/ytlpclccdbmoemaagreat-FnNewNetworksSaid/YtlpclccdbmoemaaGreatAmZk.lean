/-
  The abstract machine, part Zk: append among other operations: the row gets a new label.
-/
import Derived.Test.YtlpclccdbmoemaaGreatAmZi
set_option linter.unusedVariables false
namespace Go.AM
open Go.RowKit
section
variable {P : Program} {N : Nat} {d : Tmp} {ty : TypeId} {ps : String} {af : Array Edge} {gd : Option (Nat × Bool)} {x y z : Operand}
theorem src_okN {E : Env} {w : World} {nob : List (Nat × Ob)} (hob : ∀ l x, go nob l = some x → relOb E w l x) {c : C} {ys : List (List D)} {g : Bool} {u : Value} (h : Src nob c ys g) (hu : cvC E w c u) :
    ∃ A k, u = .slice A ys.length k ∧ ys.length ≤ k ∧ (ys = [] ∨ ∃ b off, A = some ⟨b, off, none⟩ ∧ rdLL w (E.H g) ys b off) := by
  cases h with
  | d =>
    simp only [cvC, rdD] at hu
    obtain ⟨A, c, rfl, h1, h2⟩ := hu
    refine ⟨A, c, rfl, h1, ?_⟩
    rcases h2 with h2 | ⟨b, off, h3, _, h4⟩
    · exact .inl h2
    · exact .inr ⟨b, off, h3, h4⟩
  | nil => have : u = .slice none 0 0 := hu; subst this; exact ⟨none, 0, rfl, Nat.le_refl _, .inl rfl⟩
  | w h hn =>
    obtain ⟨b, c, hr, rfl⟩ := hu
    obtain ⟨b', c', arr, hr', hh, ha, hlc, hmx, hes, hrd, _⟩ := hob _ _ h
    rw [hr] at hr'; cases hr'
    exact ⟨_, _, by rw [hn], hlc, .inr ⟨b, 0, rfl, hrd⟩⟩
  | s h hn =>
    rename_i o off len t sz els m
    obtain ⟨A, c, b, k, hr, rfl, hlc', hA⟩ := hu
    obtain ⟨b', c', arr, hr', hh, ha, hlc, hmx, hes, hrd, _⟩ := hob _ _ h
    rw [hr] at hr'; cases hr'
    have hl : ((els.drop off).take len).length = len := by simp; omega
    refine ⟨A, c, by rw [hl], by rw [hl]; exact hlc', ?_⟩
    rcases hA with h0 | h0
    · left; exact List.eq_nil_of_length_eq_zero (by rw [hl]; exact h0)
    · right; exact ⟨b, off * sz, h0, by simpa using rdLL_take len (rdLL_drop hrd hes off)⟩
/-- The environment in which row o has become row q, in another block. -/
def Env.mv (E : Env) (o q b c : Nat) : Env := { E with r := fun l => if l = q then some (b, c) else if l = o then none else E.r l }
theorem k_append {t : TypeId} {e sz by_ o q n : Nat} {els ys : List (List D)} {g gy : Bool} {c : C} {nob : List (Nat × Ob)} [ht : TySl P t e sz by_] (hrv : rsv o = false)
    (ho : go nob o = some (.row e sz els g true)) (hs : Src nob c ys gy) (hn : els.length = n) (hsz : ∀ e ∈ ys, e.length = sz) (hb : (n + ys.length) * by_ ≤ 140737488355328) (h63 : n + ys.length ≤ 9223372036854775807) :
    AWK P ⟨some d, .call ⟨.builtin .append, #[x, y], #[t, t]⟩, ty, ps, af, gd⟩ [(x, .v (.c (.w o n))), (y, .v (.c c))] nob (.v (.c (.w q (n + ys.length)))) [(q, .row e sz (els ++ ys) (g && gy) true)] [] (some o) := by
  intro cx E a w ok hne hnob hfr
  have hob : ∀ l x, go nob l = some x → relOb E w l x := fun l x h => hnob l x (go_mem h)
  obtain ⟨hq1, hq2⟩ := hfr q _ (.head _)
  have h1 : cvT E w (.v (.c (.w o n))) (a.eval x) := hne x _ (.head _)
  have h2 : cvT E w (.v (.c c)) (a.eval y) := hne y _ (.tail _ (.head _))
  obtain ⟨b, cc, hr, hu⟩ := h1
  obtain ⟨b', c', arr, hr', hh, ha, hlc, hmx, hes, hrd, hFm, _⟩ := hob o _ ho
  rw [hr] at hr'; cases hr'
  have hF := hFm rfl
  have hoq : o ≠ q := fun e => by rw [e, hq1] at hr; cases hr
  obtain ⟨A, k, hv, hyk, hA⟩ := src_okN hob hs h2
  obtain ⟨ii, zz, i1, i2, i3, i4, i5⟩ := ht.i
  have hbl := (ok.rb o b cc hr)
  -- the row as the kit has it
  have hown : w.ownsRow 0 e sz (.slice (some ⟨b, 0, none⟩) n cc) n (arr.toList.take (n * sz)) :=
    ⟨by simp [ha]; rw [Nat.min_eq_left (by omega)], .inr ⟨b, cc, arr, rfl, Nat.zero_le _, hh, by omega, hmx, ha, rfl⟩⟩
  -- the source as raw cells
  have hsrc : ∃ news : List Value, news.length = ys.length * sz ∧ (∀ u ∈ news, u.oneCell' = true) ∧ (∀ (j : Nat) (xd : D), ys.flatten[j]? = some xd → ∃ u, news[j]? = some u ∧ rdD w (E.H gy) xd u) ∧
      ∃ v' w', (Builtin.append_ #[t, t] ty #[.slice (some ⟨b, 0, none⟩) n cc, .slice A ys.length k]).run P w = .ok v' w' ∧ w'.ownsRow 0 e sz v' (n + ys.length) (arr.toList.take (n * sz) ++ news) ∧ w.grownBy w' (some b) ∧ v' ≠ .slice none 0 0 ∧ (v'.ownBlock = some b ∨ v'.ownBlock = some w.heap.size) := by
    have hgood : ∀ ad, A = some ad → ∀ news : List Value, news.length = ys.length * sz → (∀ (j : Nat) (u : Value), news[j]? = some u → w.cell? (ad.add j) = some u) → (∀ u ∈ news, u.oneCell' = true) →
        ∃ v' w', (Builtin.append_ #[t, t] ty #[.slice (some ⟨b, 0, none⟩) n cc, .slice A ys.length k]).run P w = .ok v' w' ∧ w'.ownsRow 0 e sz v' (n + ys.length) (arr.toList.take (n * sz) ++ news) ∧ w.grownBy w' (some b) ∧ v' ≠ .slice none 0 0 ∧ (v'.ownBlock = some b ∨ v'.ownBlock = some w.heap.size) := by
      intro ad hAd news n1 n2 n3
      obtain ⟨v', w', r1, r2, r3, r4, r5⟩ := run_append_own_at (P := P) w 0 t ty e ii zz sz by_ ht.u i1 i4 i2 i3 i5 ht.p _ n _ hown ad ys.length k news n1 n2 n3 (by unfold maxLen; omega) hb (Nat.zero_le _)
      exact ⟨v', w', by rw [hAd]; exact r1, r2, r3, (fun h => by have h9 := (r4.1 h).1; simp at h9), r5⟩
    rcases hA with h0 | ⟨b2, off, rfl, hrd2⟩
    · subst h0
      refine ⟨[], by simp, by simp, by simp, ?_⟩
      cases A with
      | none => exact ⟨_, w, run_append_nil w ht.u i1 hown k, by simpa using hown, ⟨rfl, rfl, rfl, Nat.le_refl _, fun _ _ _ => rfl⟩, by simp, .inl rfl⟩
      | some ad => exact hgood ad rfl [] (by simp) (by simp) (by simp)
    · obtain ⟨us, q1, q2, q3, q4⟩ := rdL_vals (rdLL_flat.1 hrd2)
      exact ⟨us, by rw [q1, flat_len hsz], q3, q4, hgood _ rfl us (by rw [q1, flat_len hsz]) q2 q3⟩
  obtain ⟨news, n1, n2, n3, v', w', r1, r2, r3, r4, r5⟩ := hsrc
  obtain ⟨_, r2⟩ := r2
  rcases r2 with ⟨rfl, _⟩ | ⟨bn, cap, cur, rfl, _, hhn, hcap, hcapm, hcur, htk⟩
  · exact absurd rfl r4
  unfold Oper.wp
  simp only [execOp, resolve, invoke, builtin, Sem.run_bind, Sem.run_pure, Result.andThen_ok, List.map_toArray, List.map_cons, List.map_nil, hu, hv, r1, Oper.upon_value]
  have hbn : bn = b ∨ bn = w.heap.size := by simpa [Value.ownBlock] using r5
  have hsame : ∀ k, k < w.heap.size → k ≠ b → w'.heap[k]? = w.heap[k]? := fun k hk hne => r3.block k hk (fun e => hne (by injection e))
  have hnF : ¬ E.F bn := by
    rcases hbn with rfl | rfl
    · exact hF
    · exact fun h => by have := ok.fb _ h; omega
  have hbig : bn < w'.heap.size := by
    rcases Nat.lt_or_ge bn w'.heap.size with h | h
    · exact h
    · rw [Array.getElem?_eq_none h] at hhn; cases hhn
  have hnew : ∀ l bl cl, l ≠ o → E.r l = some (bl, cl) → bl ≠ bn := by
    intro l bl cl hne hl e
    subst e
    rcases hbn with h | h
    · subst h; exact hne (ok.inj l o _ _ _ hl hr)
    · have := (ok.rb l bl cl hl).1; omega
  have hHb : ∀ g k, E.H g k → k ≠ b ∧ k < w.heap.size := fun g k hk => ⟨fun e => by subst e; cases g; exact hF hk; exact hF (ok.gf _ hk), ok.hb hk⟩
  have kH : ∀ (g : Bool) (k : Nat), E.H g k → w'.heap[k]? = w.heap[k]? := fun g k hk => hsame k (hHb g k hk).2 (hHb g k hk).1
  have kI : ∀ (g : Bool) (k : Nat), E.H g k → (E.mv o q bn cap).H g k := fun _ _ h => h
  have hbnew : cx.w0.heap.size ≤ b := by
    rcases hbl.2 with h | h
    · exact h
    · rw [hrv] at h; cases h.2
  have hmv : ∀ l bl cl, (E.mv o q bn cap).r l = some (bl, cl) → (l = q ∧ bl = bn ∧ cl = cap) ∨ (l ≠ q ∧ l ≠ o ∧ E.r l = some (bl, cl)) := by
    intro l bl cl hl
    simp only [Env.mv] at hl
    split at hl
    · cases hl; exact .inl ⟨by assumption, rfl, rfl⟩
    · split at hl
      · cases hl
      · exact .inr ⟨by assumption, by assumption, hl⟩
  refine ⟨_, E.mv o q bn cap, rfl, ⟨fun k hk => Nat.lt_of_lt_of_le (ok.fb k hk) r3.size, ok.gf, ok.gn, fun l bl cl hl => ?_, fun l l' bl cl cl' hl hl' => ?_, by rw [r3.os]; exact ok.os, by rw [r3.tape]; exact ok.tape, by rw [r3.output]; exact ok.output, Nat.le_trans ok.size r3.size, fun k hk hW => ?_, fun l xx hv hl => ?_, ok.ff, fun k hk hk' => (ok.gc k hk hk').of_eq (hsame k (hHb false k hk).2 (hHb false k hk).1), ok.sf.turn hr rfl rfl (fun _ h => .inl h) (fun l bl cl hl => ?_) r3.size hsame⟩,
    ⟨fun l xx hl hlr => ?_, fun _ h => h, fun _ h => h, fun _ h => .inl h, fun k hk _ hkl => hsame k hk (fun e => hkl o cc rfl (e ▸ hr)), (fun _ _ _ _ h => by cases h), fun l bl cl hl hlr => ?_, rfl, rfl, rfl⟩, ⟨bn, cap, by simp [Env.mv], rfl⟩, fun l ob hm => ?_, (fun _ _ h => by cases h), fun l xx hl => ?_⟩
  · rcases hmv l bl cl hl with ⟨_, rfl, rfl⟩ | ⟨_, _, hl⟩
    · refine ⟨hbig, .inl ?_⟩
      rcases hbn with h | h
      · rw [h]; exact hbnew
      · rw [h]; exact ok.size
    · have := ok.rb l bl cl hl; exact ⟨Nat.lt_of_lt_of_le this.1 r3.size, this.2⟩
  · rcases hmv l bl cl hl with ⟨h1, h2, h3⟩ | ⟨h1, h2, h3⟩ <;> rcases hmv l' bl cl' hl' with ⟨k1, k2, k3⟩ | ⟨k1, k2, k3⟩
    · omega
    · exact absurd h2 (hnew l' _ _ k2 k3)
    · exact absurd k2 (hnew l _ _ h2 h3)
    · exact ok.inj l l' bl cl cl' h3 k3
  · rw [hsame k (by have := ok.size; omega) (by omega)]; exact ok.block k hk hW
  · obtain ⟨bl, cl⟩ := xx
    rcases hmv l bl cl hl with ⟨rfl, _⟩ | ⟨_, _, hl⟩
    · rw [rsv_rsp hq2] at hv; cases hv
    · exact ok.pin l _ hv hl
  · rcases hmv l bl cl hl with ⟨_, rfl, _⟩ | ⟨_, _, hl⟩
    · rcases hbn with h | h
      · left; exact ⟨o, _, h ▸ hr⟩
      · right; omega
    · exact .inl ⟨l, cl, hl⟩
  · simp only [Env.mv]
    rw [if_neg (fun e => by rw [e, hq1] at hlr; cases hlr), if_neg (fun e => hl (by rw [e]))]
    exact hlr
  · cases hl
    rw [hr] at hlr; cases hlr; exact hF
  · simp at hm; obtain ⟨rfl, rfl⟩ := hm
    have hall : ∀ e' ∈ els ++ ys, e'.length = sz := fun e' he' => by
      rcases List.mem_append.1 he' with h | h
      · exact hes e' h
      · exact hsz e' h
    refine ⟨bn, cap, cur, by simp [Env.mv], hhn, hcur, by simp; omega, hcapm, hall, ?_, fun _ => hnF, fun h => by cases h⟩
    rw [rdLL_flat]
    refine rdL_of fun j xd hj => ?_
    rw [Nat.zero_add, cell_var hhn]
    rw [List.flatten_append] at hj
    have hfl : els.flatten.length = n * sz := by rw [flat_len hes, hn]
    have hxs : (arr.toList.take (n * sz)).length = n * sz := by simp [ha]; rw [Nat.min_eq_left (by omega)]
    have hcurj : ∀ u, (arr.toList.take (n * sz) ++ news)[j]? = some u → cur[j]? = some u := by
      intro u hu
      rw [← htk, List.getElem?_take] at hu
      split at hu
      · simpa using hu
      · cases hu
    by_cases hjn : j < n * sz
    · rw [List.getElem?_append_left (by omega)] at hj
      obtain ⟨u, u1, u2⟩ := rdL_at (rdLL_flat.1 hrd) hj
      rw [Nat.zero_add, cell_var hh] at u1
      refine ⟨u, hcurj u ?_, rdD_mono (kH _) (kI _) _ _ (rdD_H ok u2 (by simp; intro a _; exact a))⟩
      rw [List.getElem?_append_left (by omega), List.getElem?_take, if_pos hjn]
      simpa using u1
    · rw [List.getElem?_append_right (by omega), hfl] at hj
      obtain ⟨u, u1, u2⟩ := n3 _ _ hj
      refine ⟨u, hcurj u ?_, rdD_mono (kH _) (kI _) _ _ (rdD_H ok u2 (by simp))⟩
      rw [List.getElem?_append_right (by omega), hxs]
      exact u1
  · obtain ⟨bl, cl⟩ := xx
    rcases hmv l bl cl hl with ⟨rfl, _⟩ | ⟨_, _, hl⟩
    · exact .inr ⟨_, .head _⟩
    · exact .inl hl
/-- append onto nil: a new row; what it does. -/
theorem append_nil_core {t : TypeId} {e sz by_ q : Nat} {ys : List (List D)} {gy : Bool} {c : C} {nob : List (Nat × Ob)} [ht : TySl P t e sz by_]
    (hs : Src nob c ys gy) (hne0 : ys ≠ []) (hsz : ∀ e ∈ ys, e.length = sz) (hb : ys.length * by_ ≤ 140737488355328) (h63 : ys.length ≤ 9223372036854775807)
    {cx : Cx} {E : Env} {a : Act} {w : World} (ok : EnvOK cx E w) (hob : ∀ l x, go nob l = some x → relOb E w l x) (hq1 : E.r q = none) (hq2 : rsv q = false) (hu : a.eval x = .slice none 0 0) (h2 : cvT E w (.v (.c c)) (a.eval y)) :
    Oper.wp P ⟨some d, .call ⟨.builtin .append, #[x, y], #[t, t]⟩, ty, ps, af, gd⟩ a w (fun a' w' => ∃ v E', a' = a.put (some d) v ∧ EnvOK cx E' w' ∧ Ext E w E' w' ∧ cvT E' w' (.v (.c (.w q ys.length))) v ∧ (∀ l ob, (l, ob) ∈ [(q, Ob.row e sz ys gy true)] → relOb E' w' l ob) ∧
      (∀ l x, E'.r l = some x → E.r l = some x ∨ ∃ ob, (l, ob) ∈ [(q, Ob.row e sz ys gy true)])) (fun _ _ _ => False) := by
  obtain ⟨A, k, hv, hyk, hA⟩ := src_okN hob hs h2
  obtain ⟨ii, zz, i1, i2, i3, i4, i5⟩ := ht.i
  have hown := World.ownsRow_nil w 0 e sz
  rcases hA with h0 | ⟨b2, off, rfl, hrd2⟩
  · exact absurd h0 hne0
  obtain ⟨news, q1, q2, q3, n3⟩ := rdL_vals (rdLL_flat.1 hrd2)
  have n1 : news.length = ys.length * sz := by rw [q1, flat_len hsz]
  obtain ⟨v', w', r1, r2, r3, r4, r5⟩ := run_append_own_at (P := P) w 0 t ty e ii zz sz by_ ht.u i1 i4 i2 i3 i5 ht.p _ 0 _ hown ⟨b2, off, none⟩ ys.length k news n1 q2 q3 (by unfold maxLen; omega) (by simpa using hb) (Nat.zero_le _)
  have hnn : v' ≠ .slice none 0 0 := fun h => hne0 (List.eq_nil_of_length_eq_zero (r4.1 h).2)
  obtain ⟨_, r2⟩ := r2
  rcases r2 with ⟨rfl, _⟩ | ⟨bn, cap, cur, rfl, _, hhn, hcap, hcapm, hcur, htk⟩
  · exact absurd rfl hnn
  simp only [Nat.zero_add, List.nil_append] at r1 hcap htk hnn r4 r5
  unfold Oper.wp
  simp only [execOp, resolve, invoke, builtin, Sem.run_bind, Sem.run_pure, Result.andThen_ok, List.map_toArray, List.map_cons, List.map_nil, hu, hv, r1, Oper.upon_value]
  have hbn : bn = w.heap.size := by simpa [Value.ownBlock] using r5
  have hsame : ∀ k, k < w.heap.size → w'.heap[k]? = w.heap[k]? := fun k hk => r3.block k hk (fun e => by simp [Value.ownBlock] at e)
  have hnF : ¬ E.F bn := fun h => by have := ok.fb _ h; omega
  have hbig : bn < w'.heap.size := by
    rcases Nat.lt_or_ge bn w'.heap.size with h | h
    · exact h
    · rw [Array.getElem?_eq_none h] at hhn; cases hhn
  have kH : ∀ (g : Bool) (k : Nat), E.H g k → w'.heap[k]? = w.heap[k]? := fun g k hk => hsame k (ok.hb hk)
  have kI : ∀ (g : Bool) (k : Nat), E.H g k → (E.new q bn cap).H g k := fun _ _ h => h
  have hmv : ∀ l bl cl, (E.new q bn cap).r l = some (bl, cl) → (l = q ∧ bl = bn ∧ cl = cap) ∨ (l ≠ q ∧ E.r l = some (bl, cl)) := by
    intro l bl cl hl
    simp only [Env.new] at hl
    split at hl
    · cases hl; exact .inl ⟨by assumption, rfl, rfl⟩
    · exact .inr ⟨by assumption, hl⟩
  refine ⟨_, E.new q bn cap, rfl, ⟨fun k hk => Nat.lt_of_lt_of_le (ok.fb k hk) r3.size, ok.gf, ok.gn, fun l bl cl hl => ?_, fun l l' bl cl cl' hl hl' => ?_, by rw [r3.os]; exact ok.os, by rw [r3.tape]; exact ok.tape, by rw [r3.output]; exact ok.output, Nat.le_trans ok.size r3.size, fun k hk hW => ?_, fun l xx hv hl => ?_, ok.ff, fun k hk hk' => (ok.gc k hk hk').of_eq (hsame k (ok.fb k hk)), ok.sf.grow rfl rfl (fun _ h => .inl h) (fun l bl cl hl => ?_) r3.size hsame⟩,
    ⟨fun l xx hlr => ?_, fun _ h => h, fun _ h => h, fun _ h => .inl h, hsame, rfl, rfl, rfl⟩, ⟨bn, cap, by simp [Env.new], rfl⟩, fun l ob hm => ?_, fun l xx hl => ?_⟩
  · rcases hmv l bl cl hl with ⟨_, rfl, rfl⟩ | ⟨_, hl⟩
    · exact ⟨hbig, .inl (by rw [hbn]; exact ok.size)⟩
    · have := ok.rb l bl cl hl; exact ⟨Nat.lt_of_lt_of_le this.1 r3.size, this.2⟩
  · rcases hmv l bl cl hl with ⟨h1, h2, h3⟩ | ⟨h1, h3⟩ <;> rcases hmv l' bl cl' hl' with ⟨k1, k2, k3⟩ | ⟨k1, k3⟩
    · omega
    · have := (ok.rb l' bl cl' k3).1; omega
    · have := (ok.rb l bl cl h3).1; omega
    · exact ok.inj l l' bl cl cl' h3 k3
  · rw [hsame k (by have := ok.size; omega)]; exact ok.block k hk hW
  · obtain ⟨bl, cl⟩ := xx
    rcases hmv l bl cl hl with ⟨rfl, _⟩ | ⟨_, hl⟩
    · rw [rsv_rsp hq2] at hv; cases hv
    · exact ok.pin l _ hv hl
  · rcases hmv l bl cl hl with ⟨_, rfl, _⟩ | ⟨_, hl⟩
    · right; omega
    · exact .inl ⟨l, cl, hl⟩
  · simp only [Env.new]
    rw [if_neg (fun e => by rw [e, hq1] at hlr; cases hlr)]
    exact hlr
  · simp at hm; obtain ⟨rfl, rfl⟩ := hm
    refine ⟨bn, cap, cur, by simp [Env.new], hhn, hcur, by omega, hcapm, hsz, ?_, fun _ => hnF, fun h => by cases h⟩
    rw [rdLL_flat]
    refine rdL_of fun j xd hj => ?_
    rw [Nat.zero_add, cell_var hhn]
    obtain ⟨u, u1, u2⟩ := n3 _ _ hj
    refine ⟨u, ?_, rdD_mono (kH _) (kI _) _ _ u2⟩
    have := u1
    rw [← htk, List.getElem?_take] at this
    split at this
    · simpa using this
    · cases this
  · obtain ⟨bl, cl⟩ := xx
    rcases hmv l bl cl hl with ⟨rfl, _⟩ | ⟨_, hl⟩
    · exact .inr ⟨_, .head _⟩
    · exact .inl hl
theorem n_append_nil {t : TypeId} {e sz by_ q : Nat} {ys : List (List D)} {gy : Bool} {c : C} {nob : List (Nat × Ob)} [ht : TySl P t e sz by_]
    (hs : Src nob c ys gy) (hne0 : ys ≠ []) (hsz : ∀ e ∈ ys, e.length = sz) (hb : ys.length * by_ ≤ 140737488355328) (h63 : ys.length ≤ 9223372036854775807) :
    AWN P ⟨some d, .call ⟨.builtin .append, #[x, y], #[t, t]⟩, ty, ps, af, gd⟩ [(x, .v (.c .nil)), (y, .v (.c c))] nob (.v (.c (.w q ys.length))) [(q, .row e sz ys gy true)] := by
  intro cx E a w ok hne hnob hfr
  obtain ⟨hq1, hq2⟩ := hfr q _ (.head _)
  exact append_nil_core hs hne0 hsz hb h63 ok (fun l x h => hnob l x (go_mem h)) hq1 hq2 (hne x _ (.head _)) (hne y _ (.tail _ (.head _)))
end
section
variable {P : Program} {N : Nat} {d : Tmp} {ty : TypeId} {ps : String} {af : Array Edge} {gd : Option (Nat × Bool)} {x y : Operand} {sl : List (Nat × T)} {ob : List (Nat × Ob)} {nx : Nat} {α : Type} {enc : α → List D}
/-- append, among other operations. 'ls': the rows that it looks at. -/
theorem apx {t : TypeId} {e sz by_ o n nx' : Nat} {ys zs : List α} {zd : List (List D)} {g gy gg : Bool} {c : C} {nob : List (Nat × Ob)} (ls : List Nat) [TySl P t e sz by_] (H : apOk by_ (ys ++ zs).length = true) (hzd : zs.map enc = zd) (henc : ∀ a, (enc a).length = sz) (hn : ys.length = n)
    (hp : pickO ob ls = some nob) (hs : Src nob c zd gy) (hd : nlt d N = true) (hx : opT sl x = .v (.c (.w o n))) (hy : opT sl y = .v (.c c)) (ho : go nob o = some (.row e sz (ys.map enc) g true)) (hg : (g && gy) = gg) (hrv : rsv o = false) (hnx : nxt nx = some nx') :
    NX P N ⟨some d, .call ⟨.builtin .append, #[x, y], #[t, t]⟩, ty, ps, af, gd⟩ ⟨sl, ob, nx⟩ ⟨(d, .v (.c (.w nx (ys ++ zs).length))) :: sl, (nx, .row e sz ((ys ++ zs).map enc) gg true) :: ob, nx'⟩
      ⟨⟨d, [(x, .v (.c (.w o n))), (y, .v (.c c))], nob, .v (.c (.w nx (ys ++ zs).length)), [(nx, .row e sz ((ys ++ zs).map enc) gg true)]⟩, [], some o⟩ := by
  subst hzd; subst hg
  simp only [apOk, decide_eq_true_eq, List.length_append] at H
  have := k_append (P := P) (d := d) (ty := ty) (ps := ps) (af := af) (gd := gd) (x := x) (y := y) (t := t) (e := e) (sz := sz) (by_ := by_) (q := nx) (n := n) hrv ho hs (by simpa using hn) (lenM henc zs) (by subst hn; simp only [List.length_map]; exact H.1) (by subst hn; simp only [List.length_map]; omega)
  rw [← List.map_append, List.length_map, ← hn, ← List.length_append] at this
  exact ⟨by subst hn; exact this, .inl ⟨rfl, blt_lt hd⟩, ⟨hx, hy, trivial⟩, pickO_Lo hp, nxt_ok hnx, rfl⟩
/-- The same, where the elements hold no slices: the row holds nothing old. -/
theorem apxF {t : TypeId} {e sz by_ o n nx' : Nat} {ys zs : List α} {zd : List (List D)} {g gy : Bool} {c : C} {nob : List (Nat × Ob)} (ls : List Nat) [TySl P t e sz by_] (H : apOk by_ (ys ++ zs).length = true) (hzd : zs.map enc = zd) (henc : ∀ a, (enc a).length = sz) (hfl : ∀ a, flatB (enc a) = true) (hn : ys.length = n)
    (hp : pickO ob ls = some nob) (hs : Src nob c zd gy) (hd : nlt d N = true) (hx : opT sl x = .v (.c (.w o n))) (hy : opT sl y = .v (.c c)) (ho : go nob o = some (.row e sz (ys.map enc) g true)) (hrv : rsv o = false) (hnx : nxt nx = some nx') :
    NX P N ⟨some d, .call ⟨.builtin .append, #[x, y], #[t, t]⟩, ty, ps, af, gd⟩ ⟨sl, ob, nx⟩ ⟨(d, .v (.c (.w nx (ys ++ zs).length))) :: sl, (nx, .row e sz ((ys ++ zs).map enc) true true) :: ob, nx'⟩
      ⟨⟨d, [(x, .v (.c (.w o n))), (y, .v (.c c))], nob, .v (.c (.w nx (ys ++ zs).length)), [(nx, .row e sz ((ys ++ zs).map enc) true true)]⟩, [], some o⟩ := by
  obtain ⟨h1, h2, h3, h4, h5, h6⟩ := apx (P := P) (N := N) (t := t) (x := x) (y := y) (enc := enc) (d := d) (ty := ty) (ps := ps) (af := af) (gd := gd) (sl := sl) (ob := ob) (nx := nx) ls H hzd henc hn hp hs hd hx hy ho rfl hrv hnx
  refine ⟨?_, h2, h3, h4, nxt_ok hnx, rfl⟩
  intro cx E a w ok hne hnob hfr
  refine Oper.wp_mono ?_ (h1 cx E a w ok hne hnob (fun l x hm => by simp at hm; obtain ⟨rfl, _⟩ := hm; exact hfr _ _ (.head _)))
  rintro a' w' ⟨v, E', k1, k2, k3, k4, k5, k6, k7⟩
  refine ⟨v, E', k1, k2, k3, k4, fun l x hm => ?_, k6, fun l x hl => (k7 l x hl).imp id (fun ⟨x', hm⟩ => by simp at hm; obtain ⟨rfl, _⟩ := hm; exact ⟨_, .head _⟩)⟩
  simp at hm; obtain ⟨rfl, rfl⟩ := hm
  obtain ⟨b, c, arr, j1, j2, j3, j4, j5, j6, j7, j8, j9⟩ := k5 _ _ (.head _)
  refine ⟨b, c, arr, j1, j2, j3, by simpa using j4, j5, by simpa using j6, ?_, j8, fun h => by cases h⟩
  have : rdLL w' (E'.H true) ((ys ++ zs).map enc) b 0 := flat_rdLL (fun e he => by obtain ⟨a, _, rfl⟩ := List.mem_map.1 he; exact hfl a) j7
  simpa using this
end
/-- The cells of a variable that name rows which nobody writes, as data. -/
theorem weak_castv {N nx o : Nat} {sl : List (Nat × T)} {ob : List (Nat × Ob)} {ty : TypeId} {cs cs' : List C} {e : List (Nat × Nat)} (ho : go ob o = some (.var ty cs)) (hv : dfzs ob cs = some (cs', e)) (he : Eqs e) : Weak N ⟨sl, ob, nx⟩ ⟨sl, (o, .var ty cs') :: ob, nx⟩ := by
  intro cx E a w hR
  refine ⟨E, hR.ok, hR.dom, fun p x h => ?_, hR.sl, hR.dfr, hR.size, hR.td⟩
  by_cases hp : o = p
  · subst hp
    rw [go_same] at h; cases h
    obtain ⟨b, c, arr, h1, h2, h3, h4⟩ := hR.obs o _ ho
    exact ⟨b, c, arr, h1, h2, dfzs_ok hR.obs hv he h3, h4⟩
  · rw [go_other _ _ hp] at h; exact hR.obs p x h
/-- More labels may be given away later. -/
theorem weak_up {N nx nx' : Nat} {sl : List (Nat × T)} {ob : List (Nat × Ob)} (h : Nat.ble nx nx' = true) : Weak N ⟨sl, ob, nx⟩ ⟨sl, ob, nx'⟩ := by
  intro cx E a w hR
  have := Nat.le_of_ble_eq_true h
  exact ⟨E, hR.ok, fun o x ho => Nat.lt_of_lt_of_le (hR.dom o x ho) this, hR.obs, hR.sl, hR.dfr, hR.size, fun l b hb => Nat.lt_of_lt_of_le (hR.td l b hb) this⟩
end Go.AM
