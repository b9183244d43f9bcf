/-
  The abstract machine, part Zp: data at once: calls whose new rows are handed on as data; append among other operations, whose row is data.
-/
import Derived.Test.YtlpclccdbmoemaaGreatAmZo
set_option linter.unusedVariables false
namespace Go.AM
open Go.RowKit
def RC.frz : RC → RC
  | .own _ _ els _ => .d (.l els)
  | r => r
def RV.frz : RV → RV
  | .c r => .c r.frz
  | .agg rs => .agg (rs.map RC.frz)
def RC.full : RC → Prop
  | .own _ _ els n => els.length = n
  | _ => True
def fullRs : List RC → Prop
  | [] => True
  | r :: rs => r.full ∧ fullRs rs
def RV.full : RV → Prop
  | .c r => r.full
  | .agg rs => fullRs rs
def fullVs : List RV → Prop
  | [] => True
  | r :: rs => r.full ∧ fullVs rs
section
variable {w : World} {G G2 : Nat → Prop} {base : Nat}
theorem rc_frz (hG : ∀ b, G b → G2 b) {r : RC} {u : Value} {bs : List (Nat × Nat)} (h : rcR w G base r u bs) (hf : r.full) (hb : ∀ p ∈ bs, G2 p.1) :
    rcR w G2 base r.frz u [] ∧ ∀ p ∈ bs, base ≤ p.1 ∧ p.1 < w.heap.size ∧ Plain w p.1 := by
  cases r with
  | d x => obtain ⟨rfl, h⟩ := h; exact ⟨⟨rfl, rdD_mono (fun _ _ => rfl) hG _ _ h⟩, by simp⟩
  | nil => obtain ⟨rfl, h⟩ := h; exact ⟨⟨rfl, h⟩, by simp⟩
  | own ty sz els n =>
    obtain ⟨b, c, arr, rfl, rfl, hh, h1, h2, h3, h4, h5, h6, h7⟩ := h
    have hf : els.length = n := hf
    refine ⟨⟨rfl, some ⟨b, 0, none⟩, c, by rw [hf], h2, .inr ⟨b, 0, rfl, hb _ (.head _), rdLL_mono' (fun _ _ => rfl) hG rfl _ _ h5⟩⟩, fun p hp => ?_⟩
    obtain rfl := List.mem_singleton.1 hp
    exact ⟨h7, heap_lt hh, ⟨arr, ty, hh⟩⟩
theorem rcs_frz (hG : ∀ b, G b → G2 b) : ∀ {rs : List RC} {us : List Value} {bs : List (Nat × Nat)}, rcsR w G base rs us bs → fullRs rs → (∀ p ∈ bs, G2 p.1) →
    rcsR w G2 base (rs.map RC.frz) us [] ∧ ∀ p ∈ bs, base ≤ p.1 ∧ p.1 < w.heap.size ∧ Plain w p.1
  | [], [], bs, h, _, _ => by have h : bs = [] := h; subst h; exact ⟨rfl, by simp⟩
  | r :: rs, u :: us, bs, ⟨b1, b2, e, h1, h2⟩, hf, hb => by
    subst e
    obtain ⟨k1, k2⟩ := rc_frz hG h1 hf.1 (fun p hp => hb p (by simp [hp]))
    obtain ⟨k3, k4⟩ := rcs_frz hG h2 hf.2 (fun p hp => hb p (by simp [hp]))
    exact ⟨⟨[], [], rfl, k1, k3⟩, fun p hp => (List.mem_append.1 hp).elim (k2 p) (k4 p)⟩
  | [], _ :: _, _, h, _, _ => h.elim
  | _ :: _, [], _, h, _, _ => h.elim
theorem rv_frz (hG : ∀ b, G b → G2 b) {r : RV} {u : Value} {bs : List (Nat × Nat)} (h : rvR w G base r u bs) (hf : r.full) (hb : ∀ p ∈ bs, G2 p.1) :
    rvR w G2 base r.frz u [] ∧ ∀ p ∈ bs, base ≤ p.1 ∧ p.1 < w.heap.size ∧ Plain w p.1 := by
  cases r with
  | c r => exact rc_frz hG h hf hb
  | agg rs =>
    obtain ⟨arr, rfl, h⟩ := h
    obtain ⟨k1, k2⟩ := rcs_frz hG h hf hb
    exact ⟨⟨arr, rfl, k1⟩, k2⟩
theorem rvs_frz (hG : ∀ b, G b → G2 b) : ∀ {rs : List RV} {us : List Value} {bs : List (Nat × Nat)}, rvsR w G base rs us bs → fullVs rs → (∀ p ∈ bs, G2 p.1) →
    rvsR w G2 base (rs.map RV.frz) us [] ∧ ∀ p ∈ bs, base ≤ p.1 ∧ p.1 < w.heap.size ∧ Plain w p.1
  | [], [], bs, h, _, _ => by have h : bs = [] := h; subst h; exact ⟨rfl, by simp⟩
  | r :: rs, u :: us, bs, ⟨b1, b2, e, h1, h2⟩, hf, hb => by
    subst e
    obtain ⟨k1, k2⟩ := rv_frz hG h1 hf.1 (fun p hp => hb p (by simp [hp]))
    obtain ⟨k3, k4⟩ := rvs_frz hG h2 hf.2 (fun p hp => hb p (by simp [hp]))
    exact ⟨⟨[], [], rfl, k1, k3⟩, fun p hp => (List.mem_append.1 hp).elim (k2 p) (k4 p)⟩
  | [], _ :: _, _, h, _, _ => h.elim
  | _ :: _, [], _, h, _, _ => h.elim
theorem res_frz (hG : ∀ b, G b → G2 b) {rs : List RV} {u : Value} {bs : List (Nat × Nat)} (h : resR w G base rs u bs) (hf : fullVs rs) (hb : ∀ p ∈ bs, G2 p.1) :
    resR w G2 base (rs.map RV.frz) u [] ∧ ∀ p ∈ bs, base ≤ p.1 ∧ p.1 < w.heap.size ∧ Plain w p.1 := by
  cases rs with
  | nil => obtain ⟨arr, hu, h⟩ := h; obtain ⟨k1, k2⟩ := rvs_frz hG h hf hb; exact ⟨⟨arr, hu, k1⟩, k2⟩
  | cons r rs =>
    cases rs with
    | nil => exact rv_frz hG h hf.1 hb
    | cons r2 rs => obtain ⟨arr, hu, h⟩ := h; obtain ⟨k1, k2⟩ := rvs_frz hG h hf hb; exact ⟨⟨arr, hu, k1⟩, k2⟩
end
/-- A call's new rows, handed on as data. -/
theorem Fn.frzs {P : Program} {f : FuncId} {args : List AV} {res : List RV} (h : Fn P f args res) (hf : fullVs res) : Fn P f args (res.map RV.frz) := by
  refine ⟨h.enters, fun F w vals hF ht hA => (h.calls F w vals hF ht hA).mono ?_⟩
  rintro e w' ⟨v, G, bs, he, hp, hG, hr, _⟩
  obtain ⟨k1, k2⟩ := res_frz (G2 := fun b => G b ∨ ∃ p ∈ bs, p.1 = b) (fun b h => .inl h) hr hf (fun p hp => .inr ⟨p, hp, rfl⟩)
  refine ⟨v, _, [], he, hp, ?_, k1, by simp⟩
  rintro b (hb | ⟨p, hm, rfl⟩)
  · exact hG b hb
  · exact k2 p hm
/-- A new row that becomes data at once. -/
theorem awk_frz {P : Program} {o : Oper} {needs : List (Operand × T)} {nob : List (Nat × Ob)} {q n e sz : Nat} {els : List (List D)} {g : Bool} {k : Nat} (hn : els.length = n)
    (h : AWK P o needs nob (.v (.c (.w q n))) [(q, .row e sz els g true)] [] (some k)) : AWK P o needs nob (.v (.c (.d g (.l els)))) [(q, .row e sz els g false)] [] (some k) := by
  intro cx E a w ok hne hnob hfr
  obtain ⟨hq1, hq2⟩ := hfr q _ (.head _)
  refine Oper.wp_mono ?_ (h cx E a w ok hne hnob (fun l x hm => by simp at hm; obtain ⟨rfl, _⟩ := hm; exact ⟨hq1, hq2⟩))
  rintro a' w' ⟨v, E', k1, ok', k3, ⟨b, c, hr, hv⟩, k5, k6, k7⟩
  obtain ⟨b', c', arr, hr', hh, ha, hlc, hmx, hes, hrd, hFm, _⟩ := k5 q _ (.head _)
  rw [hr] at hr'; cases hr'
  have hF := hFm rfl
  obtain ⟨hb1, hb2⟩ := ok'.rb q b c hr
  have hb3 : cx.w0.heap.size ≤ b := by
    rcases hb2 with h | h
    · exact h
    · rw [hq2] at h; cases h.2
  let E2 : Env := ⟨E'.r, fun j => E'.F j ∨ j = b, fun j => E'.G j ∨ (g = true ∧ j = b), E'.T, E'.Z, E'.n⟩
  have hH : ∀ g' j, E'.H g' j → E2.H g' j := fun g' j hj => by cases g' <;> exact .inl hj
  have hold : ∀ l c', k ≠ l → E.r l ≠ some (b, c') := fun l c' hkl hl => by
    have h1 := k3.r l _ (by simpa using hkl) hl
    have := ok'.inj _ _ _ _ _ h1 hr
    subst this
    rw [hq1] at hl; cases hl
  refine ⟨v, E2, k1, ⟨?_, ?_, ?_, ok'.rb, ok'.inj, ok'.os, ok'.tape, ok'.output, ok'.size, ok'.block, ok'.pin, fun j hj => hj.elim (ok'.ff j) (fun e => .inr (e ▸ hb3)), fun j hj hj' => hj.elim (fun h => ok'.gc j h hj') (fun e => e ▸ ⟨arr, _, hh⟩),
    ⟨fun l j h => ?_, ok'.sf.tt, fun j h => ?_, ok'.sf.zs, ok'.sf.ze⟩⟩, ⟨k3.r, fun j hj => .inl (k3.F j hj), fun j hj => .inl (k3.G j hj), ?_, k3.heap, k3.own, k3.ownk, k3.T, k3.Z, k3.n⟩, ?_, fun l x hm => ?_, (fun _ _ h => by cases h), fun l x hl => ?_⟩
  · rintro j (h | rfl)
    · exact ok'.fb j h
    · exact hb1
  · rintro j (h | ⟨_, rfl⟩)
    · exact .inl (ok'.gf j h)
    · exact .inr rfl
  · rintro j (h | ⟨_, rfl⟩)
    · exact ok'.gn j h
    · exact .inl hb3
  · obtain ⟨h1, h2, h3, h4⟩ := ok'.sf.tb l j h
    exact ⟨h1, fun hk => hk.elim h2 (fun e => by subst e; exact h3 q c hr), h3, h4⟩
  · obtain ⟨h1, h2, h3, h4⟩ := ok'.sf.zc j h
    exact ⟨h1, fun hk => hk.elim h2 (fun e => by subst e; exact h3 q c hr), h3, h4⟩
  · rintro j (h | rfl)
    · exact k3.F' j h
    · exact .inr (.inr (fun l c' hkl => hold l c' (fun e => hkl (by rw [e]))))
  · refine ⟨some ⟨b, 0, none⟩, c, by rw [hv, hn], hlc, .inr ⟨b, 0, rfl, ?_, rdLL_mono' (fun _ _ => rfl) (hH g) rfl _ _ hrd⟩⟩
    cases g
    · exact .inr rfl
    · exact .inr ⟨rfl, rfl⟩
  · simp at hm; obtain ⟨rfl, rfl⟩ := hm
    exact ⟨b, c, arr, hr, hh, ha, hlc, hmx, hes, rdLL_mono' (fun _ _ => rfl) (hH g) rfl _ _ hrd, (fun h => by cases h), fun _ => ⟨.inr rfl, fun hg => .inr ⟨hg, rfl⟩⟩⟩
  · rcases k7 l x hl with h | ⟨ob, hm⟩
    · exact .inl h
    · simp at hm; obtain ⟨rfl, _⟩ := hm; exact .inr ⟨_, .head _⟩
section
variable {P : Program} {N : Nat} {d : Tmp} {ty : TypeId} {ps : String} {af : Array Edge} {gd : Option (Nat × Bool)} {x y : Operand} {sl : List (Nat × T)} {ob : List (Nat × Ob)} {nx : Nat} {α : Type} {enc : α → List D}
/-- The same, where the elements hold no slices: new data. -/
theorem apxFD {t : TypeId} {e sz by_ o n nx' : Nat} {ys zs : List α} {zd : List (List D)} {g gy : Bool} {c : C} {nob : List (Nat × Ob)} (ls : List Nat) [TySl P t e sz by_] (H : apOk by_ (ys ++ zs).length = true) (hzd : zs.map enc = zd) (henc : ∀ a, (enc a).length = sz) (hfl : ∀ a, flatB (enc a) = true) (hn : ys.length = n)
    (hp : pickO ob ls = some nob) (hs : Src nob c zd gy) (hd : nlt d N = true) (hx : opT sl x = .v (.c (.w o n))) (hy : opT sl y = .v (.c c)) (ho : go nob o = some (.row e sz (ys.map enc) g true)) (hrv : rsv o = false) (hnx : nxt nx = some nx') :
    NX P N ⟨some d, .call ⟨.builtin .append, #[x, y], #[t, t]⟩, ty, ps, af, gd⟩ ⟨sl, ob, nx⟩ ⟨(d, .v (.c (.d true (.l ((ys ++ zs).map enc))))) :: sl, (nx, .row e sz ((ys ++ zs).map enc) true false) :: ob, nx'⟩
      ⟨⟨d, [(x, .v (.c (.w o n))), (y, .v (.c c))], nob, .v (.c (.d true (.l ((ys ++ zs).map enc)))), [(nx, .row e sz ((ys ++ zs).map enc) true false)]⟩, [], some o⟩ := by
  obtain ⟨h1, h2, h3, h4, h5, h6⟩ := apxF (P := P) (N := N) (t := t) (x := x) (y := y) (enc := enc) (d := d) (ty := ty) (ps := ps) (af := af) (gd := gd) (sl := sl) (ob := ob) (nx := nx) ls H hzd henc hfl hn hp hs hd hx hy ho hrv hnx
  exact ⟨awk_frz (by simp) h1, .inl ⟨rfl, blt_lt hd⟩, h3, h4, nxt_ok hnx, rfl⟩
end
theorem weak_nilV {N nx o j : Nat} {sl : List (Nat × T)} {ob : List (Nat × Ob)} {vt : TypeId} {cs cs' : List C} (ho : go ob o = some (.var vt cs)) (hj : setC j (.d true (.l [])) cs = some cs') : Weak N ⟨sl, ob, nx⟩ ⟨sl, (o, .var vt cs') :: ob, nx⟩ := by
  intro cx E a w hR
  refine ⟨E, hR.ok, hR.dom, fun l x hl => ?_, hR.sl, hR.dfr, hR.size, hR.td⟩
  by_cases e : o = l
  · subst e
    rw [go_same] at hl; cases hl
    obtain ⟨b, c, arr, h1, h2, h3, h4⟩ := hR.obs o _ ho
    exact ⟨b, c, arr, h1, h2, setC_ok (x := .d true (.l [])) ⟨none, 0, rfl, Nat.le_refl _, .inl rfl⟩ hj h3 h3, h4⟩
  · rw [go_other _ _ e] at hl; exact hR.obs l x hl
section
variable {P : Program} {N : Nat} {ops : Array Oper} {p : Nat} {o : Oper} {l : List (Nat × Oper)} {dn seg : List Nat} {ys : List Inx} {base : St} {K : St → Prop}
/-- An operation that parts the region, behind labels that were given up. -/
theorem dz_bark {ds : List Nat} {sl sl' : List (Nat × T)} {ob ob' : List (Nat × Ob)} {nx : Nat} {st0 st1 st2 : St} (hs : segOK ops dn seg ys = true) (hkl : kls ys = ds) (hA : killA ds sl ob = some (sl', ob')) (hb : barOK ops (seg ++ dn) p = true)
    (hw : Weak N ⟨sl', ob', nx⟩ st0) (h : BO P N ops o st0 st1) (hw2 : Weak N st1 st2) {dn' : List Nat} (hlo : p :: (seg ++ dn) = dn') (h' : DZ P N ops l dn' [] [] st2 st2 K) : DZ P N ops ((p, o) :: l) dn seg ys base ⟨sl, ob, nx⟩ K := by
  subst hlo
  exact .inr ⟨hs, hb, _, st0, st1, st2, clean_kill hkl hA, hw, h, hw2, h'⟩
end
end Go.AM
