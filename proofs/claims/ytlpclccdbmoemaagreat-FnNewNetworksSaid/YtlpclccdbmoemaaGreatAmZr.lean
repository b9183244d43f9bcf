/-
  The abstract machine, part Zr: rows of pairs: append to a nested row, a row stored into a slot, opened and frozen.
-/
import Derived.Test.YtlpclccdbmoemaaGreatAmZq
set_option linter.unusedVariables false
namespace Go.AM
open Go.RowKit
section
variable {P : Program} {N : Nat} {d : Tmp} {tt : TypeId} {ps : String} {af : Array Edge} {gd : Option (Nat × Bool)} {x y : Operand} {sl sl1 sl2 : List (Nat × T)} {ob ob1 : List (Nat × Ob)} {nx : Nat}
theorem src_cons {nob : List (Nat × Ob)} {c : C} {ys : List (List D)} {g : Bool} {q l : Nat} {h : Hid} {z : Ob} (hs : Src nob c ys g) (hq : go nob q = some (.abs l h)) : Src ((q, z) :: nob) c ys g := by
  cases hs with
  | d => exact .d
  | nil => exact .nil
  | w h1 hn => exact .w (by rw [go_other _ _ (fun e => by subst e; rw [hq] at h1; cases h1)]; exact h1) hn
  | s h1 hn => exact .s (by rw [go_other _ _ (fun e => by subst e; rw [hq] at h1; cases h1)]; exact h1) hn
theorem k_append_loc {t : TypeId} {nt by_ q p n c l : Nat} {k : Nat} {xs : List Int} {ys : List (List D)} {gy : Bool} {cc : C} {nob : List (Nat × Ob)} [ht : TySl P t nt 1 by_] (hrv : rsv q = false)
    (ho : go nob q = some (.abs l (Hid.loc nt (some ⟨k, 0, none⟩) n c xs))) (hs : Src nob cc ys gy) (hn : xs.length = n) (hsz : ∀ e ∈ ys, e.length = 1) (hb : (n + ys.length) * by_ ≤ 140737488355328) (h63 : n + ys.length ≤ 9223372036854775807) :
    AWK P ⟨some d, .call ⟨.builtin .append, #[x, y], #[t, t]⟩, tt, ps, af, gd⟩ [(x, .v (.c (.d false (.k (some ⟨k, 0, none⟩) n c)))), (y, .v (.c cc))] nob (.v (.c (.w p (n + ys.length)))) [(p, .row nt 1 (xs.map eI ++ ys) (true && gy) true)] [] (some q) := by
  intro cx E a w ok hne hnob hfr
  have hq := hnob q _ (go_mem ho)
  rcases hq with ⟨_, h1⟩ | ⟨_, b, c', hr, ⟨h1, h2, h3, ⟨⟨arr, h4, h5⟩, h6, h7, h8⟩⟩, hF⟩
  · have h1 : some (⟨k, 0, none⟩ : Addr) = none ∧ _ := h1
    cases h1.1
  · cases h1
    subst h2
    have hrow : relOb E w q (.row nt 1 (xs.map eI) true true) := ⟨k, c, arr, hr, h4, by omega, by simpa using h6, h7, by simp [eI], RowI.rd ⟨⟨arr, h4, h5⟩, h6, h7, h8⟩ _, fun _ => hF, fun h => by cases h⟩
    refine k_append (P := P) (d := d) (ty := tt) (ps := ps) (af := af) (gd := gd) (x := x) (y := y) (t := t) (e := nt) (sz := 1) (by_ := by_) (o := q) (q := p) (n := n) (els := xs.map eI) (g := true) (nob := (q, .row nt 1 (xs.map eI) true true) :: nob) hrv (go_same _ _ _) (src_cons hs ho) (by simpa using hn) hsz hb h63 cx E a w ok (fun x' t' hm => ?_) (fun l' ob' hm => ?_) hfr
    · rcases List.mem_cons.1 hm with e | hm
      · cases e
        have := hne x _ (.head _)
        have : a.eval x = .slice (some ⟨k, 0, none⟩) n c := this
        exact ⟨k, c, hr, this⟩
      · exact hne x' t' (.tail _ hm)
    · rcases List.mem_cons.1 hm with e | hm
      · cases e; exact hrow
      · exact hnob l' ob' hm
/-- append to a row of numbers whose place is told, among other operations. -/
theorem apk {t : TypeId} {nt by_ q n c l nx' : Nat} {k : Nat} {xs zs : List Int} {zd : List (List D)} {cc : C} {nob : List (Nat × Ob)} (ls : List Nat) [TySl P t nt 1 by_] (H : apOk by_ (xs ++ zs).length = true) (hzd : zs.map eI = zd) (hn : xs.length = n)
    (hp : pickO ob ls = some nob) (hs : Src nob cc zd true) (hd : nlt d N = true) (hx : opT sl x = .v (.c (.d false (.k (some ⟨k, 0, none⟩) n c)))) (hy : opT sl y = .v (.c cc)) (ho : go nob q = some (.abs l (Hid.loc nt (some ⟨k, 0, none⟩) n c xs))) (hrv : rsv q = false) (hnx : nxt nx = some nx') :
    NX P N ⟨some d, .call ⟨.builtin .append, #[x, y], #[t, t]⟩, tt, ps, af, gd⟩ ⟨sl, ob, nx⟩ ⟨(d, .v (.c (.w nx (xs ++ zs).length))) :: sl, (nx, .row nt 1 ((xs ++ zs).map eI) true true) :: ob, nx'⟩
      ⟨⟨d, [(x, .v (.c (.d false (.k (some ⟨k, 0, none⟩) n c)))), (y, .v (.c cc))], nob, .v (.c (.w nx (xs ++ zs).length)), [(nx, .row nt 1 ((xs ++ zs).map eI) true true)]⟩, [], some q⟩ := by
  subst hzd
  simp only [apOk, decide_eq_true_eq, List.length_append] at H
  have := k_append_loc (P := P) (d := d) (tt := tt) (ps := ps) (af := af) (gd := gd) (x := x) (y := y) (t := t) (nt := nt) (by_ := by_) (p := nx) (n := n) hrv ho hs hn (by simp [eI]) (by subst hn; simp only [List.length_map]; exact H.1) (by subst hn; simp only [List.length_map]; omega)
  rw [← List.map_append, List.length_map, ← hn, ← List.length_append] at this
  exact ⟨by subst hn; exact this, .inl ⟨rfl, blt_lt hd⟩, ⟨hx, hy, trivial⟩, pickO_Lo hp, nxt_ok hnx, rfl⟩
/-- append to nil, which is told. -/
theorem apNk {t : TypeId} {nt by_ nx' : Nat} {zs : List Int} {zd : List (List D)} {cc : C} {nob : List (Nat × Ob)} (ls : List Nat) [TySl P t nt 1 by_] (H : apOk by_ zs.length = true) (hne : zs ≠ []) (hzd : zs.map eI = zd)
    (hp : pickO ob ls = some nob) (hs : Src nob cc zd true) (hd : nlt d N = true) (hx : opT sl x = .v (.c (.d false (.k none 0 0)))) (hy : opT sl y = .v (.c cc)) (hnx : nxt nx = some nx') :
    NS P N ⟨some d, .call ⟨.builtin .append, #[x, y], #[t, t]⟩, tt, ps, af, gd⟩ ⟨sl, ob, nx⟩ ⟨(d, .v (.c (.w nx zs.length))) :: sl, (nx, .row nt 1 (zs.map eI) true true) :: ob, nx'⟩
      ⟨d, [(x, .v (.c (.d false (.k none 0 0)))), (y, .v (.c cc))], nob, .v (.c (.w nx zs.length)), [(nx, .row nt 1 (zs.map eI) true true)]⟩ := by
  subst hzd
  simp only [apOk, decide_eq_true_eq] at H
  have h1 := n_append_nil (P := P) (d := d) (ty := tt) (ps := ps) (af := af) (gd := gd) (x := x) (y := y) (t := t) (e := nt) (sz := 1) (by_ := by_) (q := nx) hs (by simpa using hne) (by simp [eI]) (by simpa using H.1) (by simpa using H.2)
  rw [List.length_map] at h1
  refine ⟨fun cx E a w ok hnd hnob hfr => h1 cx E a w ok (fun x' t' hm => ?_) hnob hfr, rfl, blt_lt hd, ⟨hx, hy, trivial⟩, pickO_Lo hp, nxt_ok hnx, rfl⟩
  rcases List.mem_cons.1 hm with e | hm
  · cases e
    have h : a.eval x = .slice none 0 0 := hnd x (.v (.c (.d false (.k none 0 0)))) (.head _)
    exact h
  · exact hnd x' t' (.tail _ hm)
end
end Go.AM
