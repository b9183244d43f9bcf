/-
  The abstract machine, part Zv: the rules on rows of pairs, written out.
-/
import Derived.Test.YtlpclccdbmoemaaGreatAmZu
set_option linter.unusedVariables false
namespace Go.AM
open Go.RowKit
/-- A new row that becomes data at once; no label is given up. -/
theorem awk_frzN {P : Program} {o : Oper} {needs : List (Operand × T)} {nob : List (Nat × Ob)} {q n e sz : Nat} {els : List (List D)} {g : Bool} (hn : els.length = n)
    (h : AWK P o needs nob (.v (.c (.w q n))) [(q, .row e sz els g true)] [] none) : AWK P o needs nob (.v (.c (.d g (.l els)))) [(q, .row e sz els g false)] [] none := by
  intro cx E a w ok hne hnob hfr
  obtain ⟨hq1, hq2⟩ := hfr q _ (.head _)
  refine Oper.wp_mono ?_ (h cx E a w ok hne hnob (fun l x hm => by simp at hm; obtain ⟨rfl, _⟩ := hm; exact ⟨hq1, hq2⟩))
  rintro a' w' ⟨v, E', k1, ok', k3, ⟨b, c, hr, hv⟩, k5, k6, k7⟩
  obtain ⟨b', c', arr, hr', hh, ha, hlc, hmx, hes, hrd, hFm, _⟩ := k5 q _ (.head _)
  rw [hr] at hr'; cases hr'
  have hF := hFm rfl
  obtain ⟨hb1, hb2⟩ := ok'.rb q b c hr
  have hb3 : cx.w0.heap.size ≤ b := by
    rcases hb2 with h | h
    · exact h
    · rw [hq2] at h; cases h.2
  let E2 : Env := ⟨E'.r, fun j => E'.F j ∨ j = b, fun j => E'.G j ∨ (g = true ∧ j = b), E'.T, E'.Z, E'.n⟩
  have hH : ∀ g' j, E'.H g' j → E2.H g' j := fun g' j hj => by cases g' <;> exact .inl hj
  have hold : ∀ l c', E.r l ≠ some (b, c') := fun l c' hl => by
    have h1 := k3.r l _ (by simp) hl
    have := ok'.inj _ _ _ _ _ h1 hr
    subst this
    rw [hq1] at hl; cases hl
  refine ⟨v, E2, k1, ⟨?_, ?_, ?_, ok'.rb, ok'.inj, ok'.os, ok'.tape, ok'.output, ok'.size, ok'.block, ok'.pin, fun j hj => hj.elim (ok'.ff j) (fun e => .inr (e ▸ hb3)), fun j hj hj' => hj.elim (fun h => ok'.gc j h hj') (fun e => e ▸ ⟨arr, _, hh⟩),
    ⟨fun l j h => ?_, ok'.sf.tt, fun j h => ?_, ok'.sf.zs, ok'.sf.ze⟩⟩, ⟨k3.r, fun j hj => .inl (k3.F j hj), fun j hj => .inl (k3.G j hj), ?_, k3.heap, k3.own, k3.ownk, k3.T, k3.Z, k3.n⟩, ?_, fun l x hm => ?_, (fun _ _ h => by cases h), fun l x hl => ?_⟩
  · rintro j (h | rfl)
    · exact ok'.fb j h
    · exact hb1
  · rintro j (h | ⟨_, rfl⟩)
    · exact .inl (ok'.gf j h)
    · exact .inr rfl
  · rintro j (h | ⟨_, rfl⟩)
    · exact ok'.gn j h
    · exact .inl hb3
  · obtain ⟨h1, h2, h3, h4⟩ := ok'.sf.tb l j h
    exact ⟨h1, fun hk => hk.elim h2 (fun e => by subst e; exact h3 q c hr), h3, h4⟩
  · obtain ⟨h1, h2, h3, h4⟩ := ok'.sf.zc j h
    exact ⟨h1, fun hk => hk.elim h2 (fun e => by subst e; exact h3 q c hr), h3, h4⟩
  · rintro j (h | rfl)
    · exact k3.F' j h
    · exact .inr (.inr (fun l c' _ => hold l c'))
  · refine ⟨some ⟨b, 0, none⟩, c, by rw [hv, hn], hlc, .inr ⟨b, 0, rfl, ?_, rdLL_mono' (fun _ _ => rfl) (hH g) rfl _ _ hrd⟩⟩
    cases g
    · exact .inr rfl
    · exact .inr ⟨rfl, rfl⟩
  · simp at hm; obtain ⟨rfl, rfl⟩ := hm
    exact ⟨b, c, arr, hr, hh, ha, hlc, hmx, hes, rdLL_mono' (fun _ _ => rfl) (hH g) rfl _ _ hrd, (fun h => by cases h), fun _ => ⟨.inr rfl, fun hg => .inr ⟨hg, rfl⟩⟩⟩
  · rcases k7 l x hl with h | ⟨ob, hm⟩
    · exact .inl h
    · simp at hm; obtain ⟨rfl, _⟩ := hm; exact .inr ⟨_, .head _⟩
section
variable {P : Program} {N : Nat} {d : Tmp} {tt : TypeId} {ps : String} {af : Array Edge} {gd : Option (Nat × Bool)} {x y : Operand} {sl sl1 sl2 : List (Nat × T)} {ob ob1 : List (Nat × Ob)} {nx : Nat}
theorem olh {t : TypeId} {o i n k : Nat} {ty nt : TypeId} {els : List (Int × List Int)} {A : Option Addr} {e : Int × List Int} [TySc P t] (he : els[i]? = some e) (hx : opT sl x = .v (.c (.e o 2 i 1))) (ho : go ob o = some (.cxo o ty nt els (some (i, A, n, k)))) (hN : nlt d N = true) :
    NS0 P N ⟨some d, .load t x, tt, ps, af, gd⟩ sl ob nx d (.v (.c (.d false (.k A n k)))) ⟨d, [(x, .v (.c (.e o 2 i 1)))], [(o, .cxo o ty nt els (some (i, A, n, k)))], .v (.c (.d false (.k A n k))), []⟩ := ns_mk (st := ⟨sl, ob, nx⟩) (n_load_hole he) rfl hN ⟨hx, trivial⟩ ⟨ho, trivial⟩ rfl
theorem olx {t : TypeId} {o i : Nat} {ty nt : TypeId} {els : List (Int × List Int)} {e : Int × List Int} [TySc P t] (he : els[i]? = some e) (hx : opT sl x = .v (.c (.e o 2 i 1))) (ho : go ob o = some (.cxo o ty nt els none)) (hN : nlt d N = true) :
    NS0 P N ⟨some d, .load t x, tt, ps, af, gd⟩ sl ob nx d (.v (.c (.r o (.l (e.2.map eI))))) ⟨d, [(x, .v (.c (.e o 2 i 1)))], [(o, .cxo o ty nt els none)], .v (.c (.r o (.l (e.2.map eI)))), []⟩ := ns_mk (st := ⟨sl, ob, nx⟩) (n_load_cx he rfl) rfl hN ⟨hx, trivial⟩ ⟨ho, trivial⟩ rfl
theorem awn_out {o : Oper} {needs : List (Operand × T)} {nob nw : List (Nat × Ob)} {out out' : T} (h : AWN P o needs nob out nw) (ho : ∀ E w v, cvT E w out v → cvT E w out' v) : AWN P o needs nob out' nw := by
  intro cx E a w ok hn hb hf
  refine Oper.wp_mono ?_ (h cx E a w ok hn hb hf)
  rintro a' w' ⟨v, E', h1, h2, h3, h4, h5, h6⟩
  exact ⟨v, E', h1, h2, h3, ho _ _ _ h4, h5, h6⟩
/-- nil, told as a value. -/
def nkC : C → C
  | .nil => .d false (.k none 0 0)
  | c => c
def nkCs : List C → List C
  | [] => []
  | c :: cs => nkC c :: nkCs cs
theorem nkC_ok {E : Env} {w : World} {c : C} {u : Value} (h : cvC E w c u) : cvC E w (nkC c) u := by
  cases c with
  | nil => have h : u = .slice none 0 0 := h; subst h; show rdD _ _ _ _; rw [rdD]
  | _ => exact h
theorem nkCs_ok {E : Env} {w : World} : ∀ {cs : List C} {us : List Value}, CV E w cs us → CV E w (nkCs cs) us
  | [], [], _ => trivial
  | c :: cs, u :: us, h => ⟨nkC_ok h.1, nkCs_ok h.2⟩
  | [], _ :: _, h => h.elim
  | _ :: _, [], h => h.elim
theorem bdk {t : TypeId} {zs cs cs' : List C} {pl : List (Nat × Nat)} {parts : List (Nat × Operand)} {vs : List V} [TyZ P t zs] [TyB P t pl] (hv : opVs sl (parts.map (·.2)) = some vs) (h : bfill pl zs ((parts.map (·.1)).zip vs) = some cs) (hk : nkCs cs = cs') (hN : nlt d N = true) :
    NS0 P N ⟨some d, .build t parts.toArray, tt, ps, af, gd⟩ sl ob nx d (.v (.agg cs')) ⟨d, (parts.map (·.2)).zip (vs.map T.v), [], .v (.agg cs'), []⟩ := by
  subst hk
  obtain ⟨h1, h2⟩ := opVs_ok hv
  exact ns_mk (st := ⟨sl, ob, nx⟩) (awn_out (n_build (by simpa using h1) h) (fun E w v ⟨arr, hu, hc⟩ => ⟨arr, hu, nkCs_ok hc⟩)) rfl hN h2 trivial rfl
/-- A slice that is built as data, among other operations. -/
theorem bsx {nx' : Nat} {t : TypeId} {e sz : Nat} {len : Nat} {parts : List (Nat × Operand)} {vs : List V} {els : List (List D)} {g : Bool} (h : NS P N ⟨some d, .buildSlice t len parts.toArray, tt, ps, af, gd⟩ ⟨sl, ob, nx⟩ ⟨(d, .v (.c (.w nx len))) :: sl, (nx, .row e sz els g true) :: ob, nx'⟩ ⟨d, (parts.map (·.2)).zip (vs.map T.v), [], .v (.c (.w nx len)), [(nx, .row e sz els g true)]⟩) (hn : els.length = len) :
    NX P N ⟨some d, .buildSlice t len parts.toArray, tt, ps, af, gd⟩ ⟨sl, ob, nx⟩ ⟨(d, .v (.c (.d g (.l els)))) :: sl, (nx, .row e sz els g false) :: ob, nx'⟩ ⟨⟨d, (parts.map (·.2)).zip (vs.map T.v), [], .v (.c (.d g (.l els))), [(nx, .row e sz els g false)]⟩, [], none⟩ := by
  obtain ⟨h1, h2, h3, h4, h5, h6, h7⟩ := h
  exact ⟨awk_frzN hn (awk_of_awx (awx_of_awn h1)), .inl ⟨rfl, h3⟩, h4, h5, h6, rfl⟩
/-- A cell before its row of numbers is there. -/
def encA (a : Int) : List D := [.i .i64 a, .k none 0 0]
end
end Go.AM
