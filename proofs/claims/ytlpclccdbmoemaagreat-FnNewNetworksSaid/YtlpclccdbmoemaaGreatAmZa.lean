/-
  The abstract machine, part Za: functions that write one thing that is handed to them.
-/
import Derived.Test.YtlpclccdbmoemaaGreatAmZ
set_option linter.unusedVariables false
namespace Go.AM
open Go.RowKit
abbrev L0 : Nat := 200
def E0 (b c : Nat) (F : Nat → Prop) : Env := { r := fun o => if o = 200 then some (b, c) else none, F := F, G := fun _ => False }
def E1 (b c : Nat) (F G : Nat → Prop) : Env := { r := fun o => if o = 200 then some (b, c) else none, F := fun x => F x ∨ G x, G := G }
def TV (E : Env) (w : World) : List T → List Value → Prop
  | [], [] => True
  | t :: ts, u :: us => cvT E w t u ∧ TV E w ts us
  | _, _ => False
/-- The contract of a function that writes one thing: 'x' becomes 'y'. -/
structure FnW (P : Program) (f : FuncId) (x : Ob) (args : List T) (y : Ob) (res : List RV) : Prop where
  enters : ∀ (vs : Array Value) (w : World), (callFunc f vs).run P w = .ok (.enter f vs) w
  calls : ∀ (F : Nat → Prop) (w : World) (vals : Array Value) (b c : Nat), (∀ b, F b → b < w.heap.size) → b < w.heap.size → TabsIn w → (∀ k ∈ seatBlk, k ≠ b) → relOb (E0 b c F) w 200 x → TV (E0 b c F) w args vals.toList →
    Calls P f vals w fun e w' => ∃ v G bs, e = .returned v ∧ Past w w' (fun k => k = b) ∧ (∀ k, G k → w.heap.size ≤ k ∧ k < w'.heap.size ∧ Plain w' k) ∧ resR w' G w.heap.size res v bs ∧ (bs.map (·.1)).Nodup ∧ relOb (E1 b c F G) w' 200 y
/-- Cells without labels. -/
def C.free : C → Bool
  | .d _ _ | .nil | .any | .fn _ => true
  | _ => false
def Ob.free : Ob → Bool
  | .var _ cs => cs.all C.free
  | .row _ _ _ _ m => m
  | .rown .. | .abs .. => false
theorem cvC_free {E E' : Env} {w w' : World} (hH : ∀ g b, E.H g b → E'.H g b) (hh : ∀ g b, E.H g b → w'.heap[b]? = w.heap[b]?) : ∀ {c : C} {u : Value}, c.free = true → cvC E w c u → cvC E' w' c u
  | .d g d, u, _, h => rdD_mono (hh g) (hH g) d u h
  | .fn f, u, _, h => h
  | .nil, u, _, h => h
  | .any, u, _, _ => trivial
theorem CV_free {E E' : Env} {w w' : World} (hH : ∀ g b, E.H g b → E'.H g b) (hh : ∀ g b, E.H g b → w'.heap[b]? = w.heap[b]?) : ∀ {cs : List C} {us : List Value}, cs.all C.free = true → CV E w cs us → CV E' w' cs us
  | [], [], _, _ => trivial
  | c :: cs, u :: us, hf, h => by
    simp only [List.all_cons, Bool.and_eq_true] at hf
    exact ⟨cvC_free hH hh hf.1 h.1, CV_free hH hh hf.2 h.2⟩
  | [], _ :: _, _, h => h.elim
  | _ :: _, [], _, h => h.elim
/-- A thing without labels, under another label and other sets. -/
theorem relOb_free {E E' : Env} {w w' : World} {o o' : Nat} {x : Ob} (hf : x.free = true) (hr : ∀ b c, E.r o = some (b, c) → E'.r o' = some (b, c)) (hH : ∀ g b, E.H g b → E'.H g b) (hh : ∀ g b, E.H g b → w'.heap[b]? = w.heap[b]?)
    (hb : ∀ b c, E.r o = some (b, c) → w'.heap[b]? = w.heap[b]?) (hF : ∀ b c, E.r o = some (b, c) → ¬ E.F b → ¬ E'.F b) (h : relOb E w o x) : relOb E' w' o' x := by
  cases x with
  | rown ty sz els g => exact absurd hf Bool.false_ne_true
  | abs l y => exact absurd hf Bool.false_ne_true
  | var ty cs =>
    obtain ⟨b, c, arr, h1, h2, h3, h4⟩ := h
    exact ⟨b, c, arr, hr b c h1, (hb b c h1).trans h2, CV_free hH hh hf h3, hF b c h1 h4⟩
  | row ty sz els g m =>
    obtain ⟨b, c, arr, h1, h2, h3, h4, h5, h6, h7, h8, h9⟩ := h
    have hm : m = true := hf
    subst hm
    exact ⟨b, c, arr, hr b c h1, (hb b c h1).trans h2, h3, h4, h5, h6, rdLL_mono' (hh g) (hH g) (hb b c h1) _ _ h7, fun _ => hF b c h1 (h8 rfl), fun h => by cases h⟩
/-- As the callee sees it: all data is old. -/
def C.loc : C → C
  | .d _ x => .d false x
  | c => c
def Ob.loc : Ob → Ob
  | .var ty cs => .var ty (cs.map C.loc)
  | .row ty sz els _ m => .row ty sz els false m
  | .rown ty sz els _ => .rown ty sz els false
  | .abs l y => .abs l y
theorem cvC_loc {cx : Cx} {E : Env} {w : World} (ok : EnvOK cx E w) {c : C} {u : Value} (h : cvC E w c u) : cvC E w c.loc u := by
  cases c with
  | d g x => exact rdD_H (g' := false) ok h (by simp)
  | _ => exact h
theorem CV_loc {cx : Cx} {E : Env} {w : World} (ok : EnvOK cx E w) : ∀ {cs : List C} {us : List Value}, CV E w cs us → CV E w (cs.map C.loc) us
  | [], [], _ => trivial
  | c :: cs, u :: us, h => ⟨cvC_loc ok h.1, CV_loc ok h.2⟩
  | [], _ :: _, h => h.elim
  | _ :: _, [], h => h.elim
theorem relOb_loc {cx : Cx} {E : Env} {w : World} (ok : EnvOK cx E w) {o : Nat} {x : Ob} (hf : x.free = true) (h : relOb E w o x) : relOb E w o x.loc := by
  cases x with
  | rown ty sz els g => exact absurd hf Bool.false_ne_true
  | abs l y => exact absurd hf Bool.false_ne_true
  | var ty cs =>
    obtain ⟨b, c, arr, h1, h2, h3, h4⟩ := h
    exact ⟨b, c, arr, h1, h2, CV_loc ok h3, h4⟩
  | row ty sz els g m =>
    obtain ⟨b, c, arr, h1, h2, h3, h4, h5, h6, h7, h8, h9⟩ := h
    have hm : m = true := hf
    subst hm
    refine ⟨b, c, arr, h1, h2, h3, h4, h5, h6, ?_, h8, fun h => by cases h⟩
    cases g with
    | false => exact h7
    | true => exact rdLL_mono' (fun _ _ => rfl) (fun b hb => ok.gf b hb) rfl _ _ h7
def argW : Nat → List T → List (Nat × T)
  | _, [] => []
  | k, t :: ts => (k, t) :: argW (k + 1) ts
theorem argW_ok {E : Env} {w : World} : ∀ {ts : List T} {us : List Value} (k0 : Nat), TV E w ts us → us.length = ts.length ∧ ∀ k, (k0 ≤ k ∧ k < k0 + ts.length → ∃ u, us[k - k0]? = some u ∧ cvT E w (gt (argW k0 ts) k) u) ∧ (¬ (k0 ≤ k ∧ k < k0 + ts.length) → gt (argW k0 ts) k = .any)
  | [], [], k0, _ => ⟨rfl, fun k => ⟨fun h => by simp at h; omega, fun _ => rfl⟩⟩
  | t :: ts, u :: us, k0, h => by
    obtain ⟨h1, h2⟩ := argW_ok (k0 + 1) h.2
    refine ⟨by simp [h1], fun k => ⟨fun hk => ?_, fun hk => ?_⟩⟩
    · by_cases e : k0 = k
      · subst e; exact ⟨u, by simp, by rw [argW, gt_same]; exact h.1⟩
      · obtain ⟨v, k1, k2⟩ := (h2 k).1 (by simp at hk; omega)
        refine ⟨v, ?_, by rw [argW, gt_other _ _ e]; exact k2⟩
        rw [show k - k0 = (k - (k0 + 1)) + 1 from by simp at hk; omega]; simpa using k1
    · simp at hk
      rw [argW, gt_other _ _ (by omega)]
      exact (h2 k).2 (by omega)
  | [], _ :: _, _, h => h.elim
  | _ :: _, [], _, h => h.elim
theorem expC_lab {ob : List (Nat × Ob)} {c : C} {r : RC} {ls : List Nat} (h : expC ob c = some (r, ls)) : ∀ l ∈ ls, ∃ ty sz els, go ob l = some (.row ty sz els true true) := by
  cases c with
  | d g x => cases x <;> (try cases g) <;> simp [expC] at h <;> obtain ⟨rfl, rfl⟩ := h <;> simp
  | w o n =>
    simp only [expC] at h
    split at h
    · rename_i ty sz els ho hrv
      simp at h; obtain ⟨rfl, rfl⟩ := h
      simpa using ⟨ty, sz, els, ho⟩
    · cases h
  | nil => simp [expC] at h; obtain ⟨rfl, rfl⟩ := h; simp
  | _ => simp [expC] at h
theorem expCs_lab {ob : List (Nat × Ob)} : ∀ {cs : List C} {rs : List RC} {ls : List Nat}, expCs ob cs = some (rs, ls) → ∀ l ∈ ls, ∃ ty sz els, go ob l = some (.row ty sz els true true)
  | [], rs, ls, h => by simp [expCs] at h; obtain ⟨rfl, rfl⟩ := h; simp
  | c :: cs, rs, ls, h => by
    simp only [expCs] at h
    split at h
    · rename_i r l rs' ls' h1 h2
      simp at h; obtain ⟨rfl, rfl⟩ := h
      intro x hx
      rcases List.mem_append.1 hx with hx | hx
      · exact expC_lab h1 x hx
      · exact expCs_lab h2 x hx
    · cases h
theorem expV_lab {ob : List (Nat × Ob)} {v : V} {r : RV} {ls : List Nat} (h : expV ob v = some (r, ls)) : ∀ l ∈ ls, ∃ ty sz els, go ob l = some (.row ty sz els true true) := by
  cases v with
  | c c =>
    simp only [expV] at h
    split at h
    · rename_i r l h1; simp at h; obtain ⟨rfl, rfl⟩ := h; exact expC_lab h1
    · cases h
  | agg cs =>
    simp only [expV] at h
    split at h
    · rename_i r l h1; simp at h; obtain ⟨rfl, rfl⟩ := h; exact expCs_lab h1
    · cases h
theorem expVs_lab {ob : List (Nat × Ob)} : ∀ {cs : List V} {rs : List RV} {ls : List Nat}, expVs ob cs = some (rs, ls) → ∀ l ∈ ls, ∃ ty sz els, go ob l = some (.row ty sz els true true)
  | [], rs, ls, h => by simp [expVs] at h; obtain ⟨rfl, rfl⟩ := h; simp
  | c :: cs, rs, ls, h => by
    simp only [expVs] at h
    split at h
    · rename_i r l rs' ls' h1 h2
      simp at h; obtain ⟨rfl, rfl⟩ := h
      intro x hx
      rcases List.mem_append.1 hx with hx | hx
      · exact expV_lab h1 x hx
      · exact expVs_lab h2 x hx
    · cases h
theorem fin_okF {P : Program} {N : Nat} {cx : Cx} {E : Env} {st : St} {a : Act} {w : World} (hR : Rel N cx E st a w) {fn : Func} {res : List RV} (h : Fin P fn.results.toList res st) :
    ∃ v bs, (results fn a.tmps).run P w = .ok v w ∧ resR w E.G cx.w0.heap.size res v bs ∧ (bs.map (·.1)).Nodup ∧ ∀ p ∈ bs, ¬ E.F p.1 := by
  obtain ⟨vs, ls, h1, h2, h3⟩ := h
  obtain ⟨us, k1, k2⟩ := ResVs_ok hR h1
  obtain ⟨bs, m1, m2, m3⟩ := expVs_ok hR h2 k2
  have hnd : (bs.map (·.1)).Nodup := by
    have hnl := nodupO_ok h3
    refine List.pairwise_iff_getElem.2 fun i j hi hj hij he => ?_
    simp only [List.length_map] at hi hj
    obtain ⟨p, p1, p2⟩ := m3 i ls[i] (List.getElem?_eq_getElem (by omega))
    obtain ⟨q, q1, q2⟩ := m3 j ls[j] (List.getElem?_eq_getElem (by omega))
    rw [List.getElem?_eq_getElem hi] at p1
    rw [List.getElem?_eq_getElem hj] at q1
    cases p1; cases q1
    simp only [List.getElem_map] at he
    rcases hbi : bs[i] with ⟨b1, c1⟩
    rcases hbj : bs[j] with ⟨b2, c2⟩
    rw [hbi, hbj] at he
    rw [hbi] at p2; rw [hbj] at q2
    have hb : b1 = b2 := he
    subst hb
    exact List.pairwise_iff_getElem.1 hnl i j (by omega) (by omega) hij (hR.ok.inj _ _ _ _ _ p2 q2)
  have hnF : ∀ p ∈ bs, ¬ E.F p.1 := by
    intro p hp
    obtain ⟨i, hi, rfl⟩ := List.getElem_of_mem hp
    have hl : i < ls.length := by omega
    obtain ⟨q, q1, q2⟩ := m3 i ls[i] (List.getElem?_eq_getElem hl)
    rw [List.getElem?_eq_getElem hi] at q1; cases q1
    obtain ⟨ty, sz, els, hg⟩ := expVs_lab h2 ls[i] (List.getElem_mem hl)
    obtain ⟨b, c, arr, r1, r2, r3, r4, r5, r6, r7, r8, r9⟩ := hR.obs _ _ hg
    rw [q2] at r1
    rw [Option.some.inj r1]
    exact r8 rfl
  have hm : (fn.results.mapM (resOne a.tmps)).run P w = .ok us.toArray w := by
    rw [← Array.toArray_toList (xs := fn.results), List.mapM_toArray]
    simp only [Sem.run_map, k1]
    rfl
  have hres : results fn a.tmps = (fn.results.mapM (resOne a.tmps)) >>= fun vs => pure (if h : vs.size = 1 then vs[0] else .tuple vs) := rfl
  have hlen : us.length = vs.length := by
    have key : ∀ (vs : List V) (us : List Value), VV E w vs us → us.length = vs.length := by
      intro vs
      induction vs with
      | nil => intro us h; cases us with
        | nil => rfl
        | cons _ _ => exact h.elim
      | cons v vs ih => intro us h; cases us with
        | nil => exact h.elim
        | cons u us => simp [ih us h.2]
    exact key vs us k2
  have hlen2 : us.length = res.length := by
    have key : ∀ (rs : List RV) (us : List Value) (bs : List (Nat × Nat)), rvsR w E.G cx.w0.heap.size rs us bs → us.length = rs.length := by
      intro rs
      induction rs with
      | nil => intro us bs h; cases us with
        | nil => rfl
        | cons _ _ => exact h.elim
      | cons v vs ih => intro us bs h; cases us with
        | nil => exact h.elim
        | cons u us => obtain ⟨b1, b2, _, _, h⟩ := h; simp [ih us b2 h]
    exact key res us bs m1
  match res, us, m1, hlen2 with
  | [], [], m1, _ => exact ⟨.tuple #[], bs, by rw [hres]; simp [hm], ⟨#[], rfl, m1⟩, hnd, hnF⟩
  | [r], [u], m1, _ =>
    obtain ⟨b1, b2, rfl, h4, h5⟩ := m1
    have : b2 = [] := h5
    subst this
    exact ⟨u, b1 ++ [], by rw [hres]; simp [hm], by simpa [resR] using h4, hnd, hnF⟩
  | r1 :: r2 :: rs, u1 :: u2 :: us, m1, _ =>
    exact ⟨.tuple (u1 :: u2 :: us).toArray, bs, by rw [hres]; simp [hm], ⟨_, rfl, m1⟩, hnd, hnF⟩

theorem rcR_mono {w : World} {G G2 : Nat → Prop} {base : Nat} (hG : ∀ b, G b → G2 b) {r : RC} {u : Value} {bs : List (Nat × Nat)} (h : rcR w G base r u bs) (hn : ∀ p ∈ bs, ¬ G2 p.1) : rcR w G2 base r u bs := by
  cases r with
  | d x => exact ⟨h.1, rdD_mono (fun _ _ => rfl) hG x u h.2⟩
  | own ty sz els n =>
    obtain ⟨b, c, arr, h1, h2, h3, h4, h5, h6, h7, h8, h9, h10⟩ := h
    exact ⟨b, c, arr, h1, h2, h3, h4, h5, h6, h7, rdLL_mono' (fun _ _ => rfl) hG rfl _ _ h8, hn (b, c) (by rw [h1]; simp), h10⟩
  | nil => exact h
theorem rcsR_mono {w : World} {G G2 : Nat → Prop} {base : Nat} (hG : ∀ b, G b → G2 b) : ∀ {rs : List RC} {us : List Value} {bs : List (Nat × Nat)}, rcsR w G base rs us bs → (∀ p ∈ bs, ¬ G2 p.1) → rcsR w G2 base rs us bs
  | [], [], bs, h, _ => h
  | r :: rs, u :: us, bs, h, hn => by
    obtain ⟨b1, b2, rfl, h1, h2⟩ := h
    exact ⟨b1, b2, rfl, rcR_mono hG h1 (fun p hp => hn p (by simp [hp])), rcsR_mono hG h2 (fun p hp => hn p (by simp [hp]))⟩
  | [], _ :: _, _, h, _ => h.elim
  | _ :: _, [], _, h, _ => h.elim
theorem rvR_mono {w : World} {G G2 : Nat → Prop} {base : Nat} (hG : ∀ b, G b → G2 b) {r : RV} {u : Value} {bs : List (Nat × Nat)} (h : rvR w G base r u bs) (hn : ∀ p ∈ bs, ¬ G2 p.1) : rvR w G2 base r u bs := by
  cases r with
  | c r => exact rcR_mono hG h hn
  | agg rs => obtain ⟨arr, h1, h2⟩ := h; exact ⟨arr, h1, rcsR_mono hG h2 hn⟩
theorem rvsR_mono {w : World} {G G2 : Nat → Prop} {base : Nat} (hG : ∀ b, G b → G2 b) : ∀ {rs : List RV} {us : List Value} {bs : List (Nat × Nat)}, rvsR w G base rs us bs → (∀ p ∈ bs, ¬ G2 p.1) → rvsR w G2 base rs us bs
  | [], [], bs, h, _ => h
  | r :: rs, u :: us, bs, h, hn => by
    obtain ⟨b1, b2, rfl, h1, h2⟩ := h
    exact ⟨b1, b2, rfl, rvR_mono hG h1 (fun p hp => hn p (by simp [hp])), rvsR_mono hG h2 (fun p hp => hn p (by simp [hp]))⟩
  | [], _ :: _, _, h, _ => h.elim
  | _ :: _, [], _, h, _ => h.elim
theorem resR_mono {w : World} {G G2 : Nat → Prop} {base : Nat} (hG : ∀ b, G b → G2 b) {rs : List RV} {u : Value} {bs : List (Nat × Nat)} (h : resR w G base rs u bs) (hn : ∀ p ∈ bs, ¬ G2 p.1) : resR w G2 base rs u bs := by
  match rs, h with
  | [], h => obtain ⟨arr, h1, h2⟩ := h; exact ⟨arr, h1, rvsR_mono hG h2 hn⟩
  | [r], h => exact rvR_mono hG h hn
  | _ :: _ :: _, h => obtain ⟨arr, h1, h2⟩ := h; exact ⟨arr, h1, rvsR_mono hG h2 hn⟩
/-- How such a function ends. -/
def PostW (N : Nat) (P : Program) (rs : List ResultVar) (res : List RV) (y : Ob) : Exit → St → Prop
  | .ret, s | .normal, s => ∃ s', Weak N s s' ∧ Fin P rs res s' ∧ go s'.ob 200 = some y
  | _, _ => False
instance {N : Nat} {P : Program} {rs : List ResultVar} {res : List RV} {y : Ob} : Clo N (PostW N P rs res y) := ⟨fun e s m hw h => by
  cases e <;> simp only [PostW] at h ⊢ <;> first | exact h | (obtain ⟨s', h1, h2⟩ := h; exact ⟨s', weak_trans hw h1, h2⟩)⟩
theorem fn_inW {P : Program} {f : FuncId} {fn : Func} {c : Code} {N : Nat} {x y : Ob} {args : List T} {rs : List ResultVar} {res : List RV} {sl0 : List (Nat × T)} (hf : P.funcs[f]? = some fn) (hb : fn.body = some c) (hnm : (fn.name == "runtime.NumGoroutine") = false) (hN : fn.ntmps = N) (hrs : fn.results.toList = rs)
    (ha : Nat.ble args.length N = true) (hfx : x.free = true) (hfy : y.free = true) (hs : argW 0 args = sl0) (h : AWC P N c ⟨sl0, [(200, x)], 210⟩ (PostW N P rs res y)) : FnW P f x args y res := by
  subst hs
  refine ⟨fun vs w => by simp [callFunc, hf, hb]; simpa using hnm, fun F w vals b cc hF hbl hT hTb hx hA => ?_⟩
  subst hrs
  refine calls_of_wp hf hb ?_
  obtain ⟨h1, h2⟩ := argW_ok 0 hA
  have hle : args.length ≤ N := Nat.le_of_ble_eq_true ha
  have hsz : vals.size = args.length := by simpa using h1
  have hrv : rsv 200 = true := rfl
  have hrp : rsp 200 = true := rfl
  have hbF : ¬ F b := by
    cases x with
    | rown ty sz els g => exact absurd hfx Bool.false_ne_true
    | abs l y => exact absurd hfx Bool.false_ne_true
    | var ty cs => obtain ⟨b', c', arr, h1, h2, h3, h4⟩ := hx; cases h1; exact h4
    | row ty sz els g m =>
      obtain ⟨b', c', arr, h1, h2, h3, h4, h5, h6, h7, h8, h9⟩ := hx
      cases h1
      have hm : m = true := hfx
      subst hm
      exact h8 rfl
  have hr0 : ∀ o p, (E0 b cc F).r o = some p → o = 200 ∧ p = (b, cc) := fun o p h => by
    simp only [E0] at h
    split at h
    · cases h; exact ⟨by assumption, rfl⟩
    · cases h
  have hR : Rel N ⟨w, fun k => k = b, (E0 b cc F).r, F, fun _ => False, ⟨hT, hTb⟩, fun _ => False⟩ (E0 b cc F) ⟨argW 0 args, [(200, x)], 210⟩ { tmps := vals ++ Array.replicate (fn.ntmps - vals.size) undef, defers := [] } w := by
    refine ⟨⟨hF, fun _ h => h.elim, fun _ h => h.elim, fun o k k' h => ?_, fun o o' k k' k'' h h' => ?_, rfl, rfl, rfl, Nat.le_refl _, fun _ _ _ => rfl, fun _ _ _ h => h, fun _ h => .inl h, fun b h h' => absurd (hF b h) (by have : w.heap.size ≤ b := h'; omega), ⟨fun _ _ h => h.elim, fun _ _ _ h => h.elim, fun _ h => h.elim, fun _ h => h.elim, fun _ h => h.elim⟩⟩, fun o p h => ?_, fun o ob h => ?_, fun k => ?_, rfl, by simp; omega, fun _ _ h => h.elim⟩
    · obtain ⟨rfl, hp⟩ := hr0 _ _ h; cases hp; exact ⟨hbl, .inr ⟨rfl, hrv⟩⟩
    · rw [(hr0 _ _ h).1, (hr0 _ _ h').1]
    · rw [(hr0 _ _ h).1]; exact (by decide : 200 < 210)
    · by_cases e : 200 = o
      · subst e; rw [go_same] at h; cases h; exact hx
      · rw [go_other _ _ e] at h; cases h
    · by_cases hk : k < args.length
      · obtain ⟨u, h3, h4⟩ := (h2 k).1 ⟨Nat.zero_le _, by omega⟩
        have : (vals ++ Array.replicate (fn.ntmps - vals.size) undef).getD k undef = u := by
          have h5 : vals[k]? = some u := by simpa using h3
          have h6 : (vals ++ Array.replicate (fn.ntmps - vals.size) undef)[k]? = some u := by rw [Array.getElem?_append_left (by omega)]; exact h5
          simp [h6]
        rw [this]; exact h4
      · have := (h2 k).2 (by omega)
        show cvT _ w (gt (argW 0 args) k) _
        rw [this]; trivial
  refine wp_mono (h _ _ _ w hR) ?_
  rintro e a' w' ⟨E', s', hR', hq⟩
  have fin : (∃ s'', Weak N s' s'' ∧ Fin P fn.results.toList res s'' ∧ go s''.ob 200 = some y) →
      a'.defers = [] ∧ ∃ v, (results fn a'.tmps).run P w' = .ok v w' ∧ ∃ v' G bs, Ending.returned v = .returned v' ∧ Past w w' (fun k => k = b) ∧ (∀ k, G k → w.heap.size ≤ k ∧ k < w'.heap.size ∧ Plain w' k) ∧ resR w' G w.heap.size res v' bs ∧ (bs.map (·.1)).Nodup ∧ relOb (E1 b cc F G) w' 200 y := by
    rintro ⟨s'', hw, hfin, hgo⟩
    obtain ⟨E'', hR''⟩ := hw _ _ _ _ hR'
    obtain ⟨v, bs, k1, k2, k3, k4⟩ := fin_okF hR'' hfin
    have ok := hR''.ok
    refine ⟨hR''.dfr, v, k1, v, fun k => E''.F k ∧ w.heap.size ≤ k, bs, rfl, ⟨ok.os, ok.tape, ok.output, ok.size, ok.block⟩, fun k hk => ⟨hk.2, ok.fb k hk.1, ok.gc k hk.1 hk.2⟩, resR_mono (fun k hk => ⟨ok.gf k hk, (ok.gn k hk).resolve_right id⟩) k2 (fun p hp hg => k4 p hp hg.1), k3, ?_⟩
    refine relOb_free hfy (fun k c hk => ?_) (fun g k hk => ?_) (fun _ _ _ => rfl) (fun _ _ _ => rfl) (fun k c hk hn hk' => ?_) (hR''.obs _ _ hgo)
    · have := ok.pin 200 _ hrp hk
      exact this
    · cases g with
      | false =>
        rcases ok.ff k hk with h | h
        · exact .inl h
        · exact .inr ⟨hk, h⟩
      | true => exact ⟨ok.gf k hk, (ok.gn k hk).resolve_right id⟩
    · rcases hk' with h | h
      · have := ok.pin 200 _ hrp hk
        have h9 := hr0 200 (k, c) this
        cases h9.2
        exact hbF h
      · exact hn h.1
  cases e with
  | normal => exact fin hq
  | ret => exact fin hq
  | _ => exact hq.elim
/-! the call of such a function -/
/-- An argument: the thing itself, or data. -/
def locC (nob : List (Nat × Ob)) (o : Nat) : C → Option (C × List (Nat × Nat))
  | .p l k => bif Nat.beq l o then some (.p 200 k, []) else none
  | .w l n => bif Nat.beq l o then some (.w 200 n, []) else match cdat nob (.w l n) with
    | some (x, e) => some (.d false x, e)
    | none => none
  | .nil => some (.nil, [])
  | c => match cdat nob c with
    | some (x, e) => some (.d false x, e)
    | none => none
def locCs (nob : List (Nat × Ob)) (o : Nat) : List C → Option (List C × List (Nat × Nat))
  | [] => some ([], [])
  | c :: cs => match locC nob o c, locCs nob o cs with
    | some (x, e), some (xs, e') => some (x :: xs, e ++ e')
    | _, _ => none
def locT (nob : List (Nat × Ob)) (o : Nat) : T → Option (T × List (Nat × Nat))
  | .v (.c c) => match locC nob o c with
    | some (x, e) => some (.v (.c x), e)
    | none => none
  | .v (.agg cs) => match locCs nob o cs with
    | some (x, e) => some (.v (.agg x), e)
    | none => none
  | _ => none
def locTs (nob : List (Nat × Ob)) (o : Nat) : List T → Option (List T × List (Nat × Nat))
  | [] => some ([], [])
  | c :: cs => match locT nob o c, locTs nob o cs with
    | some (x, e), some (xs, e') => some (x :: xs, e ++ e')
    | _, _ => none
section
variable {cx : Cx} {E : Env} {w : World} {nob : List (Nat × Ob)} {o b c0 : Nat} (ok : EnvOK cx E w) (hob : ∀ l x, go nob l = some x → relOb E w l x) (hr : E.r o = some (b, c0))
include ok hob hr
theorem locC_ok {c : C} {x : C} {e : List (Nat × Nat)} {u : Value} (h : locC nob o c = some (x, e)) (he : Eqs e) (hc : cvC E w c u) : cvC (E0 b c0 (callF E nob)) w x u := by
  have gen : ∀ {c x e}, (match cdat nob c with | some (x, e) => some (C.d false x, e) | none => none) = some (x, e) → Eqs e → cvC E w c u → cvC (E0 b c0 (callF E nob)) w x u := by
    intro c x e h he hc
    split at h
    · rename_i y e' h1
      simp at h; obtain ⟨rfl, rfl⟩ := h
      exact cdat_ok ok hob h1 he hc
    · cases h
  cases c with
  | p l k =>
    simp only [locC] at h
    cases hb : Nat.beq l o with
    | false => rw [hb] at h; cases h
    | true =>
      rw [hb] at h; simp at h; obtain ⟨rfl, rfl⟩ := h
      have := Nat.eq_of_beq_eq_true hb; subst this
      obtain ⟨b', c', h1, h2⟩ := hc
      rw [hr] at h1; cases h1
      exact ⟨b, c0, by simp [E0], h2⟩
  | w l n =>
    simp only [locC] at h
    cases hb : Nat.beq l o with
    | false => rw [hb] at h; exact gen h he hc
    | true =>
      rw [hb] at h; simp at h; obtain ⟨rfl, rfl⟩ := h
      have := Nat.eq_of_beq_eq_true hb; subst this
      obtain ⟨b', c', h1, h2⟩ := hc
      rw [hr] at h1; cases h1
      exact ⟨b, c0, by simp [E0], h2⟩
  | nil => simp [locC] at h; obtain ⟨rfl, rfl⟩ := h; exact hc
  | d g y => exact gen (by simpa only [locC] using h) he hc
  | s o sz off len => exact gen (by simpa only [locC] using h) he hc
  | e o sz i j => exact gen (by simpa only [locC] using h) he hc
  | q g x j => exact gen (by simpa only [locC] using h) he hc
  | fn f => exact gen (by simpa only [locC] using h) he hc
  | any => exact gen (by simpa only [locC] using h) he hc
  | r l x => exact gen (by simpa only [locC] using h) he hc
  | z x => exact gen (by simpa only [locC] using h) he hc
  | zq x j => exact gen (by simpa only [locC] using h) he hc
  | wn l n => exact gen (by simpa only [locC] using h) he hc
theorem locCs_ok : ∀ {cs xs : List C} {e : List (Nat × Nat)} {us : List Value}, locCs nob o cs = some (xs, e) → Eqs e → CV E w cs us → CV (E0 b c0 (callF E nob)) w xs us
  | [], xs, e, us, h, he, hc => by simp [locCs] at h; obtain ⟨rfl, rfl⟩ := h; cases us with
    | nil => trivial
    | cons _ _ => exact hc.elim
  | c :: cs, xs, e, us, h, he, hc => by
    simp only [locCs] at h
    split at h
    · rename_i x e1 xs' e2 h1 h2
      simp at h; obtain ⟨rfl, rfl⟩ := h
      obtain ⟨g1, g2⟩ := Eqs_append he
      cases us with
      | nil => exact hc.elim
      | cons u us => exact ⟨locC_ok ok hob hr h1 g1 hc.1, locCs_ok h2 g2 hc.2⟩
    · cases h
theorem locT_ok {t t' : T} {e : List (Nat × Nat)} {u : Value} (h : locT nob o t = some (t', e)) (he : Eqs e) (hc : cvT E w t u) : cvT (E0 b c0 (callF E nob)) w t' u := by
  unfold locT at h
  split at h
  · split at h
    · rename_i c x e' h1; simp at h; obtain ⟨rfl, rfl⟩ := h; exact locC_ok ok hob hr h1 he hc
    · cases h
  · split at h
    · rename_i cs x e' h1; simp at h; obtain ⟨rfl, rfl⟩ := h
      obtain ⟨arr, hu, hc⟩ := hc
      exact ⟨arr, hu, locCs_ok ok hob hr h1 he hc⟩
    · cases h
  · cases h
theorem locTs_ok {a : Act} : ∀ {ts ts' : List T} {e : List (Nat × Nat)} {args : List Operand}, locTs nob o ts = some (ts', e) → Eqs e → ts.length = args.length → (∀ x t, (x, t) ∈ args.zip ts → cvT E w t (a.eval x)) → TV (E0 b c0 (callF E nob)) w ts' (args.map a.eval)
  | [], ts', e, args, h, he, hl, hn => by
    simp [locTs] at h; obtain ⟨rfl, rfl⟩ := h
    cases args with
    | nil => trivial
    | cons _ _ => simp at hl
  | t :: ts, ts', e, args, h, he, hl, hn => by
    simp only [locTs] at h
    split at h
    · rename_i x e1 xs' e2 h1 h2
      simp at h; obtain ⟨rfl, rfl⟩ := h
      obtain ⟨g1, g2⟩ := Eqs_append he
      cases args with
      | nil => simp at hl
      | cons y args => exact ⟨locT_ok ok hob hr h1 g1 (hn y t (by simp)), locTs_ok h2 g2 (by simpa using hl) (fun x t hm => hn x t (by simp [hm]))⟩
    · cases h
end
theorem o_callW {P : Program} {N : Nat} {d : Tmp} {ty : TypeId} {ps : String} {af : Array Edge} {gd : Option (Nat × Bool)} {f : FuncId} {args : List Operand} {tys : Array TypeId} {sl : List (Nat × T)} {ob : List (Nat × Ob)} {nx o : Nat} {x0 y : Ob} {ts ts' : List T} {eqs : List (Nat × Nat)} {res : List RV} {out : T} {nw : List (Nat × Ob)} {n : Nat}
    (hF : FnW P f x0.loc ts' y res) (ht : opTs sl args = some ts) (ho : go ob o = some x0) (hfx : x0.free = true) (hfy : y.free = true) (ha : locTs [] o ts = some (ts', eqs)) (he : Eqs eqs) (hi : impR nx res = some (out, nw, n)) (hw : nwOk nx nw n = true) (hN : nlt d N = true) :
    AWO P N ⟨some d, .call ⟨.value (.func f), args.toArray, tys⟩, ty, ps, af, gd⟩ ⟨sl, ob, nx⟩ ⟨(d, out) :: sl, nw ++ (o, y) :: ob, n⟩ := by
  intro cx E a w hR
  obtain ⟨t1, t2⟩ := opTs_ok ht
  obtain ⟨nob, hnob⟩ : ∃ nob : List (Nat × Ob), nob = [] := ⟨_, rfl⟩
  rw [← hnob] at ha
  have hob : ∀ l x, go nob l = some x → relOb E w l x := fun l x h => by subst hnob; cases h
  have hx0 := hR.obs o x0 ho
  obtain ⟨b, c0, hr, hbF⟩ : ∃ b c0, E.r o = some (b, c0) ∧ ¬ E.F b := by
    cases x0 with
    | rown ty sz els g => exact absurd hfx Bool.false_ne_true
    | abs l y => exact absurd hfx Bool.false_ne_true
    | var t cs => obtain ⟨b, c, arr, h1, h2, h3, h4⟩ := hx0; exact ⟨b, c, h1, h4⟩
    | row t sz els g m =>
      obtain ⟨b, c, arr, h1, h2, h3, h4, h5, h6, h7, h8, h9⟩ := hx0
      have hm : m = true := hfx
      subst hm
      exact ⟨b, c, h1, h8 rfl⟩
  have hnl : ∀ l x, go nob l = some x → l ≠ o := fun l x h => by subst hnob; cases h
  have hbC : ¬ callF E nob b := by
    rintro (h | ⟨l, x, c, h1, h2⟩)
    · exact hbF h
    · exact hnl l x h1 (hR.ok.inj _ _ _ _ _ h2 hr)
  have hFb : ∀ b, callF E nob b → b < w.heap.size := by
    rintro b (h | ⟨l, x, c, h1, h2⟩)
    · exact hR.ok.fb b h
    · exact (hR.ok.rb l b c h2).1
  have hbs0 := (hR.ok.rb o b c0 hr).1
  have hA := locTs_ok (a := a) hR.ok hob hr ha he t1 (fun x t hm => by have := hR.op x; rwa [Lk.mem t2 x t hm] at this)
  have hX : relOb (E0 b c0 (callF E nob)) w 200 x0.loc := by
    have hl := relOb_loc hR.ok hfx hx0
    have hfl : x0.loc.free = true := by
      cases x0 with
      | rown ty sz els g => exact absurd hfx Bool.false_ne_true
      | abs l y => exact absurd hfx Bool.false_ne_true
      | var t cs =>
        simp only [Ob.loc, Ob.free, List.all_map] at hfx ⊢
        refine List.all_eq_true.2 fun c hc => ?_
        have := List.all_eq_true.1 hfx c hc
        cases c <;> simp_all [C.loc, C.free]
      | row t sz els g m => exact hfx
    have hnoG : ∀ E2 : Env, (∀ k, E.F k → E2.F k) → E2.r 200 = some (b, c0) → ¬ E2.F b → relOb E2 w 200 x0.loc := by
      intro E2 h1 h2 h3
      cases x0 with
      | rown ty sz els g => exact absurd hfx Bool.false_ne_true
      | abs l y => exact absurd hfx Bool.false_ne_true
      | var t cs =>
        obtain ⟨b', c', arr, k1, k2, k3, k4⟩ := hl
        rw [hr] at k1; cases k1
        refine ⟨b, c0, arr, h2, k2, ?_, h3⟩
        have key : ∀ (cs : List C) (us : List Value), cs.all C.free = true → CV E w (cs.map C.loc) us → CV E2 w (cs.map C.loc) us := by
          intro cs
          induction cs with
          | nil =>
            intro us _ h
            cases us with
            | nil => trivial
            | cons _ _ => exact h.elim
          | cons c cs ih =>
            intro us hf h
            simp only [List.all_cons, Bool.and_eq_true] at hf
            cases us with
            | nil => exact h.elim
            | cons u us =>
              refine ⟨?_, ih us hf.2 h.2⟩
              have h5 := h.1
              cases c with
              | d g y => exact rdD_mono (fun _ _ => rfl) h1 _ _ h5
              | nil => exact h5
              | fn f => exact h5
              | any => trivial
              | _ => simp [C.free] at hf
        exact key cs _ hfx k3
      | row t sz els g m =>
        obtain ⟨b', c', arr, k1, k2, k3, k4, k5, k6, k7, k8, k9⟩ := hl
        rw [hr] at k1; cases k1
        have hm : m = true := hfx
        subst hm
        exact ⟨b, c0, arr, h2, k2, k3, k4, k5, k6, rdLL_mono' (fun _ _ => rfl) h1 rfl _ _ k7, fun _ => h3, fun h => by cases h⟩
    exact hnoG _ (fun k hk => .inl hk) (by simp [E0]) hbC
  have hc := hF.calls (callF E nob) w (args.map a.eval).toArray b c0 hFb hbs0 hR.ok.tabs (hR.ok.ntab hr) hX (by simpa using hA)
  have hent := hF.enters (args.map a.eval).toArray w
  unfold Oper.wp
  have hrun : (execOp a.eval ⟨some d, .call ⟨.value (.func f), args.toArray, tys⟩, ty, ps, af, gd⟩).run P w = .ok (.enter f (args.map a.eval).toArray) w := by
    simp only [execOp, resolve, Act.eval, Deferred.ofValue, Sem.run_bind, Sem.run_pure, Result.andThen_ok, invoke]
    simpa using hent
  rw [hrun, Oper.upon_enter]
  refine hc.mono ?_
  rintro e w' ⟨v, G, bs, rfl, hpast, hG2, hres, hnd, hY⟩
  have hdom : ∀ l p, E.r l = some p → l < nx := hR.dom
  have hbs := resR_bs hres
  have hnw := Nw.mem (nwOk_ok hw)
  have hlab : ∀ l, nx ≤ l → l < nx + bs.length → E.r l = none ∧ rsv l = false := by
    have himp := impR_ok (E := ⟨fun o => bs[o - nx]?, G, G, fun _ _ => False, fun _ => False, fun _ => False⟩) (fun _ h => h) (fun b _ h => h) hi hres (fun i p hi => by simpa using hi)
    intro l h1 h2
    obtain ⟨x, hx⟩ := himp.2.2.2 l h1 (by rw [himp.2.1]; exact h2)
    have h3 := hnw.2 l x hx
    refine ⟨?_, h3.2.2⟩
    cases hq : E.r l with
    | none => rfl
    | some p => have := hdom l p hq; omega
  let E' : Env := ⟨fun l => if nx ≤ l ∧ l < nx + bs.length then bs[l - nx]? else E.r l, fun k => E.F k ∨ G k, fun k => E.G k ∨ G k, E.T, E.Z, E.n⟩
  have hsz := hpast.size
  have hws := hR.ok.size
  have hold : ∀ l p, E.r l = some p → E'.r l = some p := fun l p h => by
    show (if nx ≤ l ∧ l < nx + bs.length then bs[l - nx]? else E.r l) = some p
    rw [if_neg]
    · exact h
    · rintro ⟨h1, h2⟩; have := (hlab l h1 h2).1; rw [this] at h; cases h
  have hnew : ∀ l b c, E'.r l = some (b, c) → (nx ≤ l ∧ l < nx + bs.length ∧ bs[l - nx]? = some (b, c)) ∨ (E.r l = some (b, c)) := by
    intro l b c h
    have h : (if nx ≤ l ∧ l < nx + bs.length then bs[l - nx]? else E.r l) = some (b, c) := h
    split at h
    · rename_i hh; exact .inl ⟨hh.1, hh.2, h⟩
    · exact .inr h
  have hheap : ∀ k, k < w.heap.size → k ≠ b → w'.heap[k]? = w.heap[k]? := fun k hk hne => hpast.block k hk hne
  have hHb : ∀ g k, E.H g k → k ≠ b ∧ k < w.heap.size := fun g k hk => ⟨fun e => by subst e; cases g; exact hbF hk; exact hbF (hR.ok.gf _ hk), hR.ok.hb hk⟩
  have hk : Keeps E w E' w' := ⟨hold, fun g k h => by cases g <;> exact .inl h, fun g k h => hheap k (hHb g k h).2 (hHb g k h).1, fun l k h => ⟨h, hheap k (hR.ok.sf.tb l k h).1.1 (fun e => by subst e; exact (hR.ok.sf.tb l k h).2.2.1 o c0 hr)⟩, fun k h => ⟨h, .of_eq (hheap k (hR.ok.sf.zb k h).1.2.1 (fun e => by subst e; exact (hR.ok.sf.zb k h).2.2.1 o c0 hr))⟩, rfl⟩
  have ok' : EnvOK cx E' w' := by
    refine ⟨fun k h => ?_, fun k h => ?_, fun k h => ?_, fun l k c h => ?_, fun l l' k c c' h h' => ?_, by rw [hpast.os]; exact hR.ok.os, by rw [hpast.tape]; exact hR.ok.tape, by rw [hpast.output]; exact hR.ok.output, by omega, fun k h hW => ?_, fun l p hv h => ?_, fun k h => ?_,
      fun k h h' => h.elim (fun h => (hR.ok.gc k h h').of_eq (hheap k (hHb false k h).2 (hHb false k h).1)) (fun h => (hG2 k h).2.2),
      hR.ok.sf.turn hr rfl rfl (fun k h => h.elim .inl (fun h => .inr (hG2 k h).1)) (fun l k c h => by
        rcases hnew l k c h with ⟨_, _, h⟩ | h
        · exact .inr (hbs _ (List.mem_of_getElem? h)).1
        · exact .inl ⟨l, c, h⟩) hsz hheap⟩
    · rcases h with h | h
      · have := hR.ok.fb k h; omega
      · exact (hG2 k h).2.1
    · rcases h with h | h
      · exact .inl (hR.ok.gf k h)
      · exact .inr h
    · rcases h with h | h
      · exact hR.ok.gn k h
      · have := hG2 k h; omega
    · rcases hnew l k c h with ⟨_, _, h⟩ | h
      · have := hbs _ (List.mem_of_getElem? h); exact ⟨this.2, .inl (by have := this.1; simp at this; omega)⟩
      · have := hR.ok.rb l k c h; exact ⟨by omega, this.2⟩
    · rcases hnew l k c h with ⟨h1, h2, h3⟩ | h3 <;> rcases hnew l' k c' h' with ⟨k1, k2, k3⟩ | k3
      · have hi : l - nx < bs.length := by omega
        have hj : l' - nx < bs.length := by omega
        rcases Nat.lt_trichotomy (l - nx) (l' - nx) with hlt | heq | hlt
        · exfalso
          have := List.pairwise_iff_getElem.1 hnd (l - nx) (l' - nx) (by simpa using hi) (by simpa using hj) hlt
          rw [List.getElem?_eq_getElem hi] at h3; rw [List.getElem?_eq_getElem hj] at k3
          simp at h3 k3; simp [h3, k3] at this
        · omega
        · exfalso
          have := List.pairwise_iff_getElem.1 hnd (l' - nx) (l - nx) (by simpa using hj) (by simpa using hi) hlt
          rw [List.getElem?_eq_getElem hi] at h3; rw [List.getElem?_eq_getElem hj] at k3
          simp at h3 k3; simp [h3, k3] at this
      · have h5 := hbs _ (List.mem_of_getElem? h3); have h6 := hR.ok.rb l' k c' k3; simp at h5; omega
      · have h5 := hbs _ (List.mem_of_getElem? k3); have h6 := hR.ok.rb l k c h3; simp at h5; omega
      · exact hR.ok.inj l l' k c c' h3 k3
    · have hkb : k ≠ b := fun e => by
        subst e
        rcases (hR.ok.rb o k c0 hr).2 with h' | h'
        · omega
        · exact hW h'.1
      rw [hheap k (by omega) hkb]; exact hR.ok.block k h hW
    · rcases hnew l p.1 p.2 h with ⟨h1, h2, _⟩ | h
      · rw [rsv_rsp (hlab l h1 h2).2] at hv; cases hv
      · exact hR.ok.pin l p hv h
    · rcases h with h | h
      · exact hR.ok.ff k h
      · exact .inr (by have := hG2 k h; omega)
  have himp := impR_ok (E := E') (G := G) (base := w.heap.size) (fun b h => .inr h) (fun b hb hng hF => by
    rcases hF with h | h
    · have := hR.ok.fb b h; omega
    · exact hng h) hi hres (fun i p hi => by
      have : i < bs.length := (List.getElem?_eq_some_iff.1 hi).1
      show (if nx ≤ nx + i ∧ nx + i < nx + bs.length then bs[nx + i - nx]? else E.r (nx + i)) = some p
      rw [if_pos (by omega)]; simpa using hi)
  refine ⟨E', ok', fun l p h => ?_, fun l x hl => ?_, fun k => ?_, hR.dfr, by simpa [Act.put] using hR.size, fun l k h => Nat.lt_of_lt_of_le (hR.td l k h) hnw.1⟩
  · rcases hnew l p.1 p.2 h with ⟨h1, h2, _⟩ | h
    · obtain ⟨x, hx⟩ := himp.2.2.2 l h1 (by rw [himp.2.1]; exact h2); exact (hnw.2 l x hx).2.1
    · have := hdom l p h; show l < n; omega
  · rcases go_append hl with h | h
    · exact (himp.2.2.1 l x h).1
    · by_cases hlo : o = l
      · subst hlo
        rw [go_same] at h; cases h
        refine relOb_free hfy (fun k c h => ?_) (fun g k h => ?_) (fun _ _ _ => rfl) (fun _ _ _ => rfl) (fun k c h hn hh => ?_) hY
        · simp [E1] at h; rw [← h.1, ← h.2]; exact hold _ _ hr
        · cases g with
          | false =>
            rcases h with h | h
            · rcases h with h | ⟨l, x, c, h1, h2⟩
              · exact .inl h
              · subst hnob; cases h1
            · exact .inr h
          | true => exact .inr h
        · simp [E1] at h; obtain ⟨rfl, rfl⟩ := h
          rcases hh with hh | hh
          · exact hbF hh
          · have := hG2 _ hh; omega
      · rw [go_other _ _ hlo] at h
        exact relOb_keeps hk (fun k c h' => hheap k (hR.ok.rb _ _ _ h').1 (fun e => hlo (by subst e; exact hR.ok.inj _ _ _ _ _ hr h'))) (fun k c h' hn hh => by
          rcases hh with hh | hh
          · exact hn hh
          · have := hG2 k hh; have := (hR.ok.rb _ _ _ h').1; omega) (hR.obs l x h)
  · rw [getD_put (by rw [hR.size]; exact blt_lt hN)]
    by_cases hdk : d = k
    · subst hdk; rw [gt_same, if_pos rfl]; exact himp.1
    · rw [gt_other _ _ hdk, if_neg hdk]; exact cvT_keeps hk (hR.sl k)
theorem cw {P : Program} {N : Nat} {d : Tmp} {ty : TypeId} {ps : String} {af : Array Edge} {gd : Option (Nat × Bool)} {f : FuncId} {args : List Operand} {tys : Array TypeId} {sl : List (Nat × T)} {ob ob' : List (Nat × Ob)} {nx o : Nat} {x0 x1 y : Ob} {ts ts' : List T} {eqs : List (Nat × Nat)} {res : List RV} {out : T} {nw : List (Nat × Ob)} {n : Nat}
    (hF : FnW P f x1 ts' y res) (ht : opTs sl args = some ts) (ho : go ob o = some x0) (hl : x0.loc = x1) (hfx : x0.free = true) (hfy : y.free = true) (ha : locTs [] o ts = some (ts', eqs)) (he : Eqs eqs) (hi : impR nx res = some (out, nw, n)) (hw : nwOk nx nw n = true) (hN : nlt d N = true) (hob : apO nw ((o, y) :: ob) = some ob') :
    AWO P N ⟨some d, .call ⟨.value (.func f), args.toArray, tys⟩, ty, ps, af, gd⟩ ⟨sl, ob, nx⟩ ⟨(d, out) :: sl, ob', n⟩ := by
  subst hl
  rw [apO_eq hob]
  exact o_callW hF ht ho hfx hfy ha he hi hw hN
theorem fin_retW {N : Nat} {P : Program} {s : St} {rs : List ResultVar} {res res' : List RV} {vs : List V} {ls : List Nat} {y y' : Ob} (h : ResVs P s rs vs) (he : expVs s.ob vs = some (res', ls)) (hn : nodupO ls = true) (hr : res' = res) (hy : go s.ob 200 = some y') (hyy : y' = y) : PostW N P rs res y .ret s := by
  subst hr; subst hyy; exact ⟨s, weak_refl s, ⟨vs, ls, h, he, hn⟩, hy⟩
end Go.AM
