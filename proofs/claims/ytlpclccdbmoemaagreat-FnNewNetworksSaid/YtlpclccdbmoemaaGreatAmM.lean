/-
  The abstract machine, part M: the steps by short names, as the walk takes them.
-/
import Derived.Test.YtlpclccdbmoemaaGreatAmL
set_option linter.unusedVariables false
namespace Go.AM
open Go.RowKit

/-- The next label, where the label may be given away. -/
def nxt (nx : Nat) : Option Nat := bif rsv nx then none else some (nx + 1)
theorem nxt_ok {nx nx' : Nat} {ob : Ob} (h : nxt nx = some nx') : Nw nx [(nx, ob)] nx' := by
  unfold nxt at h
  cases hr : rsv nx with
  | true => rw [hr] at h; cases h
  | false => rw [hr] at h; exact ⟨⟨rfl, hr⟩, (Option.some.inj h).symm⟩
theorem wrap_in {n : Int} (h : -9223372036854775808 ≤ n ∧ n ≤ 9223372036854775807) : IntKind.i64.wrap n = n := by rw [IntKind.wrap_i64]; omega
section
variable {P : Program} {N : Nat} {d : Tmp} {ty : TypeId} {ps : String} {af : Array Edge} {gd : Option (Nat × Bool)} {x y z : Operand} {sl : List (Nat × T)} {ob : List (Nat × Ob)} {nx : Nat}

/-- A step that makes no object. -/
abbrev NS0 (P : Program) (N : Nat) (o : Oper) (sl : List (Nat × T)) (ob : List (Nat × Ob)) (nx : Nat) (d : Tmp) (out : T) (x : Inf) : Prop := NS P N o ⟨sl, ob, nx⟩ ⟨(d, out) :: sl, ob, nx⟩ x
theorem mv1 {c : C} (h : opT sl x = .v (.c c)) (hN : nlt d N = true) : NS0 P N ⟨some d, .move x, ty, ps, af, gd⟩ sl ob nx d (.v (.c c)) ⟨d, [(x, .v (.c c))], [], .v (.c c), []⟩ := ns_mk (st := ⟨sl, ob, nx⟩) n_move rfl hN ⟨h, trivial⟩ trivial rfl
theorem mv2 {c : List C} (h : opT sl x = .v (.agg c)) (hN : nlt d N = true) : NS0 P N ⟨some d, .move x, ty, ps, af, gd⟩ sl ob nx d (.v (.agg c)) ⟨d, [(x, .v (.agg c))], [], .v (.agg c), []⟩ := ns_mk (st := ⟨sl, ob, nx⟩) n_move rfl hN ⟨h, trivial⟩ trivial rfl
theorem mv3 {c : List V} (h : opT sl x = .tup c) (hN : nlt d N = true) : NS0 P N ⟨some d, .move x, ty, ps, af, gd⟩ sl ob nx d (.tup c) ⟨d, [(x, .tup c)], [], .tup c, []⟩ := ns_mk (st := ⟨sl, ob, nx⟩) n_move rfl hN ⟨h, trivial⟩ trivial rfl
theorem as1 {c : C} (h : opT sl x = .v (.c c)) (hN : nlt d N = true) : NS0 P N ⟨some d, .assign x, ty, ps, af, gd⟩ sl ob nx d (.v (.c c)) ⟨d, [(x, .v (.c c))], [], .v (.c c), []⟩ := ns_mk (st := ⟨sl, ob, nx⟩) n_assign rfl hN ⟨h, trivial⟩ trivial rfl
theorem as2 {c : List C} (h : opT sl x = .v (.agg c)) (hN : nlt d N = true) : NS0 P N ⟨some d, .assign x, ty, ps, af, gd⟩ sl ob nx d (.v (.agg c)) ⟨d, [(x, .v (.agg c))], [], .v (.agg c), []⟩ := ns_mk (st := ⟨sl, ob, nx⟩) n_assign rfl hN ⟨h, trivial⟩ trivial rfl
theorem as3 {c : List V} (h : opT sl x = .tup c) (hN : nlt d N = true) : NS0 P N ⟨some d, .assign x, ty, ps, af, gd⟩ sl ob nx d (.tup c) ⟨d, [(x, .tup c)], [], .tup c, []⟩ := ns_mk (st := ⟨sl, ob, nx⟩) n_assign rfl hN ⟨h, trivial⟩ trivial rfl
theorem pk1 {c : C} {g : Bool} (h : opT sl x = .v (.c (.d g (.b true)))) (hy : opT sl y = .v (.c c)) (hN : nlt d N = true) : NS0 P N ⟨some d, .pick x y z, ty, ps, af, gd⟩ sl ob nx d (.v (.c c)) ⟨d, [(x, .v (.c (.d g (.b true)))), (y, .v (.c c))], [], .v (.c c), []⟩ := ns_mk (st := ⟨sl, ob, nx⟩) n_pick_true rfl hN ⟨h, hy, trivial⟩ trivial rfl
theorem pk0 {c : C} {g : Bool} (h : opT sl x = .v (.c (.d g (.b false)))) (hz : opT sl z = .v (.c c)) (hN : nlt d N = true) : NS0 P N ⟨some d, .pick x y z, ty, ps, af, gd⟩ sl ob nx d (.v (.c c)) ⟨d, [(x, .v (.c (.d g (.b false)))), (z, .v (.c c))], [], .v (.c c), []⟩ := ns_mk (st := ⟨sl, ob, nx⟩) n_pick_false rfl hN ⟨h, hz, trivial⟩ trivial rfl
theorem io {op : BinOp} {t t' : TypeId} {g g' : Bool} {k : IntKind} {a b : Int} {r : D} (hx : opT sl x = .v (.c (.d g (.i k a)))) (hy : opT sl y = .v (.c (.d g' (.i k b)))) (hN : nlt d N = true) (h : intOp op k a b = some r) :
    NS0 P N ⟨some d, .binOp op t x y t', ty, ps, af, gd⟩ sl ob nx d (.v (.c (.d false r))) ⟨d, [(x, .v (.c (.d g (.i k a)))), (y, .v (.c (.d g' (.i k b))))], [], .v (.c (.d false r)), []⟩ := ns_mk (st := ⟨sl, ob, nx⟩) (n_int h) rfl hN ⟨hx, hy, trivial⟩ trivial rfl
theorem is {t t' : TypeId} {g g' : Bool} {a b : Int} (hx : opT sl x = .v (.c (.d g (.i .i64 a)))) (hy : opT sl y = .v (.c (.d g' (.i .i64 b)))) (hN : nlt d N = true) (h : -9223372036854775808 ≤ a - b ∧ a - b ≤ 9223372036854775807) :
    NS0 P N ⟨some d, .binOp .sub t x y t', ty, ps, af, gd⟩ sl ob nx d (tI (a - b)) ⟨d, [(x, .v (.c (.d g (.i .i64 a)))), (y, .v (.c (.d g' (.i .i64 b))))], [], tI (a - b), []⟩ := by
  have := io (P := P) (N := N) (d := d) (ty := ty) (ps := ps) (af := af) (gd := gd) (ob := ob) (nx := nx) (t := t) (t' := t') (op := .sub) hx hy hN rfl
  rwa [wrap_in h] at this
theorem ir {t t' : TypeId} {g g' : Bool} {k : IntKind} {a b : Int} (hx : opT sl x = .v (.c (.d g (.i k a)))) (hy : opT sl y = .v (.c (.d g' (.i k b)))) (hN : nlt d N = true) (h : b ≠ 0) :
    NS0 P N ⟨some d, .binOp .rem t x y t', ty, ps, af, gd⟩ sl ob nx d (.v (.c (.d false (.i k (a.tmod b))))) ⟨d, [(x, .v (.c (.d g (.i k a)))), (y, .v (.c (.d g' (.i k b))))], [], .v (.c (.d false (.i k (a.tmod b)))), []⟩ := ns_mk (st := ⟨sl, ob, nx⟩) (n_rem h) rfl hN ⟨hx, hy, trivial⟩ trivial rfl
theorem se {t t' : TypeId} {g g' : Bool} {a b : ByteArray} (hx : opT sl x = .v (.c (.d g (.str a)))) (hy : opT sl y = .v (.c (.d g' (.str b)))) (hN : nlt d N = true) :
    NS0 P N ⟨some d, .binOp .eql t x y t', ty, ps, af, gd⟩ sl ob nx d (tB (strB a b)) ⟨d, [(x, .v (.c (.d g (.str a)))), (y, .v (.c (.d g' (.str b))))], [], tB (strB a b), []⟩ := ns_mk (st := ⟨sl, ob, nx⟩) n_str_eq rfl hN ⟨hx, hy, trivial⟩ trivial rfl
theorem sn {t t' : TypeId} {g g' : Bool} {a b : ByteArray} (hx : opT sl x = .v (.c (.d g (.str a)))) (hy : opT sl y = .v (.c (.d g' (.str b)))) (hN : nlt d N = true) :
    NS0 P N ⟨some d, .binOp .neq t x y t', ty, ps, af, gd⟩ sl ob nx d (tB (!strB a b)) ⟨d, [(x, .v (.c (.d g (.str a)))), (y, .v (.c (.d g' (.str b))))], [], tB (!strB a b), []⟩ := ns_mk (st := ⟨sl, ob, nx⟩) n_str_ne rfl hN ⟨hx, hy, trivial⟩ trivial rfl
theorem un {t : TypeId} {g b : Bool} (hx : opT sl x = .v (.c (.d g (.b b)))) (hN : nlt d N = true) : NS0 P N ⟨some d, .unOp .not t x, ty, ps, af, gd⟩ sl ob nx d (tB (!b)) ⟨d, [(x, .v (.c (.d g (.b b))))], [], tB (!b), []⟩ := ns_mk (st := ⟨sl, ob, nx⟩) n_not rfl hN ⟨hx, trivial⟩ trivial rfl
theorem ng {t : TypeId} {g : Bool} {k : IntKind} {n : Int} (hx : opT sl x = .v (.c (.d g (.i k n)))) (hN : nlt d N = true) : NS0 P N ⟨some d, .unOp .neg t x, ty, ps, af, gd⟩ sl ob nx d (.v (.c (.d false (.i k (k.wrap (0 - n)))))) ⟨d, [(x, .v (.c (.d g (.i k n))))], [], .v (.c (.d false (.i k (k.wrap (0 - n))))), []⟩ := ns_mk (st := ⟨sl, ob, nx⟩) n_neg rfl hN ⟨hx, trivial⟩ trivial rfl
theorem cv {t t' : TypeId} {ds : TypeDesc} {g : Bool} {k k' : IntKind} {n : Int} [TyU P t ds] [TyU P t' (.int k')] (hx : opT sl x = .v (.c (.d g (.i k n)))) (hN : nlt d N = true) :
    NS0 P N ⟨some d, .convert t t' x, ty, ps, af, gd⟩ sl ob nx d (.v (.c (.d false (.i k' (k'.wrap n))))) ⟨d, [(x, .v (.c (.d g (.i k n))))], [], .v (.c (.d false (.i k' (k'.wrap n)))), []⟩ := ns_mk (st := ⟨sl, ob, nx⟩) n_conv rfl hN ⟨hx, trivial⟩ trivial rfl
theorem ex {ts : List V} {i : Nat} {v : V} (hx : opT sl x = .tup ts) (hN : nlt d N = true) (h : ts[i]? = some v) : NS0 P N ⟨some d, .extract x i, ty, ps, af, gd⟩ sl ob nx d (.v v) ⟨d, [(x, .tup ts)], [], .v v, []⟩ := ns_mk (st := ⟨sl, ob, nx⟩) (n_extract h) rfl hN ⟨hx, trivial⟩ trivial rfl
theorem nc {o k : Nat} (hx : opT sl x = .v (.c (.p o k))) (hN : nlt d N = true) : NS0 P N ⟨some d, .nilCheck x, ty, ps, af, gd⟩ sl ob nx d (.v (.c (.p o k))) ⟨d, [(x, .v (.c (.p o k)))], [], .v (.c (.p o k)), []⟩ := ns_mk (st := ⟨sl, ob, nx⟩) n_nilCheck_p rfl hN ⟨hx, trivial⟩ trivial rfl
theorem lw {t : TypeId} {o n e sz by_ : Nat} [TySl P t e sz by_] (hx : opT sl x = .v (.c (.w o n))) (hN : nlt d N = true) : NS0 P N ⟨some d, .call ⟨.builtin .len, #[x], #[t]⟩, ty, ps, af, gd⟩ sl ob nx d (tI n) ⟨d, [(x, .v (.c (.w o n)))], [], tI n, []⟩ := ns_mk (st := ⟨sl, ob, nx⟩) n_len_w rfl hN ⟨hx, trivial⟩ trivial rfl
theorem ls {t : TypeId} {o zz off n e sz by_ : Nat} [TySl P t e sz by_] (hx : opT sl x = .v (.c (.s o zz off n))) (hN : nlt d N = true) : NS0 P N ⟨some d, .call ⟨.builtin .len, #[x], #[t]⟩, ty, ps, af, gd⟩ sl ob nx d (tI n) ⟨d, [(x, .v (.c (.s o zz off n)))], [], tI n, []⟩ := ns_mk (st := ⟨sl, ob, nx⟩) n_len_s rfl hN ⟨hx, trivial⟩ trivial rfl
theorem ld {t : TypeId} {g : Bool} {xs : List (List D)} {e sz by_ : Nat} [TySl P t e sz by_] (hx : opT sl x = .v (.c (.d g (.l xs)))) (hN : nlt d N = true) : NS0 P N ⟨some d, .call ⟨.builtin .len, #[x], #[t]⟩, ty, ps, af, gd⟩ sl ob nx d (tI xs.length) ⟨d, [(x, .v (.c (.d g (.l xs))))], [], tI xs.length, []⟩ := ns_mk (st := ⟨sl, ob, nx⟩) n_len_d rfl hN ⟨hx, trivial⟩ trivial rfl
theorem ln {t : TypeId} {e sz by_ : Nat} [TySl P t e sz by_] (hx : opT sl x = .v (.c .nil)) (hN : nlt d N = true) : NS0 P N ⟨some d, .call ⟨.builtin .len, #[x], #[t]⟩, ty, ps, af, gd⟩ sl ob nx d (tI 0) ⟨d, [(x, .v (.c .nil))], [], tI 0, []⟩ := ns_mk (st := ⟨sl, ob, nx⟩) n_len_nil rfl hN ⟨hx, trivial⟩ trivial rfl
theorem lstr {t : TypeId} {g : Bool} {s : ByteArray} [TyU P t .string] (hx : opT sl x = .v (.c (.d g (.str s)))) (hN : nlt d N = true) : NS0 P N ⟨some d, .call ⟨.builtin .len, #[x], #[t]⟩, ty, ps, af, gd⟩ sl ob nx d (tI s.size) ⟨d, [(x, .v (.c (.d g (.str s))))], [], tI s.size, []⟩ := ns_mk (st := ⟨sl, ob, nx⟩) n_len_str rfl hN ⟨hx, trivial⟩ trivial rfl
theorem fp {t : TypeId} {f off ft : Nat} {o k k' : Nat} [TyF P t f off ft] (hx : opT sl x = .v (.c (.p o k))) (hN : nlt d N = true) (hk : k + off = k') : NS0 P N ⟨some d, .fieldAddr t x f, ty, ps, af, gd⟩ sl ob nx d (.v (.c (.p o k'))) ⟨d, [(x, .v (.c (.p o k)))], [], .v (.c (.p o k')), []⟩ := by
  subst hk; exact ns_mk (st := ⟨sl, ob, nx⟩) n_field_p rfl hN ⟨hx, trivial⟩ trivial rfl
theorem fe {t : TypeId} {f off ft : Nat} {o sz i j j' : Nat} [TyF P t f off ft] (hx : opT sl x = .v (.c (.e o sz i j))) (hN : nlt d N = true) (hk : j + off = j') : NS0 P N ⟨some d, .fieldAddr t x f, ty, ps, af, gd⟩ sl ob nx d (.v (.c (.e o sz i j'))) ⟨d, [(x, .v (.c (.e o sz i j)))], [], .v (.c (.e o sz i j')), []⟩ := by
  subst hk; exact ns_mk (st := ⟨sl, ob, nx⟩) n_field_e rfl hN ⟨hx, trivial⟩ trivial rfl
theorem fq {t : TypeId} {f off ft : Nat} {g : Bool} {e : List D} {j j' : Nat} [TyF P t f off ft] (hx : opT sl x = .v (.c (.q g e j))) (hN : nlt d N = true) (hk : j + off = j') : NS0 P N ⟨some d, .fieldAddr t x f, ty, ps, af, gd⟩ sl ob nx d (.v (.c (.q g e j'))) ⟨d, [(x, .v (.c (.q g e j)))], [], .v (.c (.q g e j')), []⟩ := by
  subst hk; exact ns_mk (st := ⟨sl, ob, nx⟩) n_field_q rfl hN ⟨hx, trivial⟩ trivial rfl
theorem xw {t : TypeId} {e sz by_ : Nat} {g : Bool} {kd : IntKind} {o n : Nat} {i : Int} [TySl P t e sz by_] (hx : opT sl x = .v (.c (.w o n))) (hy : opT sl y = .v (.c (.d g (.i kd i)))) (hN : nlt d N = true) (h0 : 0 ≤ i) (h1 : i < n) :
    NS0 P N ⟨some d, .indexAddr t x y, ty, ps, af, gd⟩ sl ob nx d (.v (.c (.e o sz i.toNat 0))) ⟨d, [(x, .v (.c (.w o n))), (y, .v (.c (.d g (.i kd i))))], [], .v (.c (.e o sz i.toNat 0)), []⟩ := ns_mk (st := ⟨sl, ob, nx⟩) (n_index_w h0 h1) rfl hN ⟨hx, hy, trivial⟩ trivial rfl
theorem xs {t : TypeId} {e sz by_ : Nat} {g : Bool} {kd : IntKind} {o off n : Nat} {i : Int} [TySl P t e sz by_] (hx : opT sl x = .v (.c (.s o sz off n))) (hy : opT sl y = .v (.c (.d g (.i kd i)))) (hN : nlt d N = true) (h0 : 0 ≤ i) (h1 : i < n) :
    NS0 P N ⟨some d, .indexAddr t x y, ty, ps, af, gd⟩ sl ob nx d (.v (.c (.e o sz (off + i.toNat) 0))) ⟨d, [(x, .v (.c (.s o sz off n))), (y, .v (.c (.d g (.i kd i))))], [], .v (.c (.e o sz (off + i.toNat) 0)), []⟩ := ns_mk (st := ⟨sl, ob, nx⟩) (n_index_s h0 h1) rfl hN ⟨hx, hy, trivial⟩ trivial rfl
theorem xd {t : TypeId} {e sz by_ : Nat} {g g' : Bool} {kd : IntKind} {xs : List (List D)} {i : Int} {el : List D} [TySl P t e sz by_] (hx : opT sl x = .v (.c (.d g (.l xs)))) (hy : opT sl y = .v (.c (.d g' (.i kd i)))) (hN : nlt d N = true) (h0 : 0 ≤ i) (he : xs[i.toNat]? = some el)
    (hs : ∀ e ∈ xs, e.length = sz) : NS0 P N ⟨some d, .indexAddr t x y, ty, ps, af, gd⟩ sl ob nx d (.v (.c (.q g el 0))) ⟨d, [(x, .v (.c (.d g (.l xs)))), (y, .v (.c (.d g' (.i kd i))))], [], .v (.c (.q g el 0)), []⟩ := ns_mk (st := ⟨sl, ob, nx⟩) (n_index_d h0 he hs) rfl hN ⟨hx, hy, trivial⟩ trivial rfl
theorem op {t : TypeId} {o k : Nat} {vt : TypeId} {cs : List C} {c : C} [TySc P t] (hx : opT sl x = .v (.c (.p o k))) (ho : go ob o = some (.var vt cs)) (hN : nlt d N = true) (hc : cs[k]? = some c) :
    NS0 P N ⟨some d, .load t x, ty, ps, af, gd⟩ sl ob nx d (.v (.c c)) ⟨d, [(x, .v (.c (.p o k)))], [(o, .var vt cs)], .v (.c c), []⟩ := ns_mk (st := ⟨sl, ob, nx⟩) (n_load_p hc) rfl hN ⟨hx, trivial⟩ ⟨ho, trivial⟩ rfl
theorem opa {t : TypeId} {n : Nat} {o k : Nat} {vt : TypeId} {cs r : List C} [TyAg P t n] (hx : opT sl x = .v (.c (.p o k))) (ho : go ob o = some (.var vt cs)) (hN : nlt d N = true) (hc : partO k n cs = some r) :
    NS0 P N ⟨some d, .load t x, ty, ps, af, gd⟩ sl ob nx d (.v (.agg r)) ⟨d, [(x, .v (.c (.p o k)))], [(o, .var vt cs)], .v (.agg r), []⟩ := ns_mk (st := ⟨sl, ob, nx⟩) (n_load_p_agg' hc) rfl hN ⟨hx, trivial⟩ ⟨ho, trivial⟩ rfl
theorem oq {t : TypeId} {g : Bool} {e : List D} {j : Nat} {c : C} [TySc P t] (hx : opT sl x = .v (.c (.q g e j))) (hN : nlt d N = true) (hc : ld1 g j e = some c) :
    NS0 P N ⟨some d, .load t x, ty, ps, af, gd⟩ sl ob nx d (.v (.c c)) ⟨d, [(x, .v (.c (.q g e j)))], [], .v (.c c), []⟩ := ns_mk (st := ⟨sl, ob, nx⟩) (n_load_q' hc) rfl hN ⟨hx, trivial⟩ trivial rfl
theorem oqa {t : TypeId} {n : Nat} {g : Bool} {e : List D} {j : Nat} {cs : List C} [TyAg P t n] (hx : opT sl x = .v (.c (.q g e j))) (hN : nlt d N = true) (hc : ldPO g j n e = some cs) :
    NS0 P N ⟨some d, .load t x, ty, ps, af, gd⟩ sl ob nx d (.v (.agg cs)) ⟨d, [(x, .v (.c (.q g e j)))], [], .v (.agg cs), []⟩ := ns_mk (st := ⟨sl, ob, nx⟩) (n_load_q_agg' hc) rfl hN ⟨hx, trivial⟩ trivial rfl
theorem oea {t : TypeId} {n : Nat} {o sz i j : Nat} {rt : TypeId} {els : List (List D)} {g m : Bool} {el : List D} {cs : List C} [TyAg P t n] (hx : opT sl x = .v (.c (.e o sz i j))) (ho : go ob o = some (.row rt sz els g m)) (hN : nlt d N = true) (he : els[i]? = some el) (hc : ldPO g j n el = some cs) :
    NS0 P N ⟨some d, .load t x, ty, ps, af, gd⟩ sl ob nx d (.v (.agg cs)) ⟨d, [(x, .v (.c (.e o sz i j)))], [(o, .row rt sz els g m)], .v (.agg cs), []⟩ := ns_mk (st := ⟨sl, ob, nx⟩) (n_load_e_agg' he hc) rfl hN ⟨hx, trivial⟩ ⟨ho, trivial⟩ rfl
theorem fv {t : TypeId} {f off ft : Nat} {cs : List C} {c : C} [TyF P t f off ft] [TySc P ft] (hx : opT sl x = .v (.agg cs)) (hN : nlt d N = true) (hc : cs[off]? = some c) : NS0 P N ⟨some d, .field t x f, ty, ps, af, gd⟩ sl ob nx d (.v (.c c)) ⟨d, [(x, .v (.agg cs))], [], .v (.c c), []⟩ := ns_mk (st := ⟨sl, ob, nx⟩) (n_fieldv hc) rfl hN ⟨hx, trivial⟩ trivial rfl
theorem fva {t : TypeId} {f off ft n : Nat} {cs r : List C} [TyF P t f off ft] [TyAg P ft n] (hx : opT sl x = .v (.agg cs)) (hN : nlt d N = true) (hc : partO off n cs = some r) : NS0 P N ⟨some d, .field t x f, ty, ps, af, gd⟩ sl ob nx d (.v (.agg r)) ⟨d, [(x, .v (.agg cs))], [], .v (.agg r), []⟩ := ns_mk (st := ⟨sl, ob, nx⟩) (n_fieldv_agg' hc) rfl hN ⟨hx, trivial⟩ trivial rfl
/-! steps that make an object -/
abbrev NS1 (P : Program) (N : Nat) (o : Oper) (sl : List (Nat × T)) (ob : List (Nat × Ob)) (nx nx' : Nat) (d : Tmp) (out : T) (nb : Ob) (x : Inf) : Prop := NS P N o ⟨sl, ob, nx⟩ ⟨(d, out) :: sl, (nx, nb) :: ob, nx'⟩ x
theorem al {nx' : Nat} {t : TypeId} {zs : List C} [TyZ P t zs] (hN : nlt d N = true) (hq : nxt nx = some nx') : NS1 P N ⟨some d, .alloc t, ty, ps, af, gd⟩ sl ob nx nx' d (.v (.c (.p nx 0))) (.var t zs) ⟨d, [], [], .v (.c (.p nx 0)), [(nx, .var t zs)]⟩ := ns_mk (st := ⟨sl, ob, nx⟩) n_alloc rfl hN trivial trivial (nxt_ok hq)
theorem ba {nx' : Nat} {t : TypeId} {cs : List C} (hx : opT sl x = .v (.agg cs)) (hN : nlt d N = true) (hq : nxt nx = some nx') : NS1 P N ⟨some d, .box t x, ty, ps, af, gd⟩ sl ob nx nx' d (.v (.c (.p nx 0))) (.var t cs) ⟨d, [(x, .v (.agg cs))], [], .v (.c (.p nx 0)), [(nx, .var t cs)]⟩ := ns_mk (st := ⟨sl, ob, nx⟩) n_box_agg rfl hN ⟨hx, trivial⟩ trivial (nxt_ok hq)
theorem bc {nx' : Nat} {t : TypeId} {c : C} (hx : opT sl x = .v (.c c)) (hN : nlt d N = true) (hs : c.sto = true) (hq : nxt nx = some nx') : NS1 P N ⟨some d, .box t x, ty, ps, af, gd⟩ sl ob nx nx' d (.v (.c (.p nx 0))) (.var t [c]) ⟨d, [(x, .v (.c c))], [], .v (.c (.p nx 0)), [(nx, .var t [c])]⟩ := ns_mk (st := ⟨sl, ob, nx⟩) (n_box_c hs) rfl hN ⟨hx, trivial⟩ trivial (nxt_ok hq)
/-- The values of operands. -/
def opVs (sl : List (Nat × T)) : List Operand → Option (List V)
  | [] => some []
  | x :: xs => match opT sl x, opVs sl xs with
    | .v v, some vs => some (v :: vs)
    | _, _ => none
theorem opVs_ok {sl : List (Nat × T)} : ∀ {xs : List Operand} {vs : List V}, opVs sl xs = some vs → vs.length = xs.length ∧ Lk sl (xs.zip (vs.map T.v))
  | [], vs, h => by simp [opVs] at h; subst h; exact ⟨rfl, trivial⟩
  | x :: xs, vs, h => by
    simp only [opVs] at h
    split at h
    · rename_i v vs' h1 h2
      simp at h; subst h
      obtain ⟨k1, k2⟩ := opVs_ok h2
      exact ⟨by simp [k1], h1, k2⟩
    · cases h
theorem bd {t : TypeId} {zs cs : List C} {pl : List (Nat × Nat)} {parts : List (Nat × Operand)} {vs : List V} [TyZ P t zs] [TyB P t pl] (hv : opVs sl (parts.map (·.2)) = some vs) (h : bfill pl zs ((parts.map (·.1)).zip vs) = some cs) (hN : nlt d N = true) :
    NS0 P N ⟨some d, .build t parts.toArray, ty, ps, af, gd⟩ sl ob nx d (.v (.agg cs)) ⟨d, (parts.map (·.2)).zip (vs.map T.v), [], .v (.agg cs), []⟩ := by
  obtain ⟨h1, h2⟩ := opVs_ok hv
  exact ns_mk (st := ⟨sl, ob, nx⟩) (n_build (by simpa using h1) h) rfl hN h2 trivial rfl
theorem bs {nx' : Nat} {t : TypeId} {e sz by_ : Nat} {len : Nat} {parts : List (Nat × Operand)} {vs : List V} {els : List (List D)} {g : Bool} [TySl P t e sz by_] (hv : opVs sl (parts.map (·.2)) = some vs) (he : vsD vs = some (els, g)) (hs : lenO sz els = true)
    (hlen : len = parts.length) (hi : parts.map (·.1) = List.range len) (h24 : Nat.ble (len * sz) 16777216 = true) (hN : nlt d N = true) (hq : nxt nx = some nx') :
    NS1 P N ⟨some d, .buildSlice t len parts.toArray, ty, ps, af, gd⟩ sl ob nx nx' d (.v (.c (.w nx len))) (.row e sz els g true) ⟨d, (parts.map (·.2)).zip (vs.map T.v), [], .v (.c (.w nx len)), [(nx, .row e sz els g true)]⟩ := by
  obtain ⟨h1, h2⟩ := opVs_ok hv
  exact ns_mk (st := ⟨sl, ob, nx⟩) (n_buildSlice hlen (by simpa using h1) hi he hs (Nat.le_of_ble_eq_true h24)) rfl hN h2 trivial (nxt_ok hq)
theorem mk {nx' : Nat} {t : TypeId} {e sz by_ : Nat} {zd : List D} {g g' : Bool} {k k' : IntKind} {n : Nat} {c : Int} [TySl P t e sz by_] [TyE P e zd] (hx : opT sl x = .v (.c (.d g (.i k n)))) (hy : opT sl y = .v (.c (.d g' (.i k' c)))) (hN : nlt d N = true)
    (hc : n ≤ c) (hb : (by_ : Int) * c ≤ 281474976710656) (h63 : c ≤ 9223372036854775807) (hq : nxt nx = some nx') :
    NS1 P N ⟨some d, .makeSlice t x y, ty, ps, af, gd⟩ sl ob nx nx' d (.v (.c (.w nx n))) (.row e sz (List.replicate n zd) true true) ⟨d, [(x, .v (.c (.d g (.i k n)))), (y, .v (.c (.d g' (.i k' c))))], [], .v (.c (.w nx n)), [(nx, .row e sz (List.replicate n zd) true true)]⟩ :=
  ns_mk (st := ⟨sl, ob, nx⟩) (n_make hc hb h63) rfl hN ⟨hx, hy, trivial⟩ trivial (nxt_ok hq)
/-- What the operands of a call hold. -/
def opTs (sl : List (Nat × T)) : List Operand → Option (List T)
  | [] => some []
  | x :: xs => match opT sl x, opTs sl xs with
    | .v (.c c), some vs => some (.v (.c c) :: vs)
    | .v (.agg cs), some vs => some (.v (.agg cs) :: vs)
    | _, _ => none
theorem opTs_ok {sl : List (Nat × T)} : ∀ {xs : List Operand} {ts : List T}, opTs sl xs = some ts → ts.length = xs.length ∧ Lk sl (xs.zip ts)
  | [], vs, h => by simp [opTs] at h; subst h; exact ⟨rfl, trivial⟩
  | x :: xs, vs, h => by
    simp only [opTs] at h
    split at h
    · rename_i c vs' h1 h2
      simp at h; subst h
      obtain ⟨k1, k2⟩ := opTs_ok h2
      exact ⟨by simp [k1], h1, k2⟩
    · rename_i c vs' h1 h2
      simp at h; subst h
      obtain ⟨k1, k2⟩ := opTs_ok h2
      exact ⟨by simp [k1], h1, k2⟩
    · cases h
def nwOk (nx : Nat) : List (Nat × Ob) → Nat → Bool
  | [], n => Nat.beq n nx
  | (l, _) :: r, n => (Nat.beq l nx && !rsv l) && nwOk (nx + 1) r n
theorem nwOk_ok : ∀ {nw : List (Nat × Ob)} {nx n : Nat}, nwOk nx nw n = true → Nw nx nw n
  | [], nx, n, h => Nat.eq_of_beq_eq_true h
  | (l, x) :: r, nx, n, h => by
    simp only [nwOk, Bool.and_eq_true, Bool.not_eq_true'] at h
    exact ⟨⟨Nat.eq_of_beq_eq_true h.1.1, h.1.2⟩, nwOk_ok h.2⟩
def apO {α : Type} : List α → List α → Option (List α)
  | [], l => some l
  | x :: xs, l => match apO xs l with | some r => some (x :: r) | none => none
theorem apO_eq {α : Type} : ∀ {xs l r : List α}, apO xs l = some r → r = xs ++ l
  | [], l, r, h => by simp [apO] at h; subst h; rfl
  | x :: xs, l, r, h => by
    simp only [apO] at h
    split at h
    · rename_i q h1; simp at h; subst h; rw [apO_eq h1]; rfl
    · cases h
/-- A call, by its contract. -/
theorem ca {f : FuncId} {args : List Operand} {tys : Array TypeId} {ts : List T} {nob : List (Nat × Ob)} {avs : List AV} {eqs : List (Nat × Nat)} {res : List RV} {out : T} {nw ob' : List (Nat × Ob)} {n : Nat}
    (ht : opTs sl args = some ts) (hp : pickO ob (labTs ts) = some nob) (ha : tsdatR nob ts = some (avs, eqs)) (hF : Fn P f avs res) (he : Eqs eqs) (hi : impR nx res = some (out, nw, n)) (hw : nwOk nx nw n = true) (hN : nlt d N = true) (hob : apO nw ob = some ob') :
    NS P N ⟨some d, .call ⟨.value (.func f), args.toArray, tys⟩, ty, ps, af, gd⟩ ⟨sl, ob, nx⟩ ⟨(d, out) :: sl, ob', n⟩ ⟨d, args.zip ts, nob, out, nw⟩ := by
  obtain ⟨h1, h2⟩ := opTs_ok ht
  rw [apO_eq hob]
  exact ns_mk (st := ⟨sl, ob, nx⟩) (n_call h1 ha hF he hi) rfl hN h2 (pickO_Lo hp) (nwOk_ok hw)
/-! the steps that write -/
theorem sp {t : TypeId} {n o k : Nat} {vt : TypeId} {cs cs' ns : List C} {v : V} [TyN P t n] (hx : opT sl x = .v (.c (.p o k))) (hy : opT sl y = .v v) (ho : go ob o = some (.var vt cs)) (hv : vcs v = some ns)
    (hn : Nat.beq ns.length n = true) (hst : ns.all C.sto = true) (hs : splO k ns cs = some cs') : AWO P N ⟨none, .store t x y, ty, ps, af, gd⟩ ⟨sl, ob, nx⟩ ⟨sl, (o, .var vt cs') :: ob, nx⟩ := o_store_p (st := ⟨sl, ob, nx⟩) hx hy ho hv hn hst hs
theorem so {t : TypeId} {n o sz i j : Nat} {rt : TypeId} {els : List (List D)} {el el' ns : List D} {g g' gg : Bool} {v : V} [TyN P t n] (hx : opT sl x = .v (.c (.e o sz i j))) (hy : opT sl y = .v v)
    (ho : go ob o = some (.row rt sz els g true)) (hv : vD v = some (ns, g')) (hn : Nat.beq ns.length n = true) (he : els[i]? = some el) (hs : splO j ns el = some el') (hg : (g && g') = gg) :
    AWO P N ⟨none, .store t x y, ty, ps, af, gd⟩ ⟨sl, ob, nx⟩ ⟨sl, (o, .row rt sz (els.set i el') gg true) :: ob, nx⟩ := by subst hg; exact o_store_e (st := ⟨sl, ob, nx⟩) hx hy ho hv hn he hs
theorem ap {t : TypeId} {e sz by_ o n : Nat} {els ys : List (List D)} {g gy gg : Bool} {c : C} {sl' : List (Nat × T)} {ob' : List (Nat × Ob)} [TySl P t e sz by_] (hd : nlt d N = true)
    (hx : opT sl x = .v (.c (.w o n))) (hy : opT sl y = .v (.c c)) (ho : go ob o = some (.row e sz els g true)) (hs : Src ob c ys gy) (hk : killS o sl = some sl') (hkb : killB o ob = some ob') (hg : (g && gy) = gg)
    (hn : els.length = n) (hsz : ∀ e ∈ ys, e.length = sz) (hb : (n + ys.length) * by_ ≤ 140737488355328) (h63 : n + ys.length ≤ 9223372036854775807) (hrv : rsp o = false) :
    AWO P N ⟨some d, .call ⟨.builtin .append, #[x, y], #[t, t]⟩, ty, ps, af, gd⟩ ⟨sl, ob, nx⟩ ⟨(d, .v (.c (.w o (n + ys.length)))) :: sl', (o, .row e sz (els ++ ys) gg true) :: ob', nx⟩ := by
  subst hg; exact o_append_w (st := ⟨sl, ob, nx⟩) hrv (blt_lt hd) hx hy ho hs hk hkb hn hsz hb h63
/-! guards, splits -/
section
variable {ops : Array Oper} {l : List Oper} {o : Oper} {K : St → Prop} {KK : List Inf → St → Prop} {is : List Inf}
theorem gs {j : Nat} {dj d : Tmp} {b : Bool} (hg : o.guard = some (j, b)) (hj : (ops[j]?).bind (·.dst) = some dj) (hdj : nlt dj N = true) (hb : noG b (gt sl dj) = true) (hd : o.dst = some d) (hN : nlt d N = true)
    (h' : AWR P N ops l ⟨(d, .tup []) :: sl, ob, nx⟩ K) : AWR P N ops (o :: l) ⟨sl, ob, nx⟩ K := awr_guard_skip (st := ⟨sl, ob, nx⟩) hg hj (blt_lt hdj) hb hd (blt_lt hN) h'
/-- A guard that is not decided: both ways. -/
theorem g2 {j : Nat} {dj : Tmp} {b c : Bool} (hg : o.guard = some (j, b)) (hj : (ops[j]?).bind (·.dst) = some dj) (hb : gt sl dj = tB c)
    (h1 : c = true → AWR P N ops (o :: l) ⟨(dj, tB true) :: sl, ob, nx⟩ K) (h0 : c = false → AWR P N ops (o :: l) ⟨(dj, tB false) :: sl, ob, nx⟩ K) : AWR P N ops (o :: l) ⟨sl, ob, nx⟩ K := awr_split (st := ⟨sl, ob, nx⟩) hb h1 h0
theorem dgs {j : Nat} {dj d : Tmp} {b : Bool} {t : T} (hg : o.guard = some (j, b)) (hj : (ops[j]?).bind (·.dst) = some dj) (hdj : nlt dj N = true) (ht : gt sl dj = t) (hb : noG b t = true) (hd : o.dst = some d) (hN : nlt d N = true)
    (h' : DR P N ops l (is ++ [⟨d, [(.tmp dj, t)], [], .tup [], []⟩]) ⟨(d, .tup []) :: sl, ob, nx⟩ KK) : DR P N ops (o :: l) is ⟨sl, ob, nx⟩ KK := dr_skip (st := ⟨sl, ob, nx⟩) hg hj hdj ht hb hd hN h'
theorem dg2 {j : Nat} {dj : Tmp} {b c : Bool} (hg : o.guard = some (j, b)) (hj : (ops[j]?).bind (·.dst) = some dj) (hb : gt sl dj = tB c)
    (h1 : c = true → DR P N ops (o :: l) is ⟨(dj, tB true) :: sl, ob, nx⟩ KK) (h0 : c = false → DR P N ops (o :: l) is ⟨(dj, tB false) :: sl, ob, nx⟩ KK) : DR P N ops (o :: l) is ⟨sl, ob, nx⟩ KK := dr_split (st := ⟨sl, ob, nx⟩) hb h1 h0
end
/-! into a function, written out -/
def argTO : AV → Option T
  | .c (.i k n) => some (.v (.c (.d false (.i k n))))
  | .c (.b x) => some (.v (.c (.d false (.b x))))
  | .c (.str s) => some (.v (.c (.d false (.str s))))
  | .c (.l xs) => some (.v (.c (.d false (.l xs))))
  | .c (.k A n c) => some (.v (.c (.d false (.k A n c))))
  | .agg xs => match ldO false xs with
    | some cs => some (.v (.agg cs))
    | none => none
def argO : Nat → List AV → Option (List (Nat × T))
  | _, [] => some []
  | k, a :: as => match argTO a, argO (k + 1) as with
    | some t, some r => some ((k, t) :: r)
    | _, _ => none
theorem argO_eq : ∀ {as : List AV} {k : Nat} {r : List (Nat × T)}, argO k as = some r → r = argSl k as
  | [], k, r, h => by simp [argO] at h; subst h; rfl
  | a :: as, k, r, h => by
    simp only [argO] at h
    split at h
    · rename_i t r' h1 h2
      simp at h; subst h
      rw [argO_eq h2, argSl]
      congr 2
      cases a with
      | c x => cases x <;> simp [argTO] at h1 <;> subst h1 <;> rfl
      | agg xs =>
        simp only [argTO] at h1
        split at h1
        · rename_i cs h3; simp at h1; subst h1; rw [ldO_eq h3]; rfl
        · cases h1
    · cases h
theorem fn_in {f : FuncId} {fn : Func} {c : Code} {args : List AV} {rs : List ResultVar} {res : List RV} {sl0 : List (Nat × T)} (hf : P.funcs[f]? = some fn) (hb : fn.body = some c) (hnm : (fn.name == "runtime.NumGoroutine") = false) (hN : fn.ntmps = N) (hrs : fn.results.toList = rs)
    (ha : Nat.ble args.length N = true) (hs : argO 0 args = some sl0) (h : AWC P N c ⟨sl0, [], 0⟩ (Post N P rs res)) : Fn P f args res := by
  rw [argO_eq hs] at h
  exact fn_of hf hb hnm hN hrs ha h
end
end Go.AM
