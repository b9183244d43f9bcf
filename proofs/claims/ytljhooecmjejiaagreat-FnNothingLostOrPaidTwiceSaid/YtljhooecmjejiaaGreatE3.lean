/- A part. -/
import Derived.Test.YtljhooecmjejiaaGreatE2
import Derived.Deep.Slices
import Derived.WideShapes
import Derived.ProofKit
import Derived.OpenShut
import Derived.ChangeOld
import Derived.Laws.Slices
import Derived.Laws.Small
import Derived.Laws.StructEq
set_option linter.unusedVariables false
set_option linter.unusedSimpArgs false
open List renaming getElem?_eq_getElem→v0,drop_drop→Tv,take_succ_cons→Ss,length_map→To,mem_of_getElem?→RS,length_cons→SQ,length_append→Tq,cons_append→Sm,drop_zero→TA,drop_succ_cons→TC,take_length→TD,replicate→SD,map_take→TB,map_drop→TE,all_cons→Su
open Bool renaming false_ne_true→Tt,and_eq_true→hV
open Nat renaming beq→d0,eq_of_beq_eq_true→RU,zero_le→Ta,le_of_ble_eq_true→Tu,le_refl→RX,ble→Sl
open Array renaming ext'→Tz,replicate→SR
namespace Go.AM
open Go.RowKit
def nxt (nx:Nat):Option Nat:=bif rsv nx then none else some (nx+1)
theorem lq {nx nx':Nat} {ob:Ob} (h:nxt nx=some nx'):Nw nx [(nx,ob)] nx':=by
 unfold nxt at h
 cases hr:rsv nx with
 |true=>rw[hr] at h;cases h
 |false=>rw[hr] at h;exact⟨⟨rfl,hr⟩,(Option.some.inj h).symm⟩
theorem Ee {n:Int} (h: -9223372036854775808≤n∧n≤9223372036854775807):IntKind.i64.wrap n=n:=by rw[IntKind.wrap_i64];omega
section
variable {P:Program} {N:Nat} {d:Tmp} {ty:TypeId} {ps:String} {af:Array Edge} {gd:Option (Nat×Bool)} {x y z:Operand} {sl:List (Nat×T)} {ob:List (Nat×Ob)} {nx:Nat}
abbrev NS0 (P:Program) (N:Nat) (o:Oper) (sl:List (Nat×T)) (ob:List (Nat×Ob)) (nx:Nat) (d:Tmp) (out:T) (x:Inf):Prop:=NS P N o ⟨sl,ob,nx⟩ ⟨(d,out)::sl,ob,nx⟩ x
theorem mv1 {c:C} (h:opT sl x= .v (.c c)) (hN:nlt d N=true):NS0 P N ⟨some d,.move x,ty,ps,af,gd⟩ sl ob nx d (.v (.c c)) ⟨d,[(x,.v (.c c))],[],.v (.c c),[]⟩:=cV (st:=⟨sl,ob,nx⟩) G7 rfl hN ⟨h,trivial⟩ trivial rfl
theorem mv2 {c:List C} (h:opT sl x= .v (.agg c)) (hN:nlt d N=true):NS0 P N ⟨some d,.move x,ty,ps,af,gd⟩ sl ob nx d (.v (.agg c)) ⟨d,[(x,.v (.agg c))],[],.v (.agg c),[]⟩:=cV (st:=⟨sl,ob,nx⟩) G7 rfl hN ⟨h,trivial⟩ trivial rfl
theorem mv3 {c:List V} (h:opT sl x= .tup c) (hN:nlt d N=true):NS0 P N ⟨some d,.move x,ty,ps,af,gd⟩ sl ob nx d (.tup c) ⟨d,[(x,.tup c)],[],.tup c,[]⟩:=cV (st:=⟨sl,ob,nx⟩) G7 rfl hN ⟨h,trivial⟩ trivial rfl
theorem as1 {c:C} (h:opT sl x= .v (.c c)) (hN:nlt d N=true):NS0 P N ⟨some d,.assign x,ty,ps,af,gd⟩ sl ob nx d (.v (.c c)) ⟨d,[(x,.v (.c c))],[],.v (.c c),[]⟩:=cV (st:=⟨sl,ob,nx⟩) zU rfl hN ⟨h,trivial⟩ trivial rfl
theorem as2 {c:List C} (h:opT sl x= .v (.agg c)) (hN:nlt d N=true):NS0 P N ⟨some d,.assign x,ty,ps,af,gd⟩ sl ob nx d (.v (.agg c)) ⟨d,[(x,.v (.agg c))],[],.v (.agg c),[]⟩:=cV (st:=⟨sl,ob,nx⟩) zU rfl hN ⟨h,trivial⟩ trivial rfl
theorem as3 {c:List V} (h:opT sl x= .tup c) (hN:nlt d N=true):NS0 P N ⟨some d,.assign x,ty,ps,af,gd⟩ sl ob nx d (.tup c) ⟨d,[(x,.tup c)],[],.tup c,[]⟩:=cV (st:=⟨sl,ob,nx⟩) zU rfl hN ⟨h,trivial⟩ trivial rfl
theorem pk1 {c:C} {g:Bool} (h:opT sl x= .v (.c (.d g (.b true)))) (hy:opT sl y= .v (.c c)) (hN:nlt d N=true):NS0 P N ⟨some d,.pick x y z,ty,ps,af,gd⟩ sl ob nx d (.v (.c c)) ⟨d,[(x,.v (.c (.d g (.b true)))),(y,.v (.c c))],[],.v (.c c),[]⟩:=cV (st:=⟨sl,ob,nx⟩) Fr rfl hN ⟨h,hy,trivial⟩ trivial rfl
theorem pk0 {c:C} {g:Bool} (h:opT sl x= .v (.c (.d g (.b false)))) (hz:opT sl z= .v (.c c)) (hN:nlt d N=true):NS0 P N ⟨some d,.pick x y z,ty,ps,af,gd⟩ sl ob nx d (.v (.c c)) ⟨d,[(x,.v (.c (.d g (.b false)))),(z,.v (.c c))],[],.v (.c c),[]⟩:=cV (st:=⟨sl,ob,nx⟩) Dn rfl hN ⟨h,hz,trivial⟩ trivial rfl
theorem io {op:BinOp} {t t':TypeId} {g g':Bool} {k:IntKind} {a b:Int} {r:D} (hx:opT sl x= .v (.c (.d g (.i k a)))) (hy:opT sl y= .v (.c (.d g' (.i k b)))) (hN:nlt d N=true) (h:Mk op k a b=some r):
 NS0 P N ⟨some d,.binOp op t x y t',ty,ps,af,gd⟩ sl ob nx d (.v (.c (.d false r))) ⟨d,[(x,.v (.c (.d g (.i k a)))),(y,.v (.c (.d g' (.i k b))))],[],.v (.c (.d false r)),[]⟩:=cV (st:=⟨sl,ob,nx⟩) (n_int h) rfl hN ⟨hx,hy,trivial⟩ trivial rfl
theorem is {t t':TypeId} {g g':Bool} {a b:Int} (hx:opT sl x= .v (.c (.d g (.i .i64 a)))) (hy:opT sl y= .v (.c (.d g' (.i .i64 b)))) (hN:nlt d N=true) (h: -9223372036854775808≤a-b∧a-b≤9223372036854775807):
 NS0 P N ⟨some d,.binOp .sub t x y t',ty,ps,af,gd⟩ sl ob nx d (tI (a-b)) ⟨d,[(x,.v (.c (.d g (.i .i64 a)))),(y,.v (.c (.d g' (.i .i64 b))))],[],tI (a-b),[]⟩:=by
 have:=io (P:=P) (N:=N) (d:=d) (ty:=ty) (ps:=ps) (af:=af) (gd:=gd) (ob:=ob) (nx:=nx) (t:=t) (t':=t') (op:=.sub) hx hy hN rfl
 rwa [Ee h] at this
theorem ir {t t':TypeId} {g g':Bool} {k:IntKind} {a b:Int} (hx:opT sl x= .v (.c (.d g (.i k a)))) (hy:opT sl y= .v (.c (.d g' (.i k b)))) (hN:nlt d N=true) (h:b≠0):
 NS0 P N ⟨some d,.binOp .rem t x y t',ty,ps,af,gd⟩ sl ob nx d (.v (.c (.d false (.i k (a.tmod b))))) ⟨d,[(x,.v (.c (.d g (.i k a)))),(y,.v (.c (.d g' (.i k b))))],[],.v (.c (.d false (.i k (a.tmod b)))),[]⟩:=cV (st:=⟨sl,ob,nx⟩) (n_rem h) rfl hN ⟨hx,hy,trivial⟩ trivial rfl
theorem iq {t t':TypeId} {g g':Bool} {k:IntKind} {a b:Int} (hx:opT sl x= .v (.c (.d g (.i k a)))) (hy:opT sl y= .v (.c (.d g' (.i k b)))) (hN:nlt d N=true) (h:b≠0):
 NS0 P N ⟨some d,.binOp .quo t x y t',ty,ps,af,gd⟩ sl ob nx d (.v (.c (.d false (.i k (k.wrap (a.tdiv b)))))) ⟨d,[(x,.v (.c (.d g (.i k a)))),(y,.v (.c (.d g' (.i k b))))],[],.v (.c (.d false (.i k (k.wrap (a.tdiv b))))),[]⟩:=cV (st:=⟨sl,ob,nx⟩) (n_quo h) rfl hN ⟨hx,hy,trivial⟩ trivial rfl
theorem se {t t':TypeId} {g g':Bool} {a b:ByteArray} (hx:opT sl x= .v (.c (.d g (.str a)))) (hy:opT sl y= .v (.c (.d g' (.str b)))) (hN:nlt d N=true):
 NS0 P N ⟨some d,.binOp .eql t x y t',ty,ps,af,gd⟩ sl ob nx d (tB (strB a b)) ⟨d,[(x,.v (.c (.d g (.str a)))),(y,.v (.c (.d g' (.str b))))],[],tB (strB a b),[]⟩:=cV (st:=⟨sl,ob,nx⟩) ME rfl hN ⟨hx,hy,trivial⟩ trivial rfl
theorem sn {t t':TypeId} {g g':Bool} {a b:ByteArray} (hx:opT sl x= .v (.c (.d g (.str a)))) (hy:opT sl y= .v (.c (.d g' (.str b)))) (hN:nlt d N=true):
 NS0 P N ⟨some d,.binOp .neq t x y t',ty,ps,af,gd⟩ sl ob nx d (tB (!strB a b)) ⟨d,[(x,.v (.c (.d g (.str a)))),(y,.v (.c (.d g' (.str b))))],[],tB (!strB a b),[]⟩:=cV (st:=⟨sl,ob,nx⟩) MF rfl hN ⟨hx,hy,trivial⟩ trivial rfl
theorem un {t:TypeId} {g b:Bool} (hx:opT sl x= .v (.c (.d g (.b b)))) (hN:nlt d N=true):NS0 P N ⟨some d,.unOp .not t x,ty,ps,af,gd⟩ sl ob nx d (tB (!b)) ⟨d,[(x,.v (.c (.d g (.b b))))],[],tB (!b),[]⟩:=cV (st:=⟨sl,ob,nx⟩) n_not rfl hN ⟨hx,trivial⟩ trivial rfl
theorem ng {t:TypeId} {g:Bool} {k:IntKind} {n:Int} (hx:opT sl x= .v (.c (.d g (.i k n)))) (hN:nlt d N=true):NS0 P N ⟨some d,.unOp .neg t x,ty,ps,af,gd⟩ sl ob nx d (.v (.c (.d false (.i k (k.wrap (0-n)))))) ⟨d,[(x,.v (.c (.d g (.i k n))))],[],.v (.c (.d false (.i k (k.wrap (0-n))))),[]⟩:=cV (st:=⟨sl,ob,nx⟩) n_neg rfl hN ⟨hx,trivial⟩ trivial rfl
theorem cv {t t':TypeId} {ds:TypeDesc} {g:Bool} {k k':IntKind} {n:Int} [TyU P t ds] [TyU P t' (.int k')] (hx:opT sl x= .v (.c (.d g (.i k n)))) (hN:nlt d N=true):
 NS0 P N ⟨some d,.convert t t' x,ty,ps,af,gd⟩ sl ob nx d (.v (.c (.d false (.i k' (k'.wrap n))))) ⟨d,[(x,.v (.c (.d g (.i k n))))],[],.v (.c (.d false (.i k' (k'.wrap n)))),[]⟩:=cV (st:=⟨sl,ob,nx⟩) QW rfl hN ⟨hx,trivial⟩ trivial rfl
theorem ex {ts:List V} {i:Nat} {v:V} (hx:opT sl x= .tup ts) (hN:nlt d N=true) (h:ts[i]?=some v):NS0 P N ⟨some d,.extract x i,ty,ps,af,gd⟩ sl ob nx d (.v v) ⟨d,[(x,.tup ts)],[],.v v,[]⟩:=cV (st:=⟨sl,ob,nx⟩) (J8 h) rfl hN ⟨hx,trivial⟩ trivial rfl
theorem nc {o k:Nat} (hx:opT sl x= .v (.c (.p o k))) (hN:nlt d N=true):NS0 P N ⟨some d,.nilCheck x,ty,ps,af,gd⟩ sl ob nx d (.v (.c (.p o k))) ⟨d,[(x,.v (.c (.p o k)))],[],.v (.c (.p o k)),[]⟩:=cV (st:=⟨sl,ob,nx⟩) Dm rfl hN ⟨hx,trivial⟩ trivial rfl
theorem lw {t:TypeId} {o n e sz by_:Nat} [TySl P t e sz by_] (hx:opT sl x= .v (.c (.w o n))) (hN:nlt d N=true):NS0 P N ⟨some d,.call ⟨.builtin .len,#[x],#[t]⟩,ty,ps,af,gd⟩ sl ob nx d (tI n) ⟨d,[(x,.v (.c (.w o n)))],[],tI n,[]⟩:=cV (st:=⟨sl,ob,nx⟩) O1 rfl hN ⟨hx,trivial⟩ trivial rfl
theorem ls {t:TypeId} {o zz off n e sz by_:Nat} [TySl P t e sz by_] (hx:opT sl x= .v (.c (.s o zz off n))) (hN:nlt d N=true):NS0 P N ⟨some d,.call ⟨.builtin .len,#[x],#[t]⟩,ty,ps,af,gd⟩ sl ob nx d (tI n) ⟨d,[(x,.v (.c (.s o zz off n)))],[],tI n,[]⟩:=cV (st:=⟨sl,ob,nx⟩) O0 rfl hN ⟨hx,trivial⟩ trivial rfl
theorem ld {t:TypeId} {g:Bool} {xs:List (List D)} {e sz by_:Nat} [TySl P t e sz by_] (hx:opT sl x= .v (.c (.d g (.l xs)))) (hN:nlt d N=true):NS0 P N ⟨some d,.call ⟨.builtin .len,#[x],#[t]⟩,ty,ps,af,gd⟩ sl ob nx d (tI xs.length) ⟨d,[(x,.v (.c (.d g (.l xs))))],[],tI xs.length,[]⟩:=cV (st:=⟨sl,ob,nx⟩) OZ rfl hN ⟨hx,trivial⟩ trivial rfl
theorem ln {t:TypeId} {e sz by_:Nat} [TySl P t e sz by_] (hx:opT sl x= .v (.c .nil)) (hN:nlt d N=true):NS0 P N ⟨some d,.call ⟨.builtin .len,#[x],#[t]⟩,ty,ps,af,gd⟩ sl ob nx d (tI 0) ⟨d,[(x,.v (.c .nil))],[],tI 0,[]⟩:=cV (st:=⟨sl,ob,nx⟩) Kf rfl hN ⟨hx,trivial⟩ trivial rfl
theorem QO {t:TypeId} {g:Bool} {s:ByteArray} [TyU P t .string] (hx:opT sl x= .v (.c (.d g (.str s)))) (hN:nlt d N=true):NS0 P N ⟨some d,.call ⟨.builtin .len,#[x],#[t]⟩,ty,ps,af,gd⟩ sl ob nx d (tI s.size) ⟨d,[(x,.v (.c (.d g (.str s))))],[],tI s.size,[]⟩:=cV (st:=⟨sl,ob,nx⟩) Kg rfl hN ⟨hx,trivial⟩ trivial rfl
theorem fp {t:TypeId} {f off ft:Nat} {o k k':Nat} [TyF P t f off ft] (hx:opT sl x= .v (.c (.p o k))) (hN:nlt d N=true) (hk:k+off=k'):NS0 P N ⟨some d,.fieldAddr t x f,ty,ps,af,gd⟩ sl ob nx d (.v (.c (.p o k'))) ⟨d,[(x,.v (.c (.p o k)))],[],.v (.c (.p o k')),[]⟩:=by
 subst hk;exact cV (st:=⟨sl,ob,nx⟩) Ka rfl hN ⟨hx,trivial⟩ trivial rfl
theorem fe {t:TypeId} {f off ft:Nat} {o sz i j j':Nat} [TyF P t f off ft] (hx:opT sl x= .v (.c (.e o sz i j))) (hN:nlt d N=true) (hk:j+off=j'):NS0 P N ⟨some d,.fieldAddr t x f,ty,ps,af,gd⟩ sl ob nx d (.v (.c (.e o sz i j'))) ⟨d,[(x,.v (.c (.e o sz i j)))],[],.v (.c (.e o sz i j')),[]⟩:=by
 subst hk;exact cV (st:=⟨sl,ob,nx⟩) J9 rfl hN ⟨hx,trivial⟩ trivial rfl
theorem fq {t:TypeId} {f off ft:Nat} {g:Bool} {e:List D} {j j':Nat} [TyF P t f off ft] (hx:opT sl x= .v (.c (.q g e j))) (hN:nlt d N=true) (hk:j+off=j'):NS0 P N ⟨some d,.fieldAddr t x f,ty,ps,af,gd⟩ sl ob nx d (.v (.c (.q g e j'))) ⟨d,[(x,.v (.c (.q g e j)))],[],.v (.c (.q g e j')),[]⟩:=by
 subst hk;exact cV (st:=⟨sl,ob,nx⟩) Kb rfl hN ⟨hx,trivial⟩ trivial rfl
theorem xw {t:TypeId} {e sz by_:Nat} {g:Bool} {kd:IntKind} {o n:Nat} {i:Int} [TySl P t e sz by_] (hx:opT sl x= .v (.c (.w o n))) (hy:opT sl y= .v (.c (.d g (.i kd i)))) (hN:nlt d N=true) (h0:0≤i) (h1:i<n):
 NS0 P N ⟨some d,.indexAddr t x y,ty,ps,af,gd⟩ sl ob nx d (.v (.c (.e o sz i.toNat 0))) ⟨d,[(x,.v (.c (.w o n))),(y,.v (.c (.d g (.i kd i))))],[],.v (.c (.e o sz i.toNat 0)),[]⟩:=cV (st:=⟨sl,ob,nx⟩) (BX h0 h1) rfl hN ⟨hx,hy,trivial⟩ trivial rfl
theorem xs {t:TypeId} {e sz by_:Nat} {g:Bool} {kd:IntKind} {o off n:Nat} {i:Int} [TySl P t e sz by_] (hx:opT sl x= .v (.c (.s o sz off n))) (hy:opT sl y= .v (.c (.d g (.i kd i)))) (hN:nlt d N=true) (h0:0≤i) (h1:i<n):
 NS0 P N ⟨some d,.indexAddr t x y,ty,ps,af,gd⟩ sl ob nx d (.v (.c (.e o sz (off+i.toNat) 0))) ⟨d,[(x,.v (.c (.s o sz off n))),(y,.v (.c (.d g (.i kd i))))],[],.v (.c (.e o sz (off+i.toNat) 0)),[]⟩:=cV (st:=⟨sl,ob,nx⟩) (Ke h0 h1) rfl hN ⟨hx,hy,trivial⟩ trivial rfl
theorem xd {t:TypeId} {e sz by_:Nat} {g g':Bool} {kd:IntKind} {xs:List (List D)} {i:Int} {el:List D} [TySl P t e sz by_] (hx:opT sl x= .v (.c (.d g (.l xs)))) (hy:opT sl y= .v (.c (.d g' (.i kd i)))) (hN:nlt d N=true) (h0:0≤i) (he:xs[i.toNat]?=some el)
 (hs:∀e∈xs,e.length=sz):NS0 P N ⟨some d,.indexAddr t x y,ty,ps,af,gd⟩ sl ob nx d (.v (.c (.q g el 0))) ⟨d,[(x,.v (.c (.d g (.l xs)))),(y,.v (.c (.d g' (.i kd i))))],[],.v (.c (.q g el 0)),[]⟩:=cV (st:=⟨sl,ob,nx⟩) (Kd h0 he hs) rfl hN ⟨hx,hy,trivial⟩ trivial rfl
theorem op {t:TypeId} {o k:Nat} {vt:TypeId} {cs:List C} {c:C} [TySc P t] (hx:opT sl x= .v (.c (.p o k))) (ho:go ob o=some (.var vt cs)) (hN:nlt d N=true) (hc:cs[k]?=some c):
 NS0 P N ⟨some d,.load t x,ty,ps,af,gd⟩ sl ob nx d (.v (.c c)) ⟨d,[(x,.v (.c (.p o k)))],[(o,.var vt cs)],.v (.c c),[]⟩:=cV (st:=⟨sl,ob,nx⟩) (MB hc) rfl hN ⟨hx,trivial⟩ ⟨ho,trivial⟩ rfl
theorem opa {t:TypeId} {n:Nat} {o k:Nat} {vt:TypeId} {cs r:List C} [TyAg P t n] (hx:opT sl x= .v (.c (.p o k))) (ho:go ob o=some (.var vt cs)) (hN:nlt d N=true) (hc:vN k n cs=some r):
 NS0 P N ⟨some d,.load t x,ty,ps,af,gd⟩ sl ob nx d (.v (.agg r)) ⟨d,[(x,.v (.c (.p o k)))],[(o,.var vt cs)],.v (.agg r),[]⟩:=cV (st:=⟨sl,ob,nx⟩) (Be hc) rfl hN ⟨hx,trivial⟩ ⟨ho,trivial⟩ rfl
theorem oq {t:TypeId} {g:Bool} {e:List D} {j:Nat} {c:C} [TySc P t] (hx:opT sl x= .v (.c (.q g e j))) (hN:nlt d N=true) (hc:ld1 g j e=some c):
 NS0 P N ⟨some d,.load t x,ty,ps,af,gd⟩ sl ob nx d (.v (.c c)) ⟨d,[(x,.v (.c (.q g e j)))],[],.v (.c c),[]⟩:=cV (st:=⟨sl,ob,nx⟩) (Kj hc) rfl hN ⟨hx,trivial⟩ trivial rfl
theorem oqa {t:TypeId} {n:Nat} {g:Bool} {e:List D} {j:Nat} {cs:List C} [TyAg P t n] (hx:opT sl x= .v (.c (.q g e j))) (hN:nlt d N=true) (hc:C8 g j n e=some cs):
 NS0 P N ⟨some d,.load t x,ty,ps,af,gd⟩ sl ob nx d (.v (.agg cs)) ⟨d,[(x,.v (.c (.q g e j)))],[],.v (.agg cs),[]⟩:=cV (st:=⟨sl,ob,nx⟩) (Bf hc) rfl hN ⟨hx,trivial⟩ trivial rfl
theorem oe {t:TypeId} {o sz i j:Nat} {rt:TypeId} {els:List (List D)} {g m:Bool} {el:List D} {c:C} [TySc P t] (hx:opT sl x= .v (.c (.e o sz i j)):=by exact rfl) (ho:go ob o=some (.row rt sz els g m):=by exact rfl) (hN:nlt d N=true:=by exact rfl) (he:els[i]?=some el) (hc:ld1 g j el=some c:=by exact rfl):
 NS0 P N ⟨some d,.load t x,ty,ps,af,gd⟩ sl ob nx d (.v (.c c)) ⟨d,[(x,.v (.c (.e o sz i j)))],[(o,.row rt sz els g m)],.v (.c c),[]⟩:=cV (st:=⟨sl,ob,nx⟩) (BZ he hc) rfl hN ⟨hx,trivial⟩ ⟨ho,trivial⟩ rfl
theorem oea {t:TypeId} {n:Nat} {o sz i j:Nat} {rt:TypeId} {els:List (List D)} {g m:Bool} {el:List D} {cs:List C} [TyAg P t n] (hx:opT sl x= .v (.c (.e o sz i j)):=by exact rfl) (ho:go ob o=some (.row rt sz els g m):=by exact rfl) (hN:nlt d N=true:=by exact rfl) (he:els[i]?=some el) (hc:C8 g j n el=some cs:=by exact rfl):
 NS0 P N ⟨some d,.load t x,ty,ps,af,gd⟩ sl ob nx d (.v (.agg cs)) ⟨d,[(x,.v (.c (.e o sz i j)))],[(o,.row rt sz els g m)],.v (.agg cs),[]⟩:=cV (st:=⟨sl,ob,nx⟩) (uo he hc) rfl hN ⟨hx,trivial⟩ ⟨ho,trivial⟩ rfl
theorem fv {t:TypeId} {f off ft:Nat} {cs:List C} {c:C} [TyF P t f off ft] [TySc P ft] (hx:opT sl x= .v (.agg cs)) (hN:nlt d N=true) (hc:cs[off]?=some c):NS0 P N ⟨some d,.field t x f,ty,ps,af,gd⟩ sl ob nx d (.v (.c c)) ⟨d,[(x,.v (.agg cs))],[],.v (.c c),[]⟩:=cV (st:=⟨sl,ob,nx⟩) (My hc) rfl hN ⟨hx,trivial⟩ trivial rfl
theorem fva {t:TypeId} {f off ft n:Nat} {cs r:List C} [TyF P t f off ft] [TyAg P ft n] (hx:opT sl x= .v (.agg cs)) (hN:nlt d N=true) (hc:vN off n cs=some r):NS0 P N ⟨some d,.field t x f,ty,ps,af,gd⟩ sl ob nx d (.v (.agg r)) ⟨d,[(x,.v (.agg cs))],[],.v (.agg r),[]⟩:=cV (st:=⟨sl,ob,nx⟩) (Bc hc) rfl hN ⟨hx,trivial⟩ trivial rfl
abbrev NS1 (P:Program) (N:Nat) (o:Oper) (sl:List (Nat×T)) (ob:List (Nat×Ob)) (nx nx':Nat) (d:Tmp) (out:T) (nb:Ob) (x:Inf):Prop:=NS P N o ⟨sl,ob,nx⟩ ⟨(d,out)::sl,(nx,nb)::ob,nx'⟩ x
theorem al {nx':Nat} {t:TypeId} {zs:List C} [TyZ P t zs] (hN:nlt d N=true) (hq:nxt nx=some nx'):NS1 P N ⟨some d,.alloc t,ty,ps,af,gd⟩ sl ob nx nx' d (.v (.c (.p nx 0))) (.var t zs) ⟨d,[],[],.v (.c (.p nx 0)),[(nx,.var t zs)]⟩:=cV (st:=⟨sl,ob,nx⟩) OW rfl hN trivial trivial (lq hq)
theorem ba {nx':Nat} {t:TypeId} {cs:List C} (hx:opT sl x= .v (.agg cs)) (hN:nlt d N=true) (hq:nxt nx=some nx'):NS1 P N ⟨some d,.box t x,ty,ps,af,gd⟩ sl ob nx nx' d (.v (.c (.p nx 0))) (.var t cs) ⟨d,[(x,.v (.agg cs))],[],.v (.c (.p nx 0)),[(nx,.var t cs)]⟩:=cV (st:=⟨sl,ob,nx⟩) J7 rfl hN ⟨hx,trivial⟩ trivial (lq hq)
theorem bc {nx':Nat} {t:TypeId} {c:C} (hx:opT sl x= .v (.c c)) (hN:nlt d N=true) (hs:c.sto=true) (hq:nxt nx=some nx'):NS1 P N ⟨some d,.box t x,ty,ps,af,gd⟩ sl ob nx nx' d (.v (.c (.p nx 0))) (.var t [c]) ⟨d,[(x,.v (.c c))],[],.v (.c (.p nx 0)),[(nx,.var t [c])]⟩:=cV (st:=⟨sl,ob,nx⟩) (OX hs) rfl hN ⟨hx,trivial⟩ trivial (lq hq)
def Hg (sl:List (Nat×T)):List Operand→Option (List V)
 |[]=>some []
 |x::xs=>match opT sl x,Hg sl xs with
  | .v v,some vs=>some (v::vs)
  |_,_=>none
theorem yI {sl:List (Nat×T)}:∀{xs:List Operand} {vs:List V},Hg sl xs=some vs→vs.length=xs.length∧Lk sl (xs.zip (vs.map T.v))
 |[],vs,h=>by simp[Hg] at h;subst h;exact⟨rfl,trivial⟩
 |x::xs,vs,h=>by
  simp only[Hg] at h
  split at h
  ·rename_i v vs' h1 h2
   simp at h;subst h
   obtain⟨k1,k2⟩:=yI h2
   exact⟨by simp[k1],h1,k2⟩
  ·cases h
theorem bd {t:TypeId} {zs cs:List C} {pl:List (Nat×Nat)} {parts:List (Nat×Operand)} {vs:List V} [TyZ P t zs] [TyB P t pl] (hv:Hg sl (parts.map (·.2))=some vs) (h:y8 pl zs ((parts.map (·.1)).zip vs)=some cs) (hN:nlt d N=true):
 NS0 P N ⟨some d,.build t parts.toArray,ty,ps,af,gd⟩ sl ob nx d (.v (.agg cs)) ⟨d,(parts.map (·.2)).zip (vs.map T.v),[],.v (.agg cs),[]⟩:=by
 obtain⟨h1,h2⟩:=yI hv
 exact cV (st:=⟨sl,ob,nx⟩) (IT (by simpa using h1) h) rfl hN h2 trivial rfl
theorem bs {nx':Nat} {t:TypeId} {e sz by_:Nat} {len:Nat} {parts:List (Nat×Operand)} {vs:List V} {els:List (List D)} {g:Bool} [TySl P t e sz by_] (hv:Hg sl (parts.map (·.2))=some vs) (he:vsD vs=some (els,g)) (hs:Mr sz els=true)
 (hlen:len=parts.length) (hi:parts.map (·.1)=List.range len) (h24:Sl (len*sz) 16777216=true) (hN:nlt d N=true) (hq:nxt nx=some nx'):
 NS1 P N ⟨some d,.buildSlice t len parts.toArray,ty,ps,af,gd⟩ sl ob nx nx' d (.v (.c (.w nx len))) (.row e sz els g true) ⟨d,(parts.map (·.2)).zip (vs.map T.v),[],.v (.c (.w nx len)),[(nx,.row e sz els g true)]⟩:=by
 obtain⟨h1,h2⟩:=yI hv
 exact cV (st:=⟨sl,ob,nx⟩) (Dg hlen (by simpa using h1) hi he hs (Tu h24)) rfl hN h2 trivial (lq hq)
theorem mk {nx':Nat} {t:TypeId} {e sz by_:Nat} {zd:List D} {g g':Bool} {k k':IntKind} {n:Nat} {c:Int} [TySl P t e sz by_] [TyE P e zd] (hx:opT sl x= .v (.c (.d g (.i k n)))) (hy:opT sl y= .v (.c (.d g' (.i k' c)))) (hN:nlt d N=true)
 (hc:n≤c) (hb:(by_:Int)*c≤281474976710656) (h63:c≤9223372036854775807) (hq:nxt nx=some nx'):
 NS1 P N ⟨some d,.makeSlice t x y,ty,ps,af,gd⟩ sl ob nx nx' d (.v (.c (.w nx n))) (.row e sz (SD n zd) true true) ⟨d,[(x,.v (.c (.d g (.i k n)))),(y,.v (.c (.d g' (.i k' c))))],[],.v (.c (.w nx n)),[(nx,.row e sz (SD n zd) true true)]⟩:=
 cV (st:=⟨sl,ob,nx⟩) (QX hc hb h63) rfl hN ⟨hx,hy,trivial⟩ trivial (lq hq)
def xf (sl:List (Nat×T)):List Operand→Option (List T)
 |[]=>some []
 |x::xs=>match opT sl x,xf sl xs with
  | .v (.c c),some vs=>some (.v (.c c)::vs)
  | .v (.agg cs),some vs=>some (.v (.agg cs)::vs)
  |_,_=>none
theorem oL {sl:List (Nat×T)}:∀{xs:List Operand} {ts:List T},xf sl xs=some ts→ts.length=xs.length∧Lk sl (xs.zip ts)
 |[],vs,h=>by simp[xf] at h;subst h;exact⟨rfl,trivial⟩
 |x::xs,vs,h=>by
  simp only[xf] at h
  split at h
  ·rename_i c vs' h1 h2
   simp at h;subst h
   obtain⟨k1,k2⟩:=oL h2
   exact⟨by simp[k1],h1,k2⟩
  ·rename_i c vs' h1 h2
   simp at h;subst h
   obtain⟨k1,k2⟩:=oL h2
   exact⟨by simp[k1],h1,k2⟩
  ·cases h
def He (nx:Nat):List (Nat×Ob)→Nat→Bool
 |[],n=>d0 n nx
 |(l,_)::r,n=>(d0 l nx&&!rsv l)&&He (nx+1) r n
theorem yH:∀{nw:List (Nat×Ob)} {nx n:Nat},He nx nw n=true→Nw nx nw n
 |[],nx,n,h=>RU h
 |(l,x)::r,nx,n,h=>by
  simp only[He,hV,Bool.not_eq_true'] at h
  exact⟨⟨RU h.1.1,h.1.2⟩,yH h.2⟩
def apO {α:Type}:List α→List α→Option (List α)
 |[],l=>some l
 |x::xs,l=>match apO xs l with|some r=>some (x::r)|none=>none
theorem rP {α:Type}:∀{xs l r:List α},apO xs l=some r→r=xs++l
 |[],l,r,h=>by simp[apO] at h;subst h;rfl
 |x::xs,l,r,h=>by
  simp only[apO] at h
  split at h
  ·rename_i q h1;simp at h;subst h;rw[rP h1];rfl
  ·cases h
theorem ca {f:FuncId} {args:List Operand} {tys:Array TypeId} {ts:List T} {nob:List (Nat×Ob)} {avs:List AV} {eqs:List (Nat×Nat)} {res:List RV} {out:T} {nw ob':List (Nat×Ob)} {n:Nat}
 (ht:xf sl args=some ts:=by exact rfl) (hp:rv ob (IH ts)=some nob:=by exact rfl) (ha:xG nob ts=some (avs,eqs):=by exact rfl) (hF:Fn P f avs res) (he:Eqs eqs:=by repeat (first|exact trivial|refine⟨by first|rfl|exact lm _|simp,?_⟩)) (hi:Bb nx res=some (out,nw,n):=by exact rfl) (hw:He nx nw n=true:=by exact rfl) (hN:nlt d N=true:=by exact rfl) (hob:apO nw ob=some ob':=by exact rfl):
 NS P N ⟨some d,.call ⟨.value (.func f),args.toArray,tys⟩,ty,ps,af,gd⟩ ⟨sl,ob,nx⟩ ⟨(d,out)::sl,ob',n⟩ ⟨d,args.zip ts,nob,out,nw⟩:=by
 obtain⟨h1,h2⟩:=oL ht
 rw[rP hob]
 exact cV (st:=⟨sl,ob,nx⟩) (QV h1 ha hF he hi) rfl hN h2 (p3 hp) (yH hw)
theorem sp {t:TypeId} {n o k:Nat} {vt:TypeId} {cs cs' ns:List C} {v:V} [TyN P t n] (hx:opT sl x= .v (.c (.p o k))) (hy:opT sl y= .v v) (ho:go ob o=some (.var vt cs)) (hv:vcs v=some ns)
 (hn:d0 ns.length n=true) (hst:ns.all C.sto=true) (hs:qo k ns cs=some cs'):AWO P N ⟨none,.store t x y,ty,ps,af,gd⟩ ⟨sl,ob,nx⟩ ⟨sl,(o,.var vt cs')::ob,nx⟩:=Kn (st:=⟨sl,ob,nx⟩) hx hy ho hv hn hst hs
theorem so {t:TypeId} {n o sz i j:Nat} {rt:TypeId} {els:List (List D)} {el el' ns:List D} {g g' gg:Bool} {v:V} [TyN P t n] (hx:opT sl x= .v (.c (.e o sz i j))) (hy:opT sl y= .v v)
 (ho:go ob o=some (.row rt sz els g true)) (hv:vD v=some (ns,g')) (hn:d0 ns.length n=true) (he:els[i]?=some el) (hs:qo j ns el=some el') (hg:(g&&g')=gg):
 AWO P N ⟨none,.store t x y,ty,ps,af,gd⟩ ⟨sl,ob,nx⟩ ⟨sl,(o,.row rt sz (els.set i el') gg true)::ob,nx⟩:=by subst hg;exact Km (st:=⟨sl,ob,nx⟩) hx hy ho hv hn he hs
theorem ap {t:TypeId} {e sz by_ o n:Nat} {els ys:List (List D)} {g gy gg:Bool} {c:C} {sl':List (Nat×T)} {ob':List (Nat×Ob)} [TySl P t e sz by_] (hd:nlt d N=true)
 (hx:opT sl x= .v (.c (.w o n))) (hy:opT sl y= .v (.c c)) (ho:go ob o=some (.row e sz els g true)) (hs:Src ob c ys gy) (hk:lU o sl=some sl') (hkb:jO o ob=some ob') (hg:(g&&gy)=gg)
 (hn:els.length=n) (hsz:∀e∈ys,e.length=sz) (hb:(n+ys.length)*by_≤140737488355328) (h63:n+ys.length≤9223372036854775807) (hrv:rsp o=false):
 AWO P N ⟨some d,.call ⟨.builtin .append,#[x,y],#[t,t]⟩,ty,ps,af,gd⟩ ⟨sl,ob,nx⟩ ⟨(d,.v (.c (.w o (n+ys.length))))::sl',(o,.row e sz (els++ys) gg true)::ob',nx⟩:=by
 subst hg;exact Hf (st:=⟨sl,ob,nx⟩) hrv (cF hd) hx hy ho hs hk hkb hn hsz hb h63
section
variable {ops:Array Oper} {l:List Oper} {o:Oper} {K:St→Prop} {KK:List Inf→St→Prop} {is:List Inf}
theorem gs {j:Nat} {dj d:Tmp} {b:Bool} (hg:o.guard=some (j,b)) (hj:(ops[j]?).bind (·.dst)=some dj) (hdj:nlt dj N=true) (hb:noG b (gt sl dj)=true) (hd:o.dst=some d) (hN:nlt d N=true)
 (h':AWR P N ops l ⟨(d,.tup [])::sl,ob,nx⟩ K):AWR P N ops (o::l) ⟨sl,ob,nx⟩ K:=y6 (st:=⟨sl,ob,nx⟩) hg hj (cF hdj) hb hd (cF hN) h'
theorem g2 {j:Nat} {dj:Tmp} {b c:Bool} (hg:o.guard=some (j,b)) (hj:(ops[j]?).bind (·.dst)=some dj) (hb:gt sl dj=tB c)
 (h1:c=true→AWR P N ops (o::l) ⟨(dj,tB true)::sl,ob,nx⟩ K) (h0:c=false→AWR P N ops (o::l) ⟨(dj,tB false)::sl,ob,nx⟩ K):AWR P N ops (o::l) ⟨sl,ob,nx⟩ K:=JJ (st:=⟨sl,ob,nx⟩) hb h1 h0
theorem dgs {j:Nat} {dj d:Tmp} {b:Bool} {t:T} (hg:o.guard=some (j,b)) (hj:(ops[j]?).bind (·.dst)=some dj) (hdj:nlt dj N=true) (ht:gt sl dj=t) (hb:noG b t=true) (hd:o.dst=some d) (hN:nlt d N=true)
 (h':DR P N ops l (is++[⟨d,[(.tmp dj,t)],[],.tup [],[]⟩]) ⟨(d,.tup [])::sl,ob,nx⟩ KK):DR P N ops (o::l) is ⟨sl,ob,nx⟩ KK:=OC (st:=⟨sl,ob,nx⟩) hg hj hdj ht hb hd hN h'
theorem dg2 {j:Nat} {dj:Tmp} {b c:Bool} (hg:o.guard=some (j,b)) (hj:(ops[j]?).bind (·.dst)=some dj) (hb:gt sl dj=tB c)
 (h1:c=true→DR P N ops (o::l) is ⟨(dj,tB true)::sl,ob,nx⟩ KK) (h0:c=false→DR P N ops (o::l) is ⟨(dj,tB false)::sl,ob,nx⟩ KK):DR P N ops (o::l) is ⟨sl,ob,nx⟩ KK:=LK (st:=⟨sl,ob,nx⟩) hb h1 h0
end
def Li:AV→Option T
 | .c (.i k n)=>some (.v (.c (.d false (.i k n))))
 | .c (.b x)=>some (.v (.c (.d false (.b x))))
 | .c (.str s)=>some (.v (.c (.d false (.str s))))
 | .c (.l xs)=>some (.v (.c (.d false (.l xs))))
 | .c (.k A n c)=>some (.v (.c (.d false (.k A n c))))
 | .agg xs=>match ldO false xs with
  |some cs=>some (.v (.agg cs))
  |none=>none
def GH:Nat→List AV→Option (List (Nat×T))
 |_,[]=>some []
 |k,a::as=>match Li a,GH (k+1) as with
  |some t,some r=>some ((k,t)::r)
  |_,_=>none
theorem CL:∀{as:List AV} {k:Nat} {r:List (Nat×T)},GH k as=some r→r=rj k as
 |[],k,r,h=>by simp[GH] at h;subst h;rfl
 |a::as,k,r,h=>by
  simp only[GH] at h
  split at h
  ·rename_i t r' h1 h2
   simp at h;subst h
   rw[CL h2,rj]
   congr 2
   cases a with
   |c x=>cases x<;>simp[Li] at h1<;>subst h1<;>rfl
   |agg xs=>
    simp only[Li] at h1
    split at h1
    ·rename_i cs h3;simp at h1;subst h1;rw[C7 h3];rfl
    ·cases h1
  ·cases h
theorem PU {f:FuncId} {fn:Func} {c:Code} {args:List AV} {rs:List ResultVar} {res:List RV} {sl0:List (Nat×T)} (hf:P.funcs[f]?=some fn) (hb:fn.body=some c:=by exact rfl) (hnm:(fn.name== "runtime.NumGoroutine")=false:=by kernel_rfl) (hN:fn.ntmps=N) (hrs:fn.results.toList=rs:=by exact rfl)
 (ha:Sl args.length N=true:=by exact rfl) (hs:GH 0 args=some sl0:=by exact rfl) (h:AWC P N c ⟨sl0,[],0⟩ (CH N P rs res)):Fn P f args res:=by
 rw[CL hs] at h
 exact fn_of hf hb hnm hN hrs ha h
end
end Go.AM
namespace Go.AM
section
variable {P:Program} {N:Nat} {K:St→Prop} {AQ:Exit→St→Prop} {s:St} {n id:Nat}
theorem tn (h:K s):rF K AQ .normal s:=h
theorem tr (h:AQ .ret s):rF K AQ .ret s:=h
theorem te (h:AQ (.exit n) s):rF K AQ (.exit n) s:=h
theorem bn (h:AQ .normal s):i8 id AQ .normal s:=h
theorem br (h:AQ .ret s):i8 id AQ .ret s:=h
theorem bx (hb:d0 n id=true) (h:AQ .normal s):i8 id AQ (.exit n) s:=by simp only[i8,hb];exact h
theorem bo (hb:d0 n id=false) (h:AQ (.exit n) s):i8 id AQ (.exit n) s:=by simp only[i8,hb];exact h
theorem ah {rs:List ResultVar} {res res':List RV} {vs:List V} {ls:List Nat} (h:mK P s rs vs:=by repeat' (first|exact .nil|apply mK.cons|exact .tmp rfl|exact .cell rfl rfl rfl|exact .cell1 rfl rfl)) (he:uj s.ob vs=some (res',ls):=by exact rfl) (hn:lp ls=true:=by exact rfl) (hr:res'=res:=by first|rfl|simp):CH N P rs res .ret s:=by
 subst hr;exact MU ⟨vs,ls,h,he,hn⟩
end
end Go.AM
namespace Go.AM
open Go.RowKit Go.ChangeShapes Go.WideShapes Go.Deep
inductive Sh where
 |i (k:IntKind)
 |b
 |str
 |l (e:List Sh)
mutual
inductive WT:Sh→D→Prop
 |i {k:IntKind} {n:Int} (h:(Lit.int k n).wf=true):WT (.i k) (.i k n)
 |b {x:Bool}:WT .b (.b x)
 |str {s:ByteArray} (h:s.size≤maxLen):WT .str (.str s)
 |l {e:List Sh} {xs:List (List D)} (hl:xs.length≤maxLen) (h:WTL e xs):WT (.l e) (.l xs)
inductive WTs:List Sh→List D→Prop
 |nil:WTs [] []
 |cons {s:Sh} {ss:List Sh} {x:D} {xs:List D} (h:WT s x) (h':WTs ss xs):WTs (s::ss) (x::xs)
inductive WTL:List Sh→List (List D)→Prop
 |nil {e:List Sh}:WTL e []
 |cons {e:List Sh} {x:List D} {xs:List (List D)} (h:WTs e x) (h':WTL e xs):WTL e (x::xs)
end
theorem WTs.len:∀{ss:List Sh} {xs:List D},WTs ss xs→xs.length=ss.length
 |_,_,.nil=>rfl
 |_,_,.cons _ h=>by simp[WTs.len h]
theorem WTs.append:∀{ss ts:List Sh} {xs ys:List D},WTs ss xs→WTs ts ys→WTs (ss++ts) (xs++ys)
 |_,_,_,_,.nil,h=>h
 |_,_,_,_,.cons h h',k=>.cons h (h'.append k)
mutual
inductive rf (P:Program):TypeId→List Sh→Prop
 |int {t:TypeId} {k:IntKind} (h:P.underlying t=some (.int k)):rf P t [.i k]
 |bool {t:TypeId} (h:P.underlying t=some .bool):rf P t [.b]
 |string {t:TypeId} (h:P.underlying t=some .string):rf P t [.str]
 |slice {t e:TypeId} {ss:List Sh} (h:P.underlying t=some (.slice e)) (he:rf P e ss) (hc:P.cellsOf e=ss.length) (hp:0<ss.length):rf P t [.l ss]
 |struct {t:TypeId} {fs:Array Field} {ss:List Sh} (h:P.underlying t=some (.struct fs)) (hf:HasFs P 0 fs.toList ss) (hc:P.cellsOf t=ss.length):rf P t ss
inductive HasFs (P:Program):Nat→List Field→List Sh→Prop
 |nil {o:Nat}:HasFs P o [] []
 |cons {o:Nat} {f:Field} {fs:List Field} {s1 s2:List Sh} (ho:f.offset=o) (h:rf P f.type s1) (hc:P.cellsOf f.type=s1.length) (h':HasFs P (o+s1.length) fs s2):HasFs P o (f::fs) (s1++s2)
end
theorem Bx {w:World} {F:Nat→Prop}:∀{xs ys:List D} {us vs:List Value},DV w F xs us→DV w F ys vs→DV w F (xs++ys) (us++vs)
 |[],_,[],_,_,h=>h
 |_::_,_,_::_,_,h,k=>⟨h.1,Bx h.2 k⟩
 |[],_,_::_,_,h,_=>h.elim
 |_::_,_,[],_,h,_=>h.elim
section
variable {H:Type} {enc:TypeId×Value→H} {P:Program} {w:World} {spare:Nat→Bool} {held:Bool}
theorem Ca {F:Nat→Prop}:∀{xs:List D} {us:List Value} {b k:Nat},DV w F xs us→(∀j,j<us.length→w.cell? ⟨b,k+j,none⟩=us[j]?)→rdL w F xs b k
 |[],[],_,_,_,_=>by simp[rdL]
 |x::xs,u::us,b,k,h,hc=>by
  rw[rdL]
  refine⟨⟨u,by simpa using hc 0 (by simp),h.1⟩,Ca h.2 fun j hj=>?_⟩
  have:=hc (j+1) (by simp;omega)
  rw[show k+(j+1)=k+1+j from by omega] at this
  simpa using this
 |[],_::_,_,_,h,_=>h.elim
 |_::_,[],_,_,h,_=>h.elim
mutual
theorem Dr:∀{t:TypeId} {ss:List Sh},rf P t ss→∀{fuel:Nat} {cs:List Value} {x:DataW H×List MemPlace},DataW.trod enc P w 0 (fun _=>true) held fuel t cs=some x→
 ∃xs,WTs ss xs∧DV w (fun b=>b<w.heap.size) xs cs
 |_,_,.int ht,fuel,cs,x,h=>by
  obtain⟨n,rfl,_,hw⟩:=DataW.trod_int ht h
  exact⟨[.i _ n],.cons (.i hw) .nil,by simp[rdD],trivial⟩
 |_,_,.bool ht,fuel,cs,x,h=>by
  obtain⟨b,rfl,_⟩:=DataW.trod_bool ht h
  exact⟨[.b b],.cons .b .nil,by simp[rdD],trivial⟩
 |_,_,.string ht,fuel,cs,x,h=>by
  obtain⟨s,rfl,_,hs⟩:=DataW.trod_string ht h
  exact⟨[.str s],.cons (.str hs) .nil,by simp[rdD],trivial⟩
 |_,_,.slice (ss:=ss) (e:=e) ht he hc hp,fuel,cs,x,h=>by
  rcases open_slice ht h with⟨rfl,_⟩|⟨a,len,cap,m,n,Dt,Pl,rfl,_,hl,hm,hmm,_,hi⟩
  ·exact⟨[.l []],.cons (.l (Ta _) .nil) .nil,by rw[rdD];exact⟨none,0,rfl,RX _,.inl rfl⟩,trivial⟩
  ·have hmc:m=cap:=by simpa using hmm
   have each:∀i,i<len→∃xs,WTs ss xs∧∃us,us.length=ss.length∧DV w (fun b=>b<w.heap.size) xs us∧∀j,j<ss.length→w.cell? ((a.add (i*ss.length)).add j)=us[j]?:=by
    intro i hil
    obtain⟨cs',h1,h2⟩:=hi i (by omega)
    obtain⟨_,h3,h4⟩:=World.cells?_some h1
    obtain⟨xs,k1,k2⟩:=Dr he h2
    rw[hc] at h3 h4
    exact⟨xs,k1,cs',h3,k2,h4⟩
   by_cases h0:len=0
   ·subst h0
    exact⟨[.l []],.cons (.l (Ta _) .nil) .nil,by rw[rdD];exact⟨some a,cap,rfl,Ta _,.inl rfl⟩,trivial⟩
   ·
     obtain⟨xs0,k1,us0,k2,k3,k4⟩:=each 0 (by omega)
     have hc0:=k4 0 hp
     have hu0:∃u,us0[0]?=some u:=⟨_,v0 (by omega)⟩
     obtain⟨u0,hu0⟩:=hu0
     have hcell:w.cell? a=some u0:=by rw[←hu0,←hc0];simp[Addr.add]
     obtain⟨b,off,spot⟩:=a
     have hsp:spot=none:=by
      cases spot with
      |none=>rfl
      |some s=>exfalso;simp[World.cell?] at hcell;split at hcell<;>cases hcell
     subst hsp
     have hb:b<w.heap.size:=World.block_lt_of_cell? w ⟨b,off,none⟩ hcell
     have build:∀n i,i+n=len→∃els,WTL ss els∧els.length=n∧(∀e'∈els,e'.length=ss.length)∧rdLL w (fun b=>b<w.heap.size) els b (off+i*ss.length):=by
      intro n
      induction n with
      |zero=>intro i _;exact⟨[],.nil,rfl,by simp,by simp[rdLL]⟩
      |succ n ihn=>
       intro i hin
       obtain⟨xs,l1,us,l2,l3,l4⟩:=each i (by omega)
       obtain⟨els,m1,m2,m3,m4⟩:=ihn (i+1) (by omega)
       have hxl:=l1.len
       refine⟨xs::els,.cons l1 m1,by simp[m2],by simpa using⟨hxl,m3⟩,?_⟩
       rw[rdLL]
       refine⟨Ca l3 fun j hj=>?_,?_⟩
       ·have:=l4 j (by omega)
        rw[uD,uD] at this;exact this
       ·rw[hxl]
        rwa [show off+(i+1)*ss.length=off+i*ss.length+ss.length from by rw[Nat.add_mul];omega] at m4
     obtain⟨els,m1,m2,m3,m4⟩:=build len 0 (by omega)
     refine⟨[.l els],.cons (.l (by rw[m2];omega) m1) .nil,?_,trivial⟩
     rw[rdD]
     exact⟨_,_,by rw[m2],by rw[m2];exact hl,.inr ⟨b,off,rfl,hb,by simpa using m4⟩⟩
 |_,_,.struct (fs:=fs) ht hf hc,fuel,cs,x,h=>by
  obtain⟨ys,n,_,_,h3,h4,h5⟩:=DataW.trod_struct ht h
  have key:=open_fs hf (fuel:=n) (cs:=cs) (fun f hf=>by
   obtain⟨i,hi⟩:=List.getElem?_of_mem hf
   have h6:=h5 i f (by simpa using hi)
   have hlt:i<ys.length:=by rw[h4];simpa using(List.getElem?_eq_some_iff.1 hi).1
   exact⟨_,h6.trans (v0 hlt)⟩)
  obtain⟨xs,k1,k2⟩:=key
  refine⟨xs,k1,?_⟩
  rw[TA,←hc,←h3,TD] at k2
  exact k2
theorem open_fs:∀{o:Nat} {fs:List Field} {ss:List Sh},HasFs P o fs ss→∀{fuel:Nat} {cs:List Value},(∀f∈fs,∃x,DataW.trod enc P w 0 (fun _=>true) held fuel f.type ((cs.drop f.offset).take (P.cellsOf f.type))=some x)→
 ∃xs,WTs ss xs∧DV w (fun b=>b<w.heap.size) xs ((cs.drop o).take ss.length)
 |_,_,_,.nil,fuel,cs,h=>⟨[],.nil,by simp[DV]⟩
 |o,_,_,.cons (f:=f) (s1:=s1) (s2:=s2) ho hs hc hf,fuel,cs,h=>by
  obtain⟨x,hx⟩:=h f (by simp)
  obtain⟨xs1,k1,k2⟩:=Dr hs hx
  obtain⟨xs2,m1,m2⟩:=open_fs hf (fun g hg=>h g (by simp[hg]))
  refine⟨xs1++xs2,k1.append m1,?_⟩
  rw[ho,hc] at k2
  have:=Bx k2 m2
  rwa [Tq,List.take_add,Tv]
end
theorem MN {t:TypeId} {r:Reach} {b0:Nat} {v:Value} {s:Sh} (hs:rf P t [s]) (hn:∀fs,P.underlying t≠some (.struct fs)) (hv:Value.okWide P w r b0 t v):v.cells.toList=[v]:=by
 cases hs with
 |int h=>obtain⟨n,rfl⟩:=okWide_int h hv;rfl
 |bool h=>obtain⟨n,rfl⟩:=okWide_bool h hv;rfl
 |string h=>obtain⟨n,rfl⟩:=okWide_string h hv;rfl
 |slice h=>obtain⟨a,l,c,rfl⟩:=okWide_slice h hv;rfl
 |struct h=>exact absurd h (hn _)
theorem open_c {t:TypeId} {r:Reach} {b0:Nat} {v:Value} {d:DataW H} {p:List MemPlace} {s:Sh} (hs:rf P t [s]) (hn:∀fs,P.underlying t≠some (.struct fs)) (hv:Value.okWide P w r b0 t v) (h:DataW.Trod enc P w 0 (fun _=>true) held t v d p):
 ∃x,WT s x∧avR w (fun b=>b<w.heap.size) (.c x) v:=by
 obtain⟨fuel,hf⟩:=h
 rw[MN hs hn hv] at hf
 obtain⟨xs,h1,h2⟩:=Dr hs hf
 cases h1 with
 |cons h h'=>cases h' with
  |nil=>exact⟨_,h,h2.1⟩
end
theorem H2 {α:Type} {e:List Sh} {f:α→List D} {p:α→Prop} (h:∀x,WTs e x→∃a,x=f a∧p a):∀{xs:List (List D)},WTL e xs→∃l:List α,xs=l.map f∧∀a∈l,p a
 |_,.nil=>⟨[],rfl,by simp⟩
 |_,.cons h1 h2=>by
  obtain⟨a,rfl,ha⟩:=h _ h1
  obtain⟨l,rfl,hl⟩:=H2 h h2
  exact⟨a::l,rfl,by simpa using⟨ha,hl⟩⟩
theorem Hh {w w':World} (h:CG w w' (fun _=>False)):Below w.heap.size w w':=⟨h.os,h.tape,h.output,h.size,fun b hb=>h.block b hb (fun h=>h)⟩
theorem law_calls {P:Program} {f:FuncId} {args:List AV} {w:World} {vals:Array Value} (h:Fn P f args [rB true]) (hT:TabsIn w) (hA:AR w (fun b=>b<w.heap.size) args vals.toList):
 Calls P f vals w fun e w'=>e= .returned (.bool true)∧Below w.heap.size w w':=by
 refine(h.calls _ w vals (fun _ h=>h) hT hA).mono ?_
 rintro e w' ⟨v,G,bs,rfl,hp,_,hr,_⟩
 obtain⟨_,hr⟩:=hr
 simp only[rdD] at hr
 exact⟨by rw[hr],Hh hp⟩
end Go.AM
namespace Go.AM
abbrev WR (n:Int):Int:=IntKind.i64.wrap n
end Go.AM
namespace Go.AM
theorem Fn.frz {P:Program} {f:FuncId} {args:List AV} {ty sz n:Nat} {els:List (List D)} (h:Fn P f args [.c (.own ty sz els n)]) (hn:els.length=n):Fn P f args [.c (.d (.l els))]:=by
 refine⟨h.enters,fun F w vals hF hT hA=>(h.calls F w vals hF hT hA).mono ?_⟩
 rintro e w' ⟨v,G,bs,rfl,hp,hG,hr,_⟩
 obtain⟨b,c,arr,rfl,rfl,hh,ha,hlc,hmx,hes,hrd,hgb,hbb⟩:=hr
 subst hn
 have hlt:b<w'.heap.size:=by
  rcases Nat.lt_or_ge b w'.heap.size with h|h
  ·exact h
  ·rw[Array.getElem?_eq_none h] at hh;cases hh
 refine⟨_,fun k=>G k∨k=b,[],rfl,hp,?_,⟨rfl,?_⟩,by simp⟩
 ·rintro k (hk|rfl)
  ·exact hG k hk
  ·exact⟨hbb,hlt,.mk hh⟩
 ·rw[rdD]
  exact⟨_,_,rfl,hlc,.inr ⟨b,0,rfl,.inr rfl,cd (fun _ _=>rfl) (fun _ h=>.inl h) rfl _ _ hrd⟩⟩
mutual
inductive WS:Sh→D→Prop
 |i {k:IntKind} {n:Int} (h:(Lit.int k n).wf=true):WS (.i k) (.i k n)
 |b {x:Bool}:WS .b (.b x)
 |str {s:ByteArray} (h:s.size≤maxLen):WS .str (.str s)
 |l {e:List Sh} {xs:List (List D)} (hl:xs.length≤1048576) (h:WSL e xs):WS (.l e) (.l xs)
inductive WSs:List Sh→List D→Prop
 |nil:WSs [] []
 |cons {s:Sh} {ss:List Sh} {x:D} {xs:List D} (h:WS s x) (h':WSs ss xs):WSs (s::ss) (x::xs)
inductive WSL:List Sh→List (List D)→Prop
 |nil {e:List Sh}:WSL e []
 |cons {e:List Sh} {x:List D} {xs:List (List D)} (h:WSs e x) (h':WSL e xs):WSL e (x::xs)
end
mutual
def tot:D→Nat
 | .l xs=>xs.length+totLL xs
 | .i _ _=>0
 | .b _=>0
 | .str _=>0
 | .k _ _ _=>0
def totLL:List (List D)→Nat
 |[]=>0
 |e::es=>totL e+totLL es
def totL:List D→Nat
 |[]=>0
 |d::ds=>tot d+totL ds
end
@[simp] theorem tot_i {k:IntKind} {n:Int}:tot (.i k n)=0:=by rw[tot]
@[simp] theorem tot_b {x:Bool}:tot (.b x)=0:=by rw[tot]
@[simp] theorem tot_str {s:ByteArray}:tot (.str s)=0:=by rw[tot]
@[simp] theorem tot_l {xs:List (List D)}:tot (.l xs)=xs.length+totLL xs:=by rw[tot]
@[simp] theorem totL_nil:totL []=0:=by rw[totL]
@[simp] theorem totL_cons {x:D} {xs:List D}:totL (x::xs)=tot x+totL xs:=by rw[totL]
@[simp] theorem totLL_nil:totLL []=0:=by rw[totLL]
@[simp] theorem totLL_cons {x:List D} {xs:List (List D)}:totLL (x::xs)=totL x+totLL xs:=by rw[totLL]
mutual
theorem WS_of:∀{s:Sh} {x:D},WT s x→tot x≤1048576→WS s x
 |_,_,.i h,_=>.i h
 |_,_,.b,_=>.b
 |_,_,.str h,_=>.str h
 |_,_,.l hl h,ht=>by rw[tot_l] at ht;exact .l (by omega) (WSL_of h (by omega))
theorem Lb:∀{s:List Sh} {x:List D},WTs s x→totL x≤1048576→WSs s x
 |_,_,.nil,_=>.nil
 |_,_,.cons h h',ht=>by rw[totL_cons] at ht;exact .cons (WS_of h (by omega)) (Lb h' (by omega))
theorem WSL_of:∀{s:List Sh} {x:List (List D)},WTL s x→totLL x≤1048576→WSL s x
 |_,_,.nil,_=>.nil
 |_,_,.cons h h',ht=>by rw[totLL_cons] at ht;exact .cons (Lb h (by omega)) (WSL_of h' (by omega))
end
section
variable {k:IntKind} {e ss:List Sh} {x:List D} {xs:List (List D)} {d:D}
theorem WS.gi (h:WS (.i k) d):∃n,d= .i k n∧(Lit.int k n).wf=true:=by cases h with|i h=>exact⟨_,rfl,h⟩
theorem WS.gs (h:WS .str d):∃s,d= .str s∧s.size≤maxLen:=by cases h with|str h=>exact⟨_,rfl,h⟩
theorem WS.gl (h:WS (.l e) d):∃ys,d= .l ys∧ys.length≤1048576∧WSL e ys:=by cases h with|l hl h=>exact⟨_,rfl,hl,h⟩
theorem WSs.gn (h:WSs [] x):x=[]:=by cases h;rfl
theorem WSs.gi (h:WSs (.i k::ss) x):∃n r,x= .i k n::r∧(Lit.int k n).wf=true∧WSs ss r:=by cases h with|cons h h'=>cases h with|i h=>exact⟨_,_,rfl,h,h'⟩
theorem WSs.gs (h:WSs (.str::ss) x):∃s r,x= .str s::r∧s.size≤maxLen∧WSs ss r:=by cases h with|cons h h'=>cases h with|str h=>exact⟨_,_,rfl,h,h'⟩
theorem WSs.gl (h:WSs (.l e::ss) x):∃ys r,x= .l ys::r∧ys.length≤1048576∧WSL e ys∧WSs ss r:=by cases h with|cons h h'=>cases h with|l hl h=>exact⟨_,_,rfl,hl,h,h'⟩
theorem WTs.gn (h:WTs [] x):x=[]:=by cases h;rfl
theorem WTs.gi (h:WTs (.i k::ss) x):∃n r,x= .i k n::r∧(Lit.int k n).wf=true∧WTs ss r:=by cases h with|cons h h'=>cases h with|i h=>exact⟨_,_,rfl,h,h'⟩
theorem WTs.gs (h:WTs (.str::ss) x):∃s r,x= .str s::r∧s.size≤maxLen∧WTs ss r:=by cases h with|cons h h'=>cases h with|str h=>exact⟨_,_,rfl,h,h'⟩
theorem WTs.gl (h:WTs (.l e::ss) x):∃ys r,x= .l ys::r∧ys.length≤9223372036854775807∧WTL e ys∧WTs ss r:=by cases h with|cons h h'=>cases h with|l hl h=>exact⟨_,_,rfl,by unfold maxLen at hl;simpa using hl,h,h'⟩
theorem WT.gl (h:WT (.l e) d):∃ys,d= .l ys∧ys.length≤9223372036854775807∧WTL e ys:=by cases h with|l hl h=>exact⟨_,rfl,by unfold maxLen at hl;simpa using hl,h⟩
theorem WT.gi (h:WT (.i k) d):∃n,d= .i k n∧(Lit.int k n).wf=true:=by cases h with|i h=>exact⟨_,rfl,h⟩
theorem WT.gs (h:WT .str d):∃s,d= .str s∧s.size≤maxLen:=by cases h with|str h=>exact⟨_,rfl,h⟩
theorem WSs.len:∀{ss:List Sh} {xs:List D},WSs ss xs→xs.length=ss.length
 |_,_,.nil=>rfl
 |_,_,.cons _ h=>by simp[WSs.len h]
theorem WSL.len:∀{xs:List (List D)},WSL ss xs→∀e∈xs,e.length=ss.length
 |_,.nil=>by simp
 |_,.cons h h'=>by simpa using⟨h.len,WSL.len h'⟩
theorem WTL.len:∀{xs:List (List D)},WTL ss xs→∀e∈xs,e.length=ss.length
 |_,.nil=>by simp
 |_,.cons h h'=>by simpa using⟨h.len,WTL.len h'⟩
theorem WSL.get:∀{xs:List (List D)},WSL ss xs→∀(i:Nat) (h:i<xs.length),WSs ss xs[i]
 |_::_,.cons h h',0,_=>h
 |_::_,.cons h h',i+1,hi=>by simpa using WSL.get h' i (by simpa using hi)
theorem WTL.get:∀{xs:List (List D)},WTL ss xs→∀(i:Nat) (h:i<xs.length),WTs ss xs[i]
 |_::_,.cons h h',0,_=>h
 |_::_,.cons h h',i+1,hi=>by simpa using WTL.get h' i (by simpa using hi)
theorem WSL.at {k:Nat} (h:WSL ss xs) (hk:k<xs.length):∃e,xs[k]=e∧xs[(k:Int).toNat]?=some e∧WSs ss e:=⟨_,rfl,by simp[hk],h.get k hk⟩
theorem WTL.at {k:Nat} (h:WTL ss xs) (hk:k<xs.length):∃e,xs[k]=e∧xs[(k:Int).toNat]?=some e∧WTs ss e:=⟨_,rfl,by simp[hk],h.get k hk⟩
end
end Go.AM
namespace Go.AM
open Go.RowKit
section
variable {P:Program} {d:Option Tmp} {ty:TypeId} {ps:String} {af:Array Edge} {gd:Option (Nat×Bool)} {x y z:Operand}
@[irreducible] def booB (a b:Bool):Bool:=a==b
@[simp] theorem booB_t {a b:Bool}:booB a b=true↔a=b:=by simp[booB]
@[simp] theorem booB_f {a b:Bool}:booB a b=false↔a≠b:=by simp[booB]
theorem Mw {t t':TypeId} {g g':Bool} {a b:Bool} [ht:TyU P t .bool]:
 AWN P ⟨d,.binOp .eql t x y t',ty,ps,af,gd⟩ [(x,.v (.c (.d g (.b a)))),(y,.v (.c (.d g' (.b b))))] [] (.v (.c (.d false (.b (booB a b))))) []:=
 bY fun E ac w hn _=>by
  have h1:=qy (hn x _ (.head _))
  have h2:=qy (hn y _ (.tail _ (.head _)))
  exact⟨.bool (a==b),by simp[execOp,h1,h2,eqGuard,binOp,run_equal_bool w t a b ht.h],by simp[cvT,cvV,cvC,rdD,booB]⟩
theorem Mx {t t':TypeId} {g g':Bool} {a b:Bool} [ht:TyU P t .bool]:
 AWN P ⟨d,.binOp .neq t x y t',ty,ps,af,gd⟩ [(x,.v (.c (.d g (.b a)))),(y,.v (.c (.d g' (.b b))))] [] (.v (.c (.d false (.b (!booB a b))))) []:=
 bY fun E ac w hn _=>by
  have h1:=qy (hn x _ (.head _))
  have h2:=qy (hn y _ (.tail _ (.head _)))
  exact⟨.bool (!(a==b)),by simp[execOp,h1,h2,eqGuard,binOp,run_equal_bool w t a b ht.h],by simp[cvT,cvV,cvC,rdD,booB]⟩
theorem vx {t e:TypeId} (h:P.underlying t=some (.slice e)):P.elem t=e∧P.underlying t=some (.slice (P.elem t)):=by
 have:P.elem t=e:=by simp[Program.elem,h]
 exact⟨this,by rw[this];exact h⟩
theorem Cb {w:World} {F:Nat→Prop} {xs:List (List D)} {A:Option Addr} {c l h sz:Nat} (hs:∀e∈xs,e.length=sz) (h1:l≤h) (h2:h≤xs.length) (hlc:xs.length≤c)
 (hr:xs=[]∨∃b off,A=some ⟨b,off,none⟩∧F b∧rdLL w F xs b off):rdD w F (.l ((xs.take h).drop l)) (sliced A l h c sz):=by
 have hl:((xs.take h).drop l).length=h-l:=by simp;omega
 rw[rdD,hl]
 refine⟨_,_,rfl,by omega,?_⟩
 by_cases hlh:h=l
 ·left;exact List.eq_nil_of_length_eq_zero (by rw[hl];omega)
 ·right
  rcases hr with rfl|⟨b,off,rfl,hb,hr⟩
  ·simp at h2;omega
  ·rw[if_neg (by omega)]
   exact⟨b,off+l*sz,by simp[Addr.add],hb,xi (p6 h hr) (fun e he=>hs e (List.mem_of_mem_take he)) l⟩
theorem G8 {t e sz by_:Nat} {g g2:Bool} {xs:List (List D)} {h:Int} {hi:Operand} [ht:TySl P t e sz by_] (hs:∀e∈xs,e.length=sz) (h0:0≤h) (h2:h≤xs.length):
 AWN P ⟨d,.slice t x none (some hi) none,ty,ps,af,gd⟩ [(x,.v (.c (.d g (.l xs)))),(hi,.v (.c (.d g2 (.i .i64 h))))] [] (.v (.c (.d g (.l (xs.take h.toNat))))) []:=
 bY fun E ac w hn _=>by
  have k1:=hn x _ (.head _)
  have k3:=fY (hn hi _ (.tail _ (.head _)))
  simp only[cvT,cvV,cvC,rdD] at k1
  obtain⟨A,c,hu,hlc,hr⟩:=k1
  obtain⟨i,z,hi1,hi2,_⟩:=ht.i
  obtain⟨he,hu'⟩:=vx ht.u
  refine⟨sliced A 0 h.toNat c sz,?_,by have:=Cb (l:=0) (h:=h.toNat) hs (by omega) (by omega) hlc hr;rw[TA] at this;exact this⟩
  simp[execOp,hu,k3,run_sliceAt_slice w t _ _ _ _ hu',run_slice_h w t A xs.length c hu' .i64 h h0 (by omega),he,eG hi1,hi2]
theorem G9 {t e sz by_:Nat} {g g2:Bool} {xs:List (List D)} {l:Int} {lo:Operand} [ht:TySl P t e sz by_] (hs:∀e∈xs,e.length=sz) (h0:0≤l) (h2:l≤xs.length):
 AWN P ⟨d,.slice t x (some lo) none none,ty,ps,af,gd⟩ [(x,.v (.c (.d g (.l xs)))),(lo,.v (.c (.d g2 (.i .i64 l))))] [] (.v (.c (.d g (.l (xs.drop l.toNat))))) []:=
 bY fun E ac w hn _=>by
  have k1:=hn x _ (.head _)
  have k3:=fY (hn lo _ (.tail _ (.head _)))
  simp only[cvT,cvV,cvC,rdD] at k1
  obtain⟨A,c,hu,hlc,hr⟩:=k1
  obtain⟨i,z,hi1,hi2,_⟩:=ht.i
  obtain⟨he,hu'⟩:=vx ht.u
  refine⟨sliced A l.toNat xs.length c sz,?_,by have:=Cb (l:=l.toNat) (h:=xs.length) hs (by omega) (by omega) hlc hr;rw[TD] at this;exact this⟩
  simp[execOp,hu,k3,run_sliceAt_slice w t _ _ _ _ hu',run_slice_l w t A xs.length c hu' .i64 l h0 (by omega),he,eG hi1,hi2]
end
section
variable {P:Program} {N:Nat} {d:Tmp} {ty:TypeId} {ps:String} {af:Array Edge} {gd:Option (Nat×Bool)} {x y z:Operand} {sl:List (Nat×T)} {ob:List (Nat×Ob)} {nx:Nat}
theorem bq {t t':TypeId} {g g':Bool} {a b:Bool} [TyU P t .bool] (hx:opT sl x= .v (.c (.d g (.b a)))) (hy:opT sl y= .v (.c (.d g' (.b b)))) (hN:nlt d N=true):
 NS0 P N ⟨some d,.binOp .eql t x y t',ty,ps,af,gd⟩ sl ob nx d (tB (booB a b)) ⟨d,[(x,.v (.c (.d g (.b a)))),(y,.v (.c (.d g' (.b b))))],[],tB (booB a b),[]⟩:=cV (st:=⟨sl,ob,nx⟩) Mw rfl hN ⟨hx,hy,trivial⟩ trivial rfl
theorem bne {t t':TypeId} {g g':Bool} {a b:Bool} [TyU P t .bool] (hx:opT sl x= .v (.c (.d g (.b a)))) (hy:opT sl y= .v (.c (.d g' (.b b)))) (hN:nlt d N=true):
 NS0 P N ⟨some d,.binOp .neq t x y t',ty,ps,af,gd⟩ sl ob nx d (tB (!booB a b)) ⟨d,[(x,.v (.c (.d g (.b a)))),(y,.v (.c (.d g' (.b b))))],[],tB (!booB a b),[]⟩:=cV (st:=⟨sl,ob,nx⟩) Mx rfl hN ⟨hx,hy,trivial⟩ trivial rfl
theorem cdh {t e sz by_:Nat} {g g2:Bool} {xs:List (List D)} {h:Int} {hi:Operand} [ht:TySl P t e sz by_] (hx:opT sl x= .v (.c (.d g (.l xs)))) (hh:opT sl hi= .v (.c (.d g2 (.i .i64 h)))) (hN:nlt d N=true)
 (hs:∀e∈xs,e.length=sz) (h0:0≤h) (h2:h≤xs.length):
 NS0 P N ⟨some d,.slice t x none (some hi) none,ty,ps,af,gd⟩ sl ob nx d (.v (.c (.d g (.l (xs.take h.toNat))))) ⟨d,[(x,.v (.c (.d g (.l xs)))),(hi,.v (.c (.d g2 (.i .i64 h))))],[],.v (.c (.d g (.l (xs.take h.toNat)))),[]⟩:=
 cV (st:=⟨sl,ob,nx⟩) (G8 hs h0 h2) rfl hN ⟨hx,hh,trivial⟩ trivial rfl
theorem cdl {t e sz by_:Nat} {g g2:Bool} {xs:List (List D)} {l:Int} {lo:Operand} [ht:TySl P t e sz by_] (hx:opT sl x= .v (.c (.d g (.l xs)))) (hl:opT sl lo= .v (.c (.d g2 (.i .i64 l)))) (hN:nlt d N=true)
 (hs:∀e∈xs,e.length=sz) (h0:0≤l) (h2:l≤xs.length):
 NS0 P N ⟨some d,.slice t x (some lo) none none,ty,ps,af,gd⟩ sl ob nx d (.v (.c (.d g (.l (xs.drop l.toNat))))) ⟨d,[(x,.v (.c (.d g (.l xs)))),(lo,.v (.c (.d g2 (.i .i64 l))))],[],.v (.c (.d g (.l (xs.drop l.toNat)))),[]⟩:=
 cV (st:=⟨sl,ob,nx⟩) (G9 hs h0 h2) rfl hN ⟨hx,hl,trivial⟩ trivial rfl
end
end Go.AM
namespace Go.AM
def fi (e:List D) (j:Nat):Int:=match e[j]? with|some (.i _ n)=>n|_=>0
def fb (e:List D) (j:Nat):Bool:=match e[j]? with|some (.b n)=>n|_=>false
def fs (e:List D) (j:Nat):ByteArray:=match e[j]? with|some (.str n)=>n|_=>⟨#[]⟩
def fl (e:List D) (j:Nat):List (List D):=match e[j]? with|some (.l n)=>n|_=>[]
@[simp] theorem fi_0 {k:IntKind} {n:Int} {r:List D}:fi (.i k n::r) 0=n:=rfl
@[simp] theorem fb_0 {n:Bool} {r:List D}:fb (.b n::r) 0=n:=rfl
@[simp] theorem fs_0 {n:ByteArray} {r:List D}:fs (.str n::r) 0=n:=rfl
@[simp] theorem fl_0 {n:List (List D)} {r:List D}:fl (.l n::r) 0=n:=rfl
@[simp] theorem fi_s {d:D} {r:List D} {j:Nat}:fi (d::r) (j+1)=fi r j:=rfl
@[simp] theorem fb_s {d:D} {r:List D} {j:Nat}:fb (d::r) (j+1)=fb r j:=rfl
@[simp] theorem fs_s {d:D} {r:List D} {j:Nat}:fs (d::r) (j+1)=fs r j:=rfl
@[simp] theorem fl_s {d:D} {r:List D} {j:Nat}:fl (d::r) (j+1)=fl r j:=rfl
def mA {α:Type} (f:α→Bool):Int→List α→Int
 |_,[]=> -1
 |i,a::l=>bif f a then i else mA f (i+1) l
theorem Me {α:Type} {f:α→Bool} {l:List α} {k:Nat} {i:Int} (h:k<l.length):mA f i (l.drop k)=bif f l[k] then i else mA f (i+1) (l.drop (k+1)):=by rw[List.drop_eq_getElem_cons h];rfl
end Go.AM
namespace Go.AM
theorem aT {N:Nat} {sl:List (Nat×T)} {ob:List (Nat×Ob)} {nx o ty sz:Nat} {els:List (List D)} {g:Bool} (ho:go ob o=some (.row ty sz els g true):=by exact rfl) (hlt:rsv o=false:=by exact rfl):
 cZ N ⟨sl,ob,nx⟩ ⟨sl,(o,.row ty sz els g false)::ob,nx⟩:=by
 intro cx E a w hR
 obtain⟨b,c,arr,hr,hh,ha,hlc,hmx,hes,hrd,hFm,_⟩:=hR.obs o _ ho
 have hF:=hFm rfl
 obtain⟨hb1,hb2⟩:=hR.ok.rb o b c hr
 have hb3:cx.w0.heap.size≤b:=by
  rcases hb2 with h|h
  ·exact h
  ·rw[hlt] at h;cases h.2
 let E':Env:=⟨E.r,fun k=>E.F k∨k=b,fun k=>E.G k∨(g=true∧k=b),E.T,E.Z,E.n⟩
 have hH:∀g' k,E.H g' k→E'.H g' k:=fun g' k hk=>by cases g'<;>exact .inl hk
 have hk:il E w E' w:=⟨fun _ _ h=>h,hH,fun _ _ _=>rfl,fun _ _ h=>⟨h,rfl⟩,fun _ h=>⟨h,.refl _ _⟩,rfl⟩
 refine⟨E',⟨?_,?_,?_,hR.ok.rb,hR.ok.inj,hR.ok.os,hR.ok.tape,hR.ok.output,hR.ok.size,hR.ok.block,hR.ok.pin,fun k hk=>hk.elim (hR.ok.ff k) (fun e=>.inr (e▸hb3)),fun k hk hk'=>hk.elim (fun h=>hR.ok.gc k h hk') (fun e=>e▸.mk hh),
  ⟨fun l k h=>?_,hR.ok.sf.tt,fun k h=>?_,hR.ok.sf.zs,hR.ok.sf.ze⟩⟩,hR.dom,fun l x hl=>?_,fun k=>ie hk (hR.sl k),hR.dfr,hR.size,hR.td⟩
 ·rintro k (h|rfl)
  ·exact hR.ok.fb k h
  ·exact hb1
 ·rintro k (h|⟨_,rfl⟩)
  ·exact .inl (hR.ok.gf k h)
  ·exact .inr rfl
 ·rintro k (h|⟨_,rfl⟩)
  ·exact hR.ok.gn k h
  ·exact .inl hb3
 ·obtain⟨h1,h2,h3,h4⟩:=hR.ok.sf.tb l k h
  exact⟨h1,fun hk=>hk.elim h2 (fun e=>by subst e;exact h3 o c hr),h3,h4⟩
 ·obtain⟨h1,h2,h3,h4⟩:=hR.ok.sf.zc k h
  exact⟨h1,fun hk=>hk.elim h2 (fun e=>by subst e;exact h3 o c hr),h3,h4⟩
 ·by_cases hol:o=l
  ·subst hol
   rw[b8] at hl
   cases hl
   exact⟨b,c,arr,hr,hh,ha,hlc,hmx,hes,cd (fun _ _=>rfl) (hH g) rfl _ _ hrd,(fun h=>by cases h),fun _=>⟨.inr rfl,fun hg=>.inr ⟨hg,rfl⟩⟩⟩
  ·rw[bu _ _ hol] at hl
   refine eU hk (fun _ _ _=>rfl) (fun b' c' hr' hn hn'=>?_) (hR.obs l x hl)
   rcases hn' with h|h
   ·exact hn h
   ·subst h;exact hol (hR.ok.inj _ _ _ _ _ hr hr')
def dfz (ob:List (Nat×Ob)):C→Option (C×List (Nat×Nat))
 | .w o n=>match go ob o with
  |some (.row _ _ els g false)=>some (.d g (.l els),[(els.length,n)])
  |_=>some (.w o n,[])
 |c=>some (c,[])
def JS (ob:List (Nat×Ob)):List C→Option (List C×List (Nat×Nat))
 |[]=>some ([],[])
 |c::cs=>match dfz ob c,JS ob cs with
  |some (x,e),some (xs,es)=>some (x::xs,e++es)
  |_,_=>none
def vfz (ob:List (Nat×Ob)):T→Option (T×List (Nat×Nat))
 | .v (.c c)=>match dfz ob c with
  |some (x,e)=>some (.v (.c x),e)
  |none=>none
 | .v (.agg cs)=>match JS ob cs with
  |some (x,e)=>some (.v (.agg x),e)
  |none=>none
 |_=>none
theorem LI {E:Env} {w:World} {ob:List (Nat×Ob)} (hob:∀l x,go ob l=some x→co E w l x) {c c':C} {e:List (Nat×Nat)} {u:Value} (h:dfz ob c=some (c',e)) (he:Eqs e) (hc:cvC E w c u):cvC E w c' u:=by
 unfold dfz at h
 split at h
 ·rename_i o n
  split at h
  ·rename_i ho
   simp at h;obtain⟨rfl,rfl⟩:=h
   obtain⟨b,c,hr,rfl⟩:=hc
   obtain⟨b',c',arr,hr',hh,ha,hlc,hmx,hes,hrd,_,hFm⟩:=hob o _ ho
   rw[hr] at hr';cases hr'
   obtain⟨h1,h2⟩:=hFm rfl
   have hn:=he.1
   subst hn
   show rdD _ _ _ _
   rw[rdD]
   refine⟨_,_,rfl,hlc,.inr ⟨b,0,rfl,?_,hrd⟩⟩
   rename_i g _
   cases g
   ·exact h1
   ·exact h2 rfl
  ·simp at h;obtain⟨rfl,rfl⟩:=h;exact hc
 ·simp at h;obtain⟨rfl,rfl⟩:=h;exact hc
theorem CU {E:Env} {w:World} {ob:List (Nat×Ob)} (hob:∀l x,go ob l=some x→co E w l x):∀{cs cs':List C} {e:List (Nat×Nat)} {us:List Value},JS ob cs=some (cs',e)→Eqs e→CV E w cs us→CV E w cs' us
 |[],cs',e,us,h,he,hc=>by simp[JS] at h;obtain⟨rfl,rfl⟩:=h;exact hc
 |c::cs,cs',e,us,h,he,hc=>by
  cases us with
  |nil=>exact hc.elim
  |cons u us=>
   simp only[JS] at h
   split at h
   ·rename_i h1 h2
    simp at h;obtain⟨rfl,rfl⟩:=h
    obtain⟨k1,k2⟩:=dZ he
    exact⟨LI hob h1 k1 hc.1,CU hob h2 k2 hc.2⟩
   ·cases h
theorem cA {N:Nat} {sl:List (Nat×T)} {ob:List (Nat×Ob)} {nx k:Nat} {t t':T} {e:List (Nat×Nat)} (hk:gt sl k=t:=by exact rfl) (hv:vfz ob t=some (t',e):=by exact rfl) (he:Eqs e:=by repeat (first|exact trivial|refine⟨by first|rfl|exact lm _|simp,?_⟩)):cZ N ⟨sl,ob,nx⟩ ⟨(k,t')::sl,ob,nx⟩:=by
 intro cx E a w hR
 refine⟨E,hR.ok,hR.dom,hR.obs,fun j=>?_,hR.dfr,hR.size,hR.td⟩
 by_cases hj:k=j
 ·subst hj
  rw[dJ]
  have:=hR.sl k
  rw[hk] at this
  unfold vfz at hv
  split at hv
  ·split at hv
   ·rename_i h1;simp at hv;obtain⟨rfl,rfl⟩:=hv;exact LI hR.obs h1 he this
   ·cases hv
  ·split at hv
   ·rename_i h1;simp at hv;obtain⟨rfl,rfl⟩:=hv;obtain⟨arr,hu,hc⟩:=this;exact⟨arr,hu,CU hR.obs h1 he hc⟩
   ·cases hv
  ·cases hv
 ·rw[cN _ _ hj];exact hR.sl j
end Go.AM
namespace Go.AM
open Go.RowKit
inductive cB (σ ρ:Type) where
 |next (x:σ)
 |done (r:ρ)
def iter {σ ρ:Type} (step:σ→Option (cB σ ρ)):Nat→σ→Option ρ
 |0,_=>none
 |n+1,x=>match step x with
  |some (.next x')=>iter step n x'
  |some (.done r)=>some r
  |none=>none
def dn {σ ρ:Type} (o:Option ρ):Option (cB σ ρ):=match o with|some r=>some (.done r)|none=>none
@[irreducible] def FU:Nat:=18446744073709551616
def ix {α:Type} (xs:List α) (i:Int):Option α:=bif leB 0 i then xs[i.toNat]? else none
theorem bt {α:Type} {b:Bool} {x y:Option α} {r:Option α} (h:b=true) (H:(bif b then x else y)=r):x=r:=by subst h;exact H
theorem bf {α:Type} {b:Bool} {x y:Option α} {r:Option α} (h:b=false) (H:(bif b then x else y)=r):y=r:=by subst h;exact H
theorem ob {α β:Type} {o:Option α} {k:α→Option β} {r:β} (H:Option.bind o k=some r):∃a,o=some a∧k a=some r:=Option.bind_eq_some_iff.1 H
theorem rq {α:Type} {b:Bool} {x:Option α} {r:α} (H:(bif b then x else none)=some r):b=true∧x=some r:=by
 cases b
 ·cases H
 ·exact⟨rfl,H⟩
theorem dnE {σ ρ:Type} {m:Option ρ} {o:cB σ ρ} (H:dn m=some o):∃r,m=some r∧o= .done r:=by
 cases m with
 |none=>cases H
 |some r=>exact⟨r,rfl,(Option.some.inj H).symm⟩
theorem ixE {α:Type} {xs:List α} {i:Int} {x:α} (H:ix xs i=some x):0≤i∧xs[i.toNat]?=some x:=by
 unfold ix at H
 obtain⟨h,H⟩:=rq H
 exact⟨by simpa [leB] using h,H⟩
theorem Mn {α:Type} {xs:List α} {i:Int} {x:α} (H:ix xs i=some x):i<xs.length:=by
 obtain⟨h0,h1⟩:=ixE H
 have:=(List.getElem?_eq_some_iff.1 h1).1
 omega
theorem fZ {α β:Type} {xs:List α} {i:Int} {x:α} (f:α→β) (H:ix xs i=some x):(xs.map f)[i.toNat]?=some (f x):=by
 rw[List.getElem?_map,(ixE H).2];rfl
section
variable {P:Program} {N:Nat} {st:St} {AQ:Exit→St→Prop}
theorem aq {a b c:St} (h:cZ N a b) (k:cZ N b c):cZ N a c:=fun cx E ac w hR=>let ⟨E',h'⟩:=h cx E ac w hR;k cx E' ac w h'
theorem tW (a:St):cZ N a a:=fun _ E _ _ h=>⟨E,h⟩
class Clo (N:Nat) (AQ:Exit→St→Prop):Prop where
 h:∀e s m,cZ N s m→AQ e m→AQ e s
instance {rs:List ResultVar} {res:List RV}:Clo N (CH N P rs res):=⟨fun e s m hw h=>by
 cases e<;>simp only[CH] at h ⊢<;>first|exact h|(obtain⟨s',h1,h2⟩:=h;exact⟨s',aq hw h1,h2⟩)⟩
instance {y:Code} [c:Clo N AQ]:Clo N (rF (fun s=>AWC P N y s AQ) AQ):=⟨fun e s m hw h=>by
 cases e<;>first|exact jY hw h|exact c.h _ _ _ hw h⟩
instance {id:Nat} [c:Clo N AQ]:Clo N (i8 id AQ):=⟨fun e s m hw h=>by
 cases e with
 |exit n=>
  simp only[i8] at h ⊢
  cases hb:d0 n id<;>rw[hb] at h<;>exact c.h _ _ _ hw h
 |_=>exact c.h _ _ _ hw h⟩
instance {M:St} [c:Clo N AQ]:Clo N (rF (fun s=>cZ N s M) AQ):=⟨fun e s m hw h=>by
 cases e<;>first|exact aq hw h|exact c.h _ _ _ hw h⟩
def eE {σ ρ:Type} (N:Nat) (S:σ→St) (r:ρ) (o:cB σ ρ) (AQ:Exit→St→Prop):Exit→St→Prop:=
 rF (fun s=>∃x',o= .next x'∧cZ N s (S x')) (fun e s=>∃r',o= .done r'∧(r'=r→AQ e s))
instance {σ ρ:Type} {S:σ→St} {r:ρ} {o:cB σ ρ} [c:Clo N AQ]:Clo N (eE N S r o AQ):=⟨fun e s m hw h=>by
 cases e<;>first
  |(obtain⟨x',h1,h2⟩:=h;exact⟨x',h1,aq hw h2⟩)
  |(obtain⟨r',h1,h2⟩:=h;exact⟨r',h1,fun hq=>c.h _ _ _ hw (h2 hq)⟩)⟩
theorem ee {σ ρ:Type} {S:σ→St} {r:ρ} {x':σ} {s:St} (h:cZ N s (S x')):eE (ρ:=ρ) N S r (.next x') AQ .normal s:=⟨x',rfl,h⟩
theorem ed {σ ρ:Type} {S:σ→St} {r r':ρ} {n:Nat} {s:St} (h:r'=r→AQ (.exit n) s):eE N S r (cB.done r') AQ (.exit n) s:=⟨r',rfl,h⟩
theorem lT {σ ρ:Type} {S:σ→St} {r r':ρ} {s:St} (h:r'=r→AQ .ret s):eE N S r (cB.done r') AQ .ret s:=⟨r',rfl,h⟩
theorem rR {x:Code} (M:St) [c:Clo N AQ] (h1:AWC P N x st (rF (fun s=>cZ N s M) AQ)) (h2:AQ .normal M):AWC P N x st AQ:=
 vi h1 fun e s h=>by
  cases e<;>first|exact c.h _ _ _ h h2|exact h
theorem pQ {x:Code} {id:Nat} (M:St) [c:Clo N AQ] (h1:AWC P N x st (i8 id (rF (fun s=>cZ N s M) AQ))) (h2:AQ .normal M):AWC P N x st (i8 id AQ):=
 vi h1 fun e s h=>by
  cases e with
  |exit n=>
   simp only[i8] at h ⊢
   cases hb:d0 n id<;>rw[hb] at h
   ·exact h
   ·exact c.h _ _ _ h h2
  |normal=>exact c.h _ _ _ h h2
  |_=>exact h
class CloK (N:Nat) (K:St→Prop):Prop where
 h:∀s m,cZ N s m→K m→K s
instance {y:Code}:CloK N (fun s=>AWC P N y s AQ):=⟨fun s m hw h=>jY hw h⟩
instance [c:Clo N AQ]:CloK N (fun s=>AQ .normal s):=⟨fun s m hw h=>c.h _ _ _ hw h⟩
instance {M:St}:CloK N (fun s=>cZ N s M):=⟨fun s m hw h=>aq hw h⟩
theorem Ep {ops:Array Oper} {l:List Oper} {K:St→Prop} (M:St) [c:CloK N K] (h1:AWR P N ops l st (fun s=>cZ N s M)) (h2:K M):AWR P N ops l st K:=
 Lp (fun s h=>c.h _ _ h h2) h1
theorem Ij {ops:Array Oper} {K K':List Inf→St→Prop} (hk:∀is s,K is s→K' is s):∀{l:List Oper} {is:List Inf} {st:St},DR P N ops l is st K→DR P N ops l is st K'
 |[],is,st,h=>hk _ _ h
 |o::l,is,st,h=>by
  obtain⟨x,s1,s2,h1,h2,h3⟩:=h
  exact⟨x,s1,s2,h1,h2,Ij hk h3⟩
theorem fR {ops ops':Array Oper} {l:List Oper} {is:List Inf} {nx:Nat} {K:St→Prop} (M:St) [c:CloK N K] (h1:DR P N ops l is st (fun is t=>zo ops' is nx=true∧cZ N t M)) (h2:K M):DR P N ops l is st (fun is t=>zo ops' is nx=true∧K t):=
 Ij (fun is s h=>⟨h.1,c.h _ _ h.2 h2⟩) h1
theorem pP {c:Code} {σ ρ:Type} {step:σ→Option (cB σ ρ)} {n:Nat} {x0:σ} {r:ρ} (S:σ→St) (H:iter step n x0=some r) (h0:cZ N st (S x0))
 (round:∀x o,step x=some o→AWC P N c (S x) (eE N S r o AQ)):AWC P N (.loop c) st AQ:=by
 refine Lm (σ:=Nat×σ) (fun p=>iter step p.1 p.2=some r) (fun p=>S p.2) (fun p=>p.1) (n,x0) H h0 ?_
 rintro⟨m,x⟩ hI
 cases m with
 |zero=>cases hI
 |succ m=>
  simp only[iter] at hI
  cases hs:step x with
  |none=>rw[hs] at hI;cases hI
  |some o=>
   rw[hs] at hI
   refine vi (round x o hs) fun e s h=>?_
   cases o with
   |next x'=>
    cases e with
    |normal=>
     obtain⟨x'',hx,hw⟩:=h
     cases hx
     exact⟨(m,x'),hI,hw,Nat.lt_succ_self _⟩
    |_=>obtain⟨r',hx,_⟩:=h;cases hx
   |done r'=>
    cases hI
    cases e with
    |normal=>obtain⟨x'',hx,hw⟩:=h;cases hx
    |_=>obtain⟨r'',hx,h⟩:=h;cases hx;exact h rfl
end
end Go.AM
namespace Go.AM
open Go.RowKit
def cS (by_ n:Nat):Bool:=decide (n*by_≤140737488355328∧n≤9223372036854775807)
theorem G3 {α:Type} {enc:α→List D} {n:Nat} (h:∀a,(enc a).length=n) (l:List α):∀e∈l.map enc,e.length=n:=by
 intro e he;obtain⟨a,_,rfl⟩:=List.mem_map.1 he;exact h a
theorem lm {α:Type} {enc:α→List D} (l:List α):(l.map enc).length=l.length:=To _
section
variable {P:Program} {N:Nat} {d:Tmp} {ty:TypeId} {ps:String} {af:Array Edge} {gd:Option (Nat×Bool)} {x y z:Operand} {sl:List (Nat×T)} {ob:List (Nat×Ob)} {nx:Nat}
variable {α:Type} {enc:α→List D}
theorem xdT {t:TypeId} {e sz by_:Nat} {g g':Bool} {kd:IntKind} {xs:List α} {i:Int} {a:α} [TySl P t e sz by_] (H:ix xs i=some a) (henc:∀a,(enc a).length=sz:=by exact fun _=>rfl) (hx:opT sl x= .v (.c (.d g (.l (xs.map enc)))):=by exact rfl) (hy:opT sl y= .v (.c (.d g' (.i kd i))):=by exact rfl) (hN:nlt d N=true:=by exact rfl):
 NS0 P N ⟨some d,.indexAddr t x y,ty,ps,af,gd⟩ sl ob nx d (.v (.c (.q g (enc a) 0))) ⟨d,[(x,.v (.c (.d g (.l (xs.map enc))))),(y,.v (.c (.d g' (.i kd i))))],[],.v (.c (.q g (enc a) 0)),[]⟩:=
 xd hx hy hN (ixE H).1 (fZ enc H) (G3 henc xs)
theorem xwT {t:TypeId} {e sz by_:Nat} {g:Bool} {kd:IntKind} {o n:Nat} {i:Int} {ys:List α} {a:α} [TySl P t e sz by_] (H:ix ys i=some a) (hx:opT sl x= .v (.c (.w o n)):=by exact rfl) (hy:opT sl y= .v (.c (.d g (.i kd i))):=by exact rfl) (hn:ys.length=n:=by first|rfl|simp) (hN:nlt d N=true:=by exact rfl):
 NS0 P N ⟨some d,.indexAddr t x y,ty,ps,af,gd⟩ sl ob nx d (.v (.c (.e o sz i.toNat 0))) ⟨d,[(x,.v (.c (.w o n))),(y,.v (.c (.d g (.i kd i))))],[],.v (.c (.e o sz i.toNat 0)),[]⟩:=
 xw hx hy hN (ixE H).1 (by have:=Mn H;omega)
theorem apT {t:TypeId} {e sz by_ o n:Nat} {ys zs:List α} {zd:List (List D)} {g gy gg:Bool} {c:C} {sl':List (Nat×T)} {ob':List (Nat×Ob)} [TySl P t e sz by_] (H:cS by_ (ys++zs).length=true) (hzd:zs.map enc=zd:=by exact rfl) (henc:∀a,(enc a).length=sz:=by exact fun _=>rfl) (hd:nlt d N=true:=by exact rfl)
 (hx:opT sl x= .v (.c (.w o n)):=by exact rfl) (hy:opT sl y= .v (.c c):=by exact rfl) (hn:ys.length=n:=by first|rfl|simp) (hs:Src ob c zd gy:=by first|exact .d|exact .nil|exact .w rfl (by first|rfl|exact lm _|simp)|exact .wn rfl (by first|rfl|exact lm _|simp)) (ho:go ob o=some (.row e sz (ys.map enc) g true):=by exact rfl) (hk:lU o sl=some sl':=by exact rfl) (hkb:jO o ob=some ob':=by exact rfl) (hg:(g&&gy)=gg:=by exact rfl) (hrv:rsp o=false:=by exact rfl):
 AWO P N ⟨some d,.call ⟨.builtin .append,#[x,y],#[t,t]⟩,ty,ps,af,gd⟩ ⟨sl,ob,nx⟩ ⟨(d,.v (.c (.w o (ys++zs).length)))::sl',(o,.row e sz ((ys++zs).map enc) gg true)::ob',nx⟩:=by
 subst hzd
 simp only[cS,decide_eq_true_eq,Tq] at H
 have:=ap (P:=P) (N:=N) (d:=d) (ty:=ty) (ps:=ps) (af:=af) (gd:=gd) (nx:=nx) (t:=t) (e:=e) (sz:=sz) (by_:=by_) hd hx hy ho hs hk hkb hg (by simpa using hn) (G3 henc zs) (by subst hn;simp only[To];exact H.1) (by subst hn;simp only[To];omega) hrv
 rw[List.map_append,Tq,hn]
 rw[To] at this
 exact this
theorem soT {t:TypeId} {n o sz j:Nat} {i:Int} {rt:TypeId} {ys:List α} {a a':α} {ns:List D} {g g' gg:Bool} {v:V} [TyN P t n] (H:ix ys i=some a) (hx:opT sl x= .v (.c (.e o sz i.toNat j)):=by exact rfl) (hy:opT sl y= .v v:=by exact rfl)
 (ho:go ob o=some (.row rt sz (ys.map enc) g true):=by exact rfl) (hv:vD v=some (ns,g'):=by exact rfl) (hn:d0 ns.length n=true:=by exact rfl) (hs:qo j ns (enc a)=some (enc a'):=by exact rfl) (hg:(g&&g')=gg:=by exact rfl):
 AWO P N ⟨none,.store t x y,ty,ps,af,gd⟩ ⟨sl,ob,nx⟩ ⟨sl,(o,.row rt sz ((ys.set i.toNat a').map enc) gg true)::ob,nx⟩:=by
 have:=so (P:=P) (N:=N) (ty:=ty) (ps:=ps) (af:=af) (gd:=gd) (nx:=nx) (t:=t) (n:=n) hx hy ho hv hn (fZ enc H) hs hg
 rwa [List.map_set]
end
end Go.AM
namespace Go.AM
open Go.RowKit
def eI (n:Int):List D:=[.i .i64 n]
def eU8 (n:Int):List D:=[.i .u8 n]
def fw {α:Type} (xs:List α) (l h:Int):Bool:=decide (0≤l∧l≤h∧h≤xs.length)
theorem ne0 {b:Int} (h:(!eqB b 0)=true):b≠0:=by rintro rfl;simp[eqB] at h
theorem wn {sl:List (Nat×T)} {k o n n':Nat} (h:gt sl k= .v (.c (.w o n))) (hn:n=n'):gt sl k= .v (.c (.w o n')):=hn▸h
section
variable {P:Program} {N:Nat} {d:Tmp} {ty:TypeId} {ps:String} {af:Array Edge} {gd:Option (Nat×Bool)} {x y z:Operand} {sl:List (Nat×T)} {ob:List (Nat×Ob)} {nx:Nat}
variable {α:Type} {enc:α→List D}
theorem ldT {t:TypeId} {g:Bool} {xs:List α} {e sz by_:Nat} [TySl P t e sz by_] (hx:opT sl x= .v (.c (.d g (.l (xs.map enc))))) (hN:nlt d N=true):
 NS0 P N ⟨some d,.call ⟨.builtin .len,#[x],#[t]⟩,ty,ps,af,gd⟩ sl ob nx d (tI xs.length) ⟨d,[(x,.v (.c (.d g (.l (xs.map enc)))))],[],tI xs.length,[]⟩:=by
 have:=ld (P:=P) (N:=N) (d:=d) (ty:=ty) (ps:=ps) (af:=af) (gd:=gd) (ob:=ob) (nx:=nx) (t:=t) hx hN
 rwa [To] at this
theorem Qo {t e sz by_:Nat} {g g2:Bool} {xs:List α} {h:Int} {hi:Operand} [ht:TySl P t e sz by_] (H:fw xs 0 h=true) (henc:∀a,(enc a).length=sz) (hx:opT sl x= .v (.c (.d g (.l (xs.map enc))))) (hh:opT sl hi= .v (.c (.d g2 (.i .i64 h)))) (hN:nlt d N=true):
 NS0 P N ⟨some d,.slice t x none (some hi) none,ty,ps,af,gd⟩ sl ob nx d (.v (.c (.d g (.l ((xs.take h.toNat).map enc))))) ⟨d,[(x,.v (.c (.d g (.l (xs.map enc))))),(hi,.v (.c (.d g2 (.i .i64 h))))],[],.v (.c (.d g (.l ((xs.take h.toNat).map enc)))),[]⟩:=by
 simp only[fw,decide_eq_true_eq] at H
 have:=cdh (P:=P) (N:=N) (d:=d) (ty:=ty) (ps:=ps) (af:=af) (gd:=gd) (ob:=ob) (nx:=nx) (t:=t) (e:=e) (sz:=sz) (by_:=by_) hx hh hN (G3 henc xs) H.2.1 (by simpa using H.2.2)
 rwa [←TB] at this
theorem Qp {t e sz by_:Nat} {g g2:Bool} {xs:List α} {l:Int} {lo:Operand} [ht:TySl P t e sz by_] (H:fw xs l xs.length=true) (henc:∀a,(enc a).length=sz) (hx:opT sl x= .v (.c (.d g (.l (xs.map enc))))) (hl:opT sl lo= .v (.c (.d g2 (.i .i64 l)))) (hN:nlt d N=true):
 NS0 P N ⟨some d,.slice t x (some lo) none none,ty,ps,af,gd⟩ sl ob nx d (.v (.c (.d g (.l ((xs.drop l.toNat).map enc))))) ⟨d,[(x,.v (.c (.d g (.l (xs.map enc))))),(lo,.v (.c (.d g2 (.i .i64 l))))],[],.v (.c (.d g (.l ((xs.drop l.toNat).map enc)))),[]⟩:=by
 simp only[fw,decide_eq_true_eq] at H
 have:=cdl (P:=P) (N:=N) (d:=d) (ty:=ty) (ps:=ps) (af:=af) (gd:=gd) (ob:=ob) (nx:=nx) (t:=t) (e:=e) (sz:=sz) (by_:=by_) hx hl hN (G3 henc xs) H.1 (by simpa using H.2.1)
 rwa [←TE] at this
end
end Go.AM
namespace Go.AM
open Go.RowKit
def toV:D→Value
 | .i k n=>.int k n
 | .b b=>.bool b
 | .str s=>.string s
 | .l _=>.slice none 0 0
 | .k _ _ _=>.slice none 0 0
def OG:D→D→Bool
 | .i _ a,.i _ b=>eqB a b
 | .b a,.b b=>a==b
 | .str a,.str b=>strB a b
 |_,_=>false
def pT:List D→List D→Bool
 |x::xs,y::ys=>OG x y&&pT xs ys
 |_,_=>true
def shB:List Sh→List D→Bool
 |[],[]=>true
 | .i k::ss,.i k' _::xs=>decide (k=k')&&shB ss xs
 | .b::ss,.b _::xs=>shB ss xs
 | .str::ss,.str _::xs=>shB ss xs
 |_,_=>false
theorem nm:∀{ss:List Sh} {xs:List D},shB ss xs=true→xs.length=ss.length
 |[],[],_=>rfl
 | .i k::ss,.i k' _::xs,h=>by simp[shB] at h;simp[nm h.2]
 | .b::ss,.b _::xs,h=>by simp[shB] at h;simp[nm h]
 | .str::ss,.str _::xs,h=>by simp[shB] at h;simp[nm h]
 |[],_::_,h=>by simp[shB] at h
 | .i _::_,[],h=>by simp[shB] at h
 | .i _::_,.b _::_,h=>by simp[shB] at h
 | .i _::_,.str _::_,h=>by simp[shB] at h
 | .i _::_,.l _::_,h=>by simp[shB] at h
 | .i _::_,.k _ _ _::_,h=>by simp[shB] at h
 | .b::_,[],h=>by simp[shB] at h
 | .b::_,.i _ _::_,h=>by simp[shB] at h
 | .b::_,.str _::_,h=>by simp[shB] at h
 | .b::_,.l _::_,h=>by simp[shB] at h
 | .b::_,.k _ _ _::_,h=>by simp[shB] at h
 | .str::_,[],h=>by simp[shB] at h
 | .str::_,.i _ _::_,h=>by simp[shB] at h
 | .str::_,.b _::_,h=>by simp[shB] at h
 | .str::_,.l _::_,h=>by simp[shB] at h
 | .str::_,.k _ _ _::_,h=>by simp[shB] at h
 | .l _::_,[],h=>by simp[shB] at h
 | .l _::_,_::_,h=>by simp[shB] at h
theorem qP:∀{s1 s2:List Sh} {xs:List D},shB (s1++s2) xs=true→shB s1 (xs.take s1.length)=true∧shB s2 (xs.drop s1.length)=true
 |[],s2,xs,h=>by simpa [shB] using h
 | .i k::s1,s2,.i k' n::xs,h=>by
  simp only[Sm,shB,hV] at h
  obtain⟨h1,h2⟩:=qP h.2
  exact⟨by simp only[SQ,Ss,shB,hV];exact⟨h.1,h1⟩,by simpa using h2⟩
 | .b::s1,s2,.b n::xs,h=>by
  simp only[Sm,shB] at h
  obtain⟨h1,h2⟩:=qP h
  exact⟨by simp only[SQ,Ss,shB];exact h1,by simpa using h2⟩
 | .str::s1,s2,.str n::xs,h=>by
  simp only[Sm,shB] at h
  obtain⟨h1,h2⟩:=qP h
  exact⟨by simp only[SQ,Ss,shB];exact h1,by simpa using h2⟩
 | .i _::_,_,[],h=>by simp[shB] at h
 | .i _::_,_,.b _::_,h=>by simp[shB] at h
 | .i _::_,_,.str _::_,h=>by simp[shB] at h
 | .i _::_,_,.l _::_,h=>by simp[shB] at h
 | .i _::_,_,.k _ _ _::_,h=>by simp[shB] at h
 | .b::_,_,[],h=>by simp[shB] at h
 | .b::_,_,.i _ _::_,h=>by simp[shB] at h
 | .b::_,_,.str _::_,h=>by simp[shB] at h
 | .b::_,_,.l _::_,h=>by simp[shB] at h
 | .b::_,_,.k _ _ _::_,h=>by simp[shB] at h
 | .str::_,_,[],h=>by simp[shB] at h
 | .str::_,_,.i _ _::_,h=>by simp[shB] at h
 | .str::_,_,.b _::_,h=>by simp[shB] at h
 | .str::_,_,.l _::_,h=>by simp[shB] at h
 | .str::_,_,.k _ _ _::_,h=>by simp[shB] at h
 | .l _::_,_,[],h=>by simp[shB] at h
 | .l _::_,_,_::_,h=>by simp[shB] at h
theorem zv:∀(n:Nat) (xs ys:List D),xs.length=ys.length→pT xs ys=(pT (xs.take n) (ys.take n)&&pT (xs.drop n) (ys.drop n))
 |0,xs,ys,_=>by simp[pT]
 |n+1,[],[],_=>by simp[pT]
 |n+1,x::xs,y::ys,h=>by
  simp only[Ss,TC,pT]
  rw[zv n xs ys (by simpa using h),Bool.and_assoc]
 |n+1,[],_::_,h=>by simp at h
 |n+1,_::_,[],h=>by simp at h
def mH (xs:List D):Array Value:=(xs.map toV).toArray
def EqS (P:Program) (t:TypeId) (s:Sh):Prop:=∀(d:Nat) (w:World) (x y:D),shB [s] [x]=true→shB [s] [y]=true→(Op.equalIn (d+1) t (toV x) (toV y)).run P w= .ok (OG x y) w
def EqA (P:Program) (k:Nat) (t:TypeId) (ss:List Sh):Prop:=∀(d:Nat) (w:World) (xs ys:List D),k≤d→shB ss xs=true→shB ss ys=true→(Op.equalIn d t (.agg (mH xs)) (.agg (mH ys))).run P w= .ok (pT xs ys) w
def EqF (P:Program) (k:Nat) (o:Nat) (fs:List Field) (ss:List Sh):Prop:=∀(d:Nat) (w:World) (X Y:List D),k≤d→shB ss (X.drop o)=true→shB ss (Y.drop o)=true→(Op.eqFields d (mH X) (mH Y) fs).run P w= .ok (pT (X.drop o) (Y.drop o)) w
theorem dM {P:Program} {t:TypeId} {k:IntKind} (h:P.underlying t=some (.int k)):EqS P t (.i k):=by
 intro d w x y hx hy
 cases x<;>simp[shB] at hx
 cases y<;>simp[shB] at hy
 subst hx;subst hy
 rw[toV,toV,run_equalIn_int w d t _ k _ _ h]
 simp[OG,eqB,H9]
theorem lF {P:Program} {k o:Nat}:EqF P k o [] []:=by
 intro d w X Y hd hx hy
 have h1:=nm hx
 have h2:=nm hy
 rw[List.length_eq_zero_iff.1 h1,List.length_eq_zero_iff.1 h2]
 simp[Op.eqFields,pT]
theorem NW {X:List D} {o:Nat} {x:D} {r:List D} (h:X.drop o=x::r):(mH X)[o]?=some (toV x):=by
 have:X[o]?=some x:=by
  have:=List.getElem?_drop (xs:=X) (i:=o) (j:=0)
  rw[h] at this
  simpa using this.symm
 simp[mH,this]
theorem fJ {P:Program} {k o:Nat} {f:Field} {fs:List Field} {s:Sh} {ss:List Sh} (ho:f.offset=o) (hn:f.name≠ "_") (hs:TySc P f.type) (he:EqS P f.type s) (h:EqF P (k+1) (o+1) fs ss):EqF P (k+1) o (f::fs) (s::ss):=by
 intro d w X Y hd hx hy
 obtain⟨d,rfl⟩:∃d',d=d'+1:=⟨d-1,by omega⟩
 have l1:=nm hx
 have l2:=nm hy
 cases hX:X.drop o with
 |nil=>rw[hX] at l1;simp at l1
 |cons x X'=>
  cases hY:Y.drop o with
  |nil=>rw[hY] at l2;simp at l2
  |cons y Y'=>
   rw[hX] at hx;rw[hY] at hy
   have a1:=qP (s1:=[s]) (s2:=ss) hx
   have a2:=qP (s1:=[s]) (s2:=ss) hy
   simp only[SQ,List.length_nil,Nat.zero_add,Ss,List.take_zero,TC,TA] at a1 a2
   have e1:X.drop (o+1)=X':=by rw[←Tv,hX];rfl
   have e2:Y.drop (o+1)=Y':=by rw[←Tv,hY];rfl
   have ih:=h (d+1) w X Y hd (by rw[e1];exact a1.2) (by rw[e2];exact a2.2)
   simp only[Op.eqFields,hn,ne_eq,not_false_eq_true,if_true,Sem.run_bind,part,hs.h,Result.andThen_ok,ho,NW hX,NW hY,Sem.run_pure,Bool.false_eq_true,if_false,he d w x y a1.1 a2.1]
   rw[pT,←e1,←e2]
   cases hq:OG x y
   ·simp
   ·simpa using ih
theorem PE {X:List D} {o n:Nat}:(mH X).extract o (o+n)=mH ((X.drop o).take n):=by
 apply Tz
 simp[mH,TE,TB,List.extract_eq_take_drop]
theorem LT {P:Program} {k k' o n:Nat} {f:Field} {fs:List Field} {s1 ss:List Sh} (ho:f.offset=o) (hn:f.name≠ "_") (hs:TyAg P f.type n) (hl:s1.length=n) (hk:k'≤k) (he:EqA P k' f.type s1) (h:EqF P k (o+n) fs ss):EqF P k o (f::fs) (s1++ss):=by
 intro d w X Y hd hx hy
 have l1:=nm hx
 have l2:=nm hy
 have a1:=qP hx
 have a2:=qP hy
 rw[hl] at a1 a2
 have ih:=h d w X Y hd (by rw[←Tv];exact a1.2) (by rw[←Tv];exact a2.2)
 obtain⟨i,hi,hin⟩:=hs.n
 simp only[Op.eqFields,hn,ne_eq,not_false_eq_true,if_true,Sem.run_bind,part,hs.h,Result.andThen_ok,ho,eG hi,hin,PE,Sem.run_pure,he d w _ _ (by omega) a1.1 a2.1]
 rw[zv n (X.drop o) (Y.drop o) (by omega),Tv,Tv]
 cases hq:pT ((X.drop o).take n) ((Y.drop o).take n)
 ·simp
 ·simpa using ih
theorem gh {P:Program} {k:Nat} {t:TypeId} {ss:List Sh} {fs:Array Field} (hu:P.underlying t=some (.struct fs)) (hp:P.stoodInHeld t=false) (h:EqF P k 0 fs.toList ss):EqA P (k+1) t ss:=by
 intro d w xs ys hd hx hy
 obtain⟨d,rfl⟩:∃d',d=d'+1:=⟨d-1,by omega⟩
 have hf:P.fieldsOf t=fs:=by simp[Program.fieldsOf,hu]
 rw[run_equalIn_struct w d t _ _ (by rw[hf];exact hu) hp,hf]
 have:=h d w xs ys (by omega) (by simpa using hx) (by simpa using hy)
 simpa using this
class TyEq (P:Program) (t:TypeId) (ss:outParam (List Sh)):Prop where
 h:∃k,k≤10000∧EqA P k t ss
 g:P.eqGuardType P.depth t=false
def Jl:C→Option D
 | .d _ (.i k n)=>some (.i k n)
 | .d _ (.b b)=>some (.b b)
 | .d _ (.str s)=>some (.str s)
 |_=>none
def mE:List C→Option (List D)
 |[]=>some []
 |c::cs=>match Jl c,mE cs with
  |some x,some xs=>some (x::xs)
  |_,_=>none
theorem Nk {E:Env} {w:World} {c:C} {x:D} {u:Value} (h:Jl c=some x) (hc:cvC E w c u):u=toV x:=by
 cases c with
 |d g y=>cases y<;>simp[Jl] at h<;>subst h<;>simpa [cvC,rdD,toV] using hc
 |_=>simp[Jl] at h
theorem qd {E:Env} {w:World}:∀{cs:List C} {xs:List D} {us:List Value},mE cs=some xs→CV E w cs us→us=xs.map toV
 |[],xs,[],h,_=>by simp[mE] at h;subst h;rfl
 |[],_,_::_,_,hc=>hc.elim
 |c::cs,xs,[],h,hc=>hc.elim
 |c::cs,xs,u::us,h,hc=>by
  simp only[mE] at h
  split at h
  ·rename_i x xs' h1 h2
   simp at h;subst h
   rw[List.map_cons,Nk h1 hc.1,qd h2 hc.2]
  ·cases h
section
variable {P:Program} {N:Nat} {d:Tmp} {ty:TypeId} {ps:String} {af:Array Edge} {gd:Option (Nat×Bool)} {x y z:Operand} {sl:List (Nat×T)} {ob:List (Nat×Ob)} {nx:Nat}
theorem Ji {t:TypeId} {ss:List Sh} [h:TyEq P t ss] {as bs:List D} (h1:shB ss as=true) (h2:shB ss bs=true) (w:World) (o:BinOp) (ho:o= .eql∨o= .neq) (x y:Operand):
 ((do eqGuard o t x y (.agg (mH as)) (.agg (mH bs));binOp o t (.agg (mH as)) (.agg (mH bs))):Sem Value).run P w= .ok (.bool (if o= .eql then pT as bs else !pT as bs)) w:=by
 obtain⟨k,hk,he⟩:=h.h
 have:=he 10000 w as bs hk h1 h2
 rcases ho with rfl|rfl
 ·simp[Sem.run_bind,run_eqGuard_agg w _ t x y _ _ h.g,run_eql_struct,this]
 ·simp[Sem.run_bind,run_eqGuard_agg w _ t x y _ _ h.g,run_neq_struct,this]
theorem n_seq {t t':TypeId} {ss:List Sh} [h:TyEq P t ss] {cs ds:List C} {as bs:List D} (ha:mE cs=some as) (hb:mE ds=some bs) (h1:shB ss as=true) (h2:shB ss bs=true):
 AWN P ⟨some d,.binOp .eql t x y t',ty,ps,af,gd⟩ [(x,.v (.agg cs)),(y,.v (.agg ds))] [] (tB (pT as bs)) []:=
 bY fun E ac w hn _=>by
  obtain⟨a1,hu1,hc1⟩:=hn x _ (.head _)
  obtain⟨a2,hu2,hc2⟩:=hn y _ (.tail _ (.head _))
  have e1:a1=mH as:=by apply Tz;simpa [mH] using qd ha hc1
  have e2:a2=mH bs:=by apply Tz;simpa [mH] using qd hb hc2
  subst e1;subst e2
  refine⟨_,?_,rfl⟩
  have:=Ji (P:=P) (t:=t) h1 h2 w .eql (.inl rfl) x y
  simp only[Sem.run_bind,if_true] at this
  simp only[execOp,hu1,hu2,Sem.run_bind]
  generalize (eqGuard BinOp.eql t x y (Value.agg (mH as)) (Value.agg (mH bs))).run P w=q at*
  cases q with
  |ok a w'=>simp only[Result.andThen_ok] at this ⊢;rw[this];rfl
  |halt a w'=>simp[Result.andThen] at this
theorem n_sne {t t':TypeId} {ss:List Sh} [h:TyEq P t ss] {cs ds:List C} {as bs:List D} (ha:mE cs=some as) (hb:mE ds=some bs) (h1:shB ss as=true) (h2:shB ss bs=true):
 AWN P ⟨some d,.binOp .neq t x y t',ty,ps,af,gd⟩ [(x,.v (.agg cs)),(y,.v (.agg ds))] [] (tB (!pT as bs)) []:=
 bY fun E ac w hn _=>by
  obtain⟨a1,hu1,hc1⟩:=hn x _ (.head _)
  obtain⟨a2,hu2,hc2⟩:=hn y _ (.tail _ (.head _))
  have e1:a1=mH as:=by apply Tz;simpa [mH] using qd ha hc1
  have e2:a2=mH bs:=by apply Tz;simpa [mH] using qd hb hc2
  subst e1;subst e2
  refine⟨_,?_,rfl⟩
  have:=Ji (P:=P) (t:=t) h1 h2 w .neq (.inr rfl) x y
  simp only[Sem.run_bind,reduceCtorEq,if_false] at this
  simp only[execOp,hu1,hu2,Sem.run_bind]
  generalize (eqGuard BinOp.neq t x y (Value.agg (mH as)) (Value.agg (mH bs))).run P w=q at*
  cases q with
  |ok a w'=>simp only[Result.andThen_ok] at this ⊢;rw[this];rfl
  |halt a w'=>simp[Result.andThen] at this
theorem qe {t t':TypeId} {ss:List Sh} {cs ds:List C} {as bs:List D} [TyEq P t ss] (hx:opT sl x= .v (.agg cs)) (hy:opT sl y= .v (.agg ds)) (hN:nlt d N=true) (ha:mE cs=some as) (hb:mE ds=some bs) (h1:shB ss as=true) (h2:shB ss bs=true):
 NS0 P N ⟨some d,.binOp .eql t x y t',ty,ps,af,gd⟩ sl ob nx d (tB (pT as bs)) ⟨d,[(x,.v (.agg cs)),(y,.v (.agg ds))],[],tB (pT as bs),[]⟩:=cV (st:=⟨sl,ob,nx⟩) (n_seq ha hb h1 h2) rfl hN ⟨hx,hy,trivial⟩ trivial rfl
theorem qn {t t':TypeId} {ss:List Sh} {cs ds:List C} {as bs:List D} [TyEq P t ss] (hx:opT sl x= .v (.agg cs)) (hy:opT sl y= .v (.agg ds)) (hN:nlt d N=true) (ha:mE cs=some as) (hb:mE ds=some bs) (h1:shB ss as=true) (h2:shB ss bs=true):
 NS0 P N ⟨some d,.binOp .neq t x y t',ty,ps,af,gd⟩ sl ob nx d (tB (!pT as bs)) ⟨d,[(x,.v (.agg cs)),(y,.v (.agg ds))],[],tB (!pT as bs),[]⟩:=cV (st:=⟨sl,ob,nx⟩) (n_sne ha hb h1 h2) rfl hN ⟨hx,hy,trivial⟩ trivial rfl
end
end Go.AM
namespace Go.AM
open Go.RowKit
def cpL {α:Type} (els ys:List α):List α:=ys.take els.length++els.drop ys.length
@[simp] theorem cpL_len {α:Type} (els ys:List α):(cpL els ys).length=els.length:=by simp[cpL];omega
section
variable {P:Program} {N:Nat} {d:Tmp} {ty:TypeId} {ps:String} {af:Array Edge} {gd:Option (Nat×Bool)} {x y z:Operand} {st:St}
def ro:List D→Bool
 |[]=>true
 | .l _::_=>false
 |_::xs=>ro xs
theorem vz {w:World} {F F':Nat→Prop}:∀{e:List D} {b k:Nat},ro e=true→rdL w F e b k→rdL w F' e b k
 |[],_,_,_,_=>by simp[rdL]
 | .i k' n::xs,b,k,h,hr=>by
  rw[rdL] at hr ⊢
  exact⟨by obtain⟨u,h1,h2⟩:=hr.1;exact⟨u,h1,by simpa [rdD] using h2⟩,vz (by simpa [ro] using h) hr.2⟩
 | .b n::xs,b,k,h,hr=>by
  rw[rdL] at hr ⊢
  exact⟨by obtain⟨u,h1,h2⟩:=hr.1;exact⟨u,h1,by simpa [rdD] using h2⟩,vz (by simpa [ro] using h) hr.2⟩
 | .str n::xs,b,k,h,hr=>by
  rw[rdL] at hr ⊢
  exact⟨by obtain⟨u,h1,h2⟩:=hr.1;exact⟨u,h1,by simpa [rdD] using h2⟩,vz (by simpa [ro] using h) hr.2⟩
 | .k _ _ _::xs,b,k,h,hr=>by
  rw[rdL] at hr ⊢
  exact⟨by obtain⟨u,h1,h2⟩:=hr.1;exact⟨u,h1,by simpa [rdD] using h2⟩,vz (by simpa [ro] using h) hr.2⟩
 | .l _::_,_,_,h,_=>by simp[ro] at h
theorem tx {w:World} {F F':Nat→Prop}:∀{es:List (List D)} {b k:Nat},(∀e∈es,ro e=true)→rdLL w F es b k→rdLL w F' es b k
 |[],_,_,_,_=>by simp[rdLL]
 |e::es,b,k,h,hr=>by
  rw[rdLL] at hr ⊢
  exact⟨vz (h e (by simp)) hr.1,tx (fun x hx=>h x (by simp[hx])) hr.2⟩
theorem jU {α:Type} {enc:α→List D} {sl:List (Nat×T)} {ob:List (Nat×Ob)} {nx o t sz:Nat} {ys:List α} {g:Bool} (ho:go ob o=some (.row t sz (ys.map enc) g true):=by exact rfl) (hf:∀a,ro (enc a)=true:=by exact fun _=>rfl):
 cZ N ⟨sl,ob,nx⟩ ⟨sl,(o,.row t sz (ys.map enc) true true)::ob,nx⟩:=by
 intro cx E a w hR
 refine⟨E,hR.ok,hR.dom,fun l x hl=>?_,hR.sl,hR.dfr,hR.size,hR.td⟩
 by_cases hlo:o=l
 ·subst hlo
  rw[b8] at hl;cases hl
  obtain⟨b,c,arr,h1,h2,h3,h4,h5,h6,h7,h8,h9⟩:=hR.obs _ _ ho
  exact⟨b,c,arr,h1,h2,h3,h4,h5,h6,tx (fun e he=>by obtain⟨a,_,rfl⟩:=List.mem_map.1 he;exact hf a) h7,h8,fun h=>by cases h⟩
 ·rw[bu _ _ hlo] at hl;exact hR.obs l x hl
end
end Go.AM
namespace Go.AM
open Go.RowKit
def wU (k:IntKind) (x y:Int):Int:=k.wrap (BitVec.ofInt k.bits x&&& BitVec.ofInt k.bits y).toNat
def bOr (k:IntKind) (x y:Int):Int:=k.wrap (BitVec.ofInt k.bits x|||BitVec.ofInt k.bits y).toNat
def Er (k:IntKind) (x y:Int):Int:=k.wrap (BitVec.ofInt k.bits x^^^BitVec.ofInt k.bits y).toNat
def tl (k:IntKind) (x y:Int):Int:=k.wrap (BitVec.ofInt k.bits x&&& ~~~(BitVec.ofInt k.bits y)).toNat
def jZ (k:IntKind) (x y:Int):Int:=k.wrap (x*2^(min y.toNat k.bits))
def A5 (k:IntKind) (x y:Int):Int:=x.fdiv (2^(min y.toNat k.bits))
def Lq (op:BinOp) (k:IntKind) (a b:Int):Option Int:=
 match op with
 | .and=>some (wU k a b)
 | .or=>some (bOr k a b)
 | .xor=>some (Er k a b)
 | .andNot=>some (tl k a b)
 |_=>none
def Pv (op:BinOp) (k:IntKind) (a b:Int):Option Int:=
 match op with
 | .shl=>some (jZ k a b)
 | .shr=>some (A5 k a b)
 |_=>none
section
variable {P:Program} {N:Nat} {d:Tmp} {ty:TypeId} {ps:String} {af:Array Edge} {gd:Option (Nat×Bool)} {x y z:Operand} {sl:List (Nat×T)} {ob:List (Nat×Ob)} {nx:Nat}
theorem n_bit {op:BinOp} {t t':TypeId} {g g':Bool} {k:IntKind} {a b r:Int} (h:Lq op k a b=some r):
 AWN P ⟨some d,.binOp op t x y t',ty,ps,af,gd⟩ [(x,.v (.c (.d g (.i k a)))),(y,.v (.c (.d g' (.i k b))))] [] (.v (.c (.d false (.i k r)))) []:=
 bY fun E ac w hn _=>by
  have h1:=fY (hn x _ (.head _))
  have h2:=fY (hn y _ (.tail _ (.head _)))
  cases op<;>simp only[Lq,Option.some.injEq,reduceCtorEq] at h<;>subst h<;>
   exact⟨_,by simp[execOp,h1,h2,eqGuard,binOp,Op.intBits];rfl,by simp[cvT,cvV,cvC,rdD,wU,bOr,Er,tl]⟩
theorem n_sh {op:BinOp} {t t':TypeId} {g g':Bool} {k k':IntKind} {a b r:Int} (h0:0≤b) (h:Pv op k a b=some r):
 AWN P ⟨some d,.binOp op t x y t',ty,ps,af,gd⟩ [(x,.v (.c (.d g (.i k a)))),(y,.v (.c (.d g' (.i k' b))))] [] (.v (.c (.d false (.i k r)))) []:=
 bY fun E ac w hn _=>by
  have h1:=fY (hn x _ (.head _))
  have h2:=fY (hn y _ (.tail _ (.head _)))
  have h0':¬b<0:=by omega
  cases op<;>simp only[Pv,Option.some.injEq,reduceCtorEq] at h<;>subst h<;>
   exact⟨_,by simp[execOp,h1,h2,eqGuard,binOp,Op.shift,h0'];rfl,by simp[cvT,cvV,cvC,rdD,jZ,A5]⟩
theorem ib {op:BinOp} {t t':TypeId} {g g':Bool} {k:IntKind} {a b r:Int} (hx:opT sl x= .v (.c (.d g (.i k a)))) (hy:opT sl y= .v (.c (.d g' (.i k b)))) (hN:nlt d N=true) (h:Lq op k a b=some r):
 NS0 P N ⟨some d,.binOp op t x y t',ty,ps,af,gd⟩ sl ob nx d (.v (.c (.d false (.i k r)))) ⟨d,[(x,.v (.c (.d g (.i k a)))),(y,.v (.c (.d g' (.i k b))))],[],.v (.c (.d false (.i k r))),[]⟩:=cV (st:=⟨sl,ob,nx⟩) (n_bit h) rfl hN ⟨hx,hy,trivial⟩ trivial rfl
theorem G1 {op:BinOp} {t t':TypeId} {g g':Bool} {k k':IntKind} {a b r:Int} (h0:leB 0 b=true) (hx:opT sl x= .v (.c (.d g (.i k a)))) (hy:opT sl y= .v (.c (.d g' (.i k' b)))) (hN:nlt d N=true) (h:Pv op k a b=some r):
 NS0 P N ⟨some d,.binOp op t x y t',ty,ps,af,gd⟩ sl ob nx d (.v (.c (.d false (.i k r)))) ⟨d,[(x,.v (.c (.d g (.i k a)))),(y,.v (.c (.d g' (.i k' b))))],[],.v (.c (.d false (.i k r))),[]⟩:=cV (st:=⟨sl,ob,nx⟩) (n_sh (by simpa [leB] using h0) h) rfl hN ⟨hx,hy,trivial⟩ trivial rfl
theorem ishL {op:BinOp} {t t':TypeId} {g g':Bool} {k k':IntKind} {a r:Int} {b:Nat} (hx:opT sl x= .v (.c (.d g (.i k a)))) (hy:opT sl y= .v (.c (.d g' (.i k' (b:Int))))) (hN:nlt d N=true) (h:Pv op k a b=some r):
 NS0 P N ⟨some d,.binOp op t x y t',ty,ps,af,gd⟩ sl ob nx d (.v (.c (.d false (.i k r)))) ⟨d,[(x,.v (.c (.d g (.i k a)))),(y,.v (.c (.d g' (.i k' (b:Int)))))],[],.v (.c (.d false (.i k r))),[]⟩:=cV (st:=⟨sl,ob,nx⟩) (n_sh (by omega) h) rfl hN ⟨hx,hy,trivial⟩ trivial rfl
end
end Go.AM
namespace Go.AM
open Go.RowKit
def E0 (b c:Nat) (F:Nat→Prop):Env:={r:=fun o=>if o=200 then some (b,c) else none,F:=F,G:=fun _=>False}
def E1 (b c:Nat) (F G:Nat→Prop):Env:={r:=fun o=>if o=200 then some (b,c) else none,F:=fun x=>F x∨G x,G:=G}
def TV (E:Env) (w:World):List T→List Value→Prop
 |[],[]=>True
 |t::ts,u::us=>cvT E w t u∧TV E w ts us
 |_,_=>False
structure FnW (P:Program) (f:FuncId) (x:Ob) (args:List T) (y:Ob) (res:List RV):Prop where
 enters:∀(vs:Array Value) (w:World),(callFunc f vs).run P w= .ok (.enter f vs) w
 calls:∀(F:Nat→Prop) (w:World) (vals:Array Value) (b c:Nat),(∀b,F b→b<w.heap.size)→b<w.heap.size→TabsIn w→(∀k∈qO,k≠b)→co (E0 b c F) w 200 x→TV (E0 b c F) w args vals.toList→
  Calls P f vals w fun e w'=>∃v G bs,e= .returned v∧CG w w' (fun k=>k=b)∧(∀k,G k→w.heap.size≤k∧k<w'.heap.size∧gA w' k)∧uQ w' G w.heap.size res v bs∧(bs.map (·.1)).Nodup∧co (E1 b c F G) w' 200 y
def C.free:C→Bool
 | .d _ _| .nil| .any| .fn _=>true
 |_=>false
def Ob.free:Ob→Bool
 | .var _ cs=>cs.all C.free
 | .row _ _ _ _ m=>m
 | .rown .. | .abs .. =>false
theorem Lw {E E':Env} {w w':World} (hH:∀g b,E.H g b→E'.H g b) (hh:∀g b,E.H g b→w'.heap[b]?=w.heap[b]?):∀{c:C} {u:Value},c.free=true→cvC E w c u→cvC E' w' c u
 | .d g d,u,_,h=>ci (hh g) (hH g) d u h
 | .fn f,u,_,h=>h
 | .nil,u,_,h=>h
 | .any,u,_,_=>trivial
theorem CA {E E':Env} {w w':World} (hH:∀g b,E.H g b→E'.H g b) (hh:∀g b,E.H g b→w'.heap[b]?=w.heap[b]?):∀{cs:List C} {us:List Value},cs.all C.free=true→CV E w cs us→CV E' w' cs us
 |[],[],_,_=>trivial
 |c::cs,u::us,hf,h=>by
  simp only[Su,hV] at hf
  exact⟨Lw hH hh hf.1 h.1,CA hH hh hf.2 h.2⟩
 |[],_::_,_,h=>h.elim
 |_::_,[],_,h=>h.elim
theorem uP {E E':Env} {w w':World} {o o':Nat} {x:Ob} (hf:x.free=true) (hr:∀b c,E.r o=some (b,c)→E'.r o'=some (b,c)) (hH:∀g b,E.H g b→E'.H g b) (hh:∀g b,E.H g b→w'.heap[b]?=w.heap[b]?)
 (hb:∀b c,E.r o=some (b,c)→w'.heap[b]?=w.heap[b]?) (hF:∀b c,E.r o=some (b,c)→¬E.F b→¬E'.F b) (h:co E w o x):co E' w' o' x:=by
 cases x with
 |rown ty sz els g=>exact absurd hf Tt
 |abs l y=>exact absurd hf Tt
 |var ty cs=>
  obtain⟨b,c,arr,h1,h2,h3,h4⟩:=h
  exact⟨b,c,arr,hr b c h1,(hb b c h1).trans h2,CA hH hh hf h3,hF b c h1 h4⟩
 |row ty sz els g m=>
  obtain⟨b,c,arr,h1,h2,h3,h4,h5,h6,h7,h8,h9⟩:=h
  have hm:m=true:=hf
  subst hm
  exact⟨b,c,arr,hr b c h1,(hb b c h1).trans h2,h3,h4,h5,h6,cd (hh g) (hH g) (hb b c h1) _ _ h7,fun _=>hF b c h1 (h8 rfl),fun h=>by cases h⟩
def C.loc:C→C
 | .d _ x=>.d false x
 |c=>c
def Ob.loc:Ob→Ob
 | .var ty cs=>.var ty (cs.map C.loc)
 | .row ty sz els _ m=>.row ty sz els false m
 | .rown ty sz els _=>.rown ty sz els false
 | .abs l y=>.abs l y
theorem Oq {cx:Cx} {E:Env} {w:World} (ok:cK cx E w) {c:C} {u:Value} (h:cvC E w c u):cvC E w c.loc u:=by
 cases c with
 |d g x=>exact oN (g':=false) ok h (by simp)
 |_=>exact h
theorem KZ {cx:Cx} {E:Env} {w:World} (ok:cK cx E w):∀{cs:List C} {us:List Value},CV E w cs us→CV E w (cs.map C.loc) us
 |[],[],_=>trivial
 |c::cs,u::us,h=>⟨Oq ok h.1,KZ ok h.2⟩
 |[],_::_,h=>h.elim
 |_::_,[],h=>h.elim
theorem Cc {cx:Cx} {E:Env} {w:World} (ok:cK cx E w) {o:Nat} {x:Ob} (hf:x.free=true) (h:co E w o x):co E w o x.loc:=by
 cases x with
 |rown ty sz els g=>exact absurd hf Tt
 |abs l y=>exact absurd hf Tt
 |var ty cs=>
  obtain⟨b,c,arr,h1,h2,h3,h4⟩:=h
  exact⟨b,c,arr,h1,h2,KZ ok h3,h4⟩
 |row ty sz els g m=>
  obtain⟨b,c,arr,h1,h2,h3,h4,h5,h6,h7,h8,h9⟩:=h
  have hm:m=true:=hf
  subst hm
  refine⟨b,c,arr,h1,h2,h3,h4,h5,h6,?_,h8,fun h=>by cases h⟩
  cases g with
  |false=>exact h7
  |true=>exact cd (fun _ _=>rfl) (fun b hb=>ok.gf b hb) rfl _ _ h7
def rQ:Nat→List T→List (Nat×T)
 |_,[]=>[]
 |k,t::ts=>(k,t)::rQ (k+1) ts
theorem yz {E:Env} {w:World}:∀{ts:List T} {us:List Value} (k0:Nat),TV E w ts us→us.length=ts.length∧∀k,(k0≤k∧k<k0+ts.length→∃u,us[k-k0]?=some u∧cvT E w (gt (rQ k0 ts) k) u)∧(¬(k0≤k∧k<k0+ts.length)→gt (rQ k0 ts) k= .any)
 |[],[],k0,_=>⟨rfl,fun k=>⟨fun h=>by simp at h;omega,fun _=>rfl⟩⟩
 |t::ts,u::us,k0,h=>by
  obtain⟨h1,h2⟩:=yz (k0+1) h.2
  refine⟨by simp[h1],fun k=>⟨fun hk=>?_,fun hk=>?_⟩⟩
  ·by_cases e:k0=k
   ·subst e;exact⟨u,by simp,by rw[rQ,dJ];exact h.1⟩
   ·obtain⟨v,k1,k2⟩:=(h2 k).1 (by simp at hk;omega)
    refine⟨v,?_,by rw[rQ,cN _ _ e];exact k2⟩
    rw[show k-k0=(k-(k0+1))+1 from by simp at hk;omega];simpa using k1
  ·simp at hk
   rw[rQ,cN _ _ (by omega)]
   exact(h2 k).2 (by omega)
 |[],_::_,_,h=>h.elim
 |_::_,[],_,h=>h.elim
theorem EO {ob:List (Nat×Ob)} {c:C} {r:RC} {ls:List Nat} (h:rX ob c=some (r,ls)):∀l∈ls,∃ty sz els,go ob l=some (.row ty sz els true true):=by
 cases c with
 |d g x=>cases x<;>(try cases g)<;>simp[rX] at h<;>obtain⟨rfl,rfl⟩:=h<;>simp
 |w o n=>
  simp only[rX] at h
  split at h
  ·rename_i ty sz els ho hrv
   simp at h;obtain⟨rfl,rfl⟩:=h
   simpa using⟨ty,sz,els,ho⟩
  ·cases h
 |nil=>simp[rX] at h;obtain⟨rfl,rfl⟩:=h;simp
 |_=>simp[rX] at h
theorem BL {ob:List (Nat×Ob)}:∀{cs:List C} {rs:List RC} {ls:List Nat},xK ob cs=some (rs,ls)→∀l∈ls,∃ty sz els,go ob l=some (.row ty sz els true true)
 |[],rs,ls,h=>by simp[xK] at h;obtain⟨rfl,rfl⟩:=h;simp
 |c::cs,rs,ls,h=>by
  simp only[xK] at h
  split at h
  ·rename_i r l rs' ls' h1 h2
   simp at h;obtain⟨rfl,rfl⟩:=h
   intro x hx
   rcases List.mem_append.1 hx with hx|hx
   ·exact EO h1 x hx
   ·exact BL h2 x hx
  ·cases h
theorem LV {ob:List (Nat×Ob)} {v:V} {r:RV} {ls:List Nat} (h:GV ob v=some (r,ls)):∀l∈ls,∃ty sz els,go ob l=some (.row ty sz els true true):=by
 cases v with
 |c c=>
  simp only[GV] at h
  split at h
  ·rename_i r l h1;simp at h;obtain⟨rfl,rfl⟩:=h;exact EO h1
  ·cases h
 |agg cs=>
  simp only[GV] at h
  split at h
  ·rename_i r l h1;simp at h;obtain⟨rfl,rfl⟩:=h;exact BL h1
  ·cases h
theorem BM {ob:List (Nat×Ob)}:∀{cs:List V} {rs:List RV} {ls:List Nat},uj ob cs=some (rs,ls)→∀l∈ls,∃ty sz els,go ob l=some (.row ty sz els true true)
 |[],rs,ls,h=>by simp[uj] at h;obtain⟨rfl,rfl⟩:=h;simp
 |c::cs,rs,ls,h=>by
  simp only[uj] at h
  split at h
  ·rename_i r l rs' ls' h1 h2
   simp at h;obtain⟨rfl,rfl⟩:=h
   intro x hx
   rcases List.mem_append.1 hx with hx|hx
   ·exact LV h1 x hx
   ·exact BM h2 x hx
  ·cases h
theorem OI {P:Program} {N:Nat} {cx:Cx} {E:Env} {st:St} {a:Act} {w:World} (hR:Rel N cx E st a w) {fn:Func} {res:List RV} (h:Fin P fn.results.toList res st):
 ∃v bs,(results fn a.tmps).run P w= .ok v w∧uQ w E.G cx.w0.heap.size res v bs∧(bs.map (·.1)).Nodup∧∀p∈bs,¬E.F p.1:=by
 obtain⟨vs,ls,h1,h2,h3⟩:=h
 obtain⟨us,k1,k2⟩:=rN hR h1
 obtain⟨bs,m1,m2,m3⟩:=zw hR h2 k2
 have hnd:(bs.map (·.1)).Nodup:=by
  have hnl:=ig h3
  refine List.pairwise_iff_getElem.2 fun i j hi hj hij he=>?_
  simp only[To] at hi hj
  obtain⟨p,p1,p2⟩:=m3 i ls[i] (v0 (by omega))
  obtain⟨q,q1,q2⟩:=m3 j ls[j] (v0 (by omega))
  rw[v0 hi] at p1
  rw[v0 hj] at q1
  cases p1;cases q1
  simp only[List.getElem_map] at he
  rcases hbi:bs[i] with⟨b1,c1⟩
  rcases hbj:bs[j] with⟨b2,c2⟩
  rw[hbi,hbj] at he
  rw[hbi] at p2;rw[hbj] at q2
  have hb:b1=b2:=he
  subst hb
  exact List.pairwise_iff_getElem.1 hnl i j (by omega) (by omega) hij (hR.ok.inj _ _ _ _ _ p2 q2)
 have hnF:∀p∈bs,¬E.F p.1:=by
  intro p hp
  obtain⟨i,hi,rfl⟩:=List.getElem_of_mem hp
  have hl:i<ls.length:=by omega
  obtain⟨q,q1,q2⟩:=m3 i ls[i] (v0 hl)
  rw[v0 hi] at q1;cases q1
  obtain⟨ty,sz,els,hg⟩:=BM h2 ls[i] (List.getElem_mem hl)
  obtain⟨b,c,arr,r1,r2,r3,r4,r5,r6,r7,r8,r9⟩:=hR.obs _ _ hg
  rw[q2] at r1
  rw[Option.some.inj r1]
  exact r8 rfl
 have hm:(fn.results.mapM (jK a.tmps)).run P w= .ok us.toArray w:=by
  rw[←Array.toArray_toList (xs:=fn.results),List.mapM_toArray]
  simp only[Sem.run_map,k1]
  rfl
 have hres:results fn a.tmps=(fn.results.mapM (jK a.tmps))>>= fun vs=>pure (if h:vs.size=1 then vs[0] else .tuple vs):=rfl
 have hlen:us.length=vs.length:=by
  have key:∀(vs:List V) (us:List Value),VV E w vs us→us.length=vs.length:=by
   intro vs
   induction vs with
   |nil=>intro us h;cases us with
    |nil=>rfl
    |cons _ _=>exact h.elim
   |cons v vs ih=>intro us h;cases us with
    |nil=>exact h.elim
    |cons u us=>simp[ih us h.2]
  exact key vs us k2
 have hlen2:us.length=res.length:=by
  have key:∀(rs:List RV) (us:List Value) (bs:List (Nat×Nat)),yq w E.G cx.w0.heap.size rs us bs→us.length=rs.length:=by
   intro rs
   induction rs with
   |nil=>intro us bs h;cases us with
    |nil=>rfl
    |cons _ _=>exact h.elim
   |cons v vs ih=>intro us bs h;cases us with
    |nil=>exact h.elim
    |cons u us=>obtain⟨b1,b2,_,_,h⟩:=h;simp[ih us b2 h]
  exact key res us bs m1
 match res,us,m1,hlen2 with
 |[],[],m1,_=>exact⟨.tuple #[],bs,by rw[hres];simp[hm],⟨#[],rfl,m1⟩,hnd,hnF⟩
 |[r],[u],m1,_=>
  obtain⟨b1,b2,rfl,h4,h5⟩:=m1
  have:b2=[]:=h5
  subst this
  exact⟨u,b1++[],by rw[hres];simp[hm],by simpa [uQ] using h4,hnd,hnF⟩
 |r1::r2::rs,u1::u2::us,m1,_=>
  exact⟨.tuple (u1::u2::us).toArray,bs,by rw[hres];simp[hm],⟨_,rfl,m1⟩,hnd,hnF⟩
theorem FK {w:World} {G G2:Nat→Prop} {base:Nat} (hG:∀b,G b→G2 b) {r:RC} {u:Value} {bs:List (Nat×Nat)} (h:rcR w G base r u bs) (hn:∀p∈bs,¬G2 p.1):rcR w G2 base r u bs:=by
 cases r with
 |d x=>exact⟨h.1,ci (fun _ _=>rfl) hG x u h.2⟩
 |own ty sz els n=>
  obtain⟨b,c,arr,h1,h2,h3,h4,h5,h6,h7,h8,h9,h10⟩:=h
  exact⟨b,c,arr,h1,h2,h3,h4,h5,h6,h7,cd (fun _ _=>rfl) hG rfl _ _ h8,hn (b,c) (by rw[h1];simp),h10⟩
 |nil=>exact h
theorem B8 {w:World} {G G2:Nat→Prop} {base:Nat} (hG:∀b,G b→G2 b):∀{rs:List RC} {us:List Value} {bs:List (Nat×Nat)},Bi w G base rs us bs→(∀p∈bs,¬G2 p.1)→Bi w G2 base rs us bs
 |[],[],bs,h,_=>h
 |r::rs,u::us,bs,h,hn=>by
  obtain⟨b1,b2,rfl,h1,h2⟩:=h
  exact⟨b1,b2,rfl,FK hG h1 (fun p hp=>hn p (by simp[hp])),B8 hG h2 (fun p hp=>hn p (by simp[hp]))⟩
 |[],_::_,_,h,_=>h.elim
 |_::_,[],_,h,_=>h.elim
theorem FV {w:World} {G G2:Nat→Prop} {base:Nat} (hG:∀b,G b→G2 b) {r:RV} {u:Value} {bs:List (Nat×Nat)} (h:rvR w G base r u bs) (hn:∀p∈bs,¬G2 p.1):rvR w G2 base r u bs:=by
 cases r with
 |c r=>exact FK hG h hn
 |agg rs=>obtain⟨arr,h1,h2⟩:=h;exact⟨arr,h1,B8 hG h2 hn⟩
theorem xl {w:World} {G G2:Nat→Prop} {base:Nat} (hG:∀b,G b→G2 b):∀{rs:List RV} {us:List Value} {bs:List (Nat×Nat)},yq w G base rs us bs→(∀p∈bs,¬G2 p.1)→yq w G2 base rs us bs
 |[],[],bs,h,_=>h
 |r::rs,u::us,bs,h,hn=>by
  obtain⟨b1,b2,rfl,h1,h2⟩:=h
  exact⟨b1,b2,rfl,FV hG h1 (fun p hp=>hn p (by simp[hp])),xl hG h2 (fun p hp=>hn p (by simp[hp]))⟩
 |[],_::_,_,h,_=>h.elim
 |_::_,[],_,h,_=>h.elim
theorem Ky {w:World} {G G2:Nat→Prop} {base:Nat} (hG:∀b,G b→G2 b) {rs:List RV} {u:Value} {bs:List (Nat×Nat)} (h:uQ w G base rs u bs) (hn:∀p∈bs,¬G2 p.1):uQ w G2 base rs u bs:=by
 match rs,h with
 |[],h=>obtain⟨arr,h1,h2⟩:=h;exact⟨arr,h1,xl hG h2 hn⟩
 |[r],h=>exact FV hG h hn
 |_::_::_,h=>obtain⟨arr,h1,h2⟩:=h;exact⟨arr,h1,xl hG h2 hn⟩
def Ej (N:Nat) (P:Program) (rs:List ResultVar) (res:List RV) (y:Ob):Exit→St→Prop
 | .ret,s| .normal,s=>∃s',cZ N s s'∧Fin P rs res s'∧go s'.ob 200=some y
 |_,_=>False
instance {N:Nat} {P:Program} {rs:List ResultVar} {res:List RV} {y:Ob}:Clo N (Ej N P rs res y):=⟨fun e s m hw h=>by
 cases e<;>simp only[Ej] at h ⊢<;>first|exact h|(obtain⟨s',h1,h2⟩:=h;exact⟨s',aq hw h1,h2⟩)⟩
theorem QB {P:Program} {f:FuncId} {fn:Func} {c:Code} {N:Nat} {x y:Ob} {args:List T} {rs:List ResultVar} {res:List RV} {sl0:List (Nat×T)} (hf:P.funcs[f]?=some fn) (hb:fn.body=some c:=by exact rfl) (hnm:(fn.name== "runtime.NumGoroutine")=false:=by kernel_rfl) (hN:fn.ntmps=N) (hrs:fn.results.toList=rs:=by exact rfl)
 (ha:Sl args.length N=true:=by exact rfl) (hfx:x.free=true:=by exact rfl) (hfy:y.free=true:=by exact rfl) (hs:rQ 0 args=sl0:=by exact rfl) (h:AWC P N c ⟨sl0,[(200,x)],210⟩ (Ej N P rs res y)):FnW P f x args y res:=by
 subst hs
 refine⟨fun vs w=>by simp[callFunc,hf,hb];simpa using hnm,fun F w vals b cc hF hbl hT hTb hx hA=>?_⟩
 subst hrs
 refine calls_of_wp hf hb ?_
 obtain⟨h1,h2⟩:=yz 0 hA
 have hle:args.length≤N:=Tu ha
 have hsz:vals.size=args.length:=by simpa using h1
 have hrv:rsv 200=true:=rfl
 have hrp:rsp 200=true:=rfl
 have hbF:¬F b:=by
  cases x with
  |rown ty sz els g=>exact absurd hfx Tt
  |abs l y=>exact absurd hfx Tt
  |var ty cs=>obtain⟨b',c',arr,h1,h2,h3,h4⟩:=hx;cases h1;exact h4
  |row ty sz els g m=>
   obtain⟨b',c',arr,h1,h2,h3,h4,h5,h6,h7,h8,h9⟩:=hx
   cases h1
   have hm:m=true:=hfx
   subst hm
   exact h8 rfl
 have hr0:∀o p,(E0 b cc F).r o=some p→o=200∧p=(b,cc):=fun o p h=>by
  simp only[E0] at h
  split at h
  ·cases h;exact⟨by assumption,rfl⟩
  ·cases h
 have hR:Rel N ⟨w,fun k=>k=b,(E0 b cc F).r,F,fun _=>False,⟨hT,hTb⟩,fun _=>False⟩ (E0 b cc F) ⟨rQ 0 args,[(200,x)],210⟩ {tmps:=vals++SR (fn.ntmps-vals.size) undef,defers:=[]} w:=by
  refine⟨⟨hF,fun _ h=>h.elim,fun _ h=>h.elim,fun o k k' h=>?_,fun o o' k k' k'' h h'=>?_,rfl,rfl,rfl,RX _,fun _ _ _=>rfl,fun _ _ _ h=>h,fun _ h=>.inl h,fun b h h'=>absurd (hF b h) (by have:w.heap.size≤b:=h';omega),⟨fun _ _ h=>h.elim,fun _ _ _ h=>h.elim,fun _ h=>h.elim,fun _ h=>h.elim,fun _ h=>h.elim⟩⟩,fun o p h=>?_,fun o ob h=>?_,fun k=>?_,rfl,by simp;omega,fun _ _ h=>h.elim⟩
  ·obtain⟨rfl,hp⟩:=hr0 _ _ h;cases hp;exact⟨hbl,.inr ⟨rfl,hrv⟩⟩
  ·rw[(hr0 _ _ h).1,(hr0 _ _ h').1]
  ·rw[(hr0 _ _ h).1];exact(by decide:200<210)
  ·by_cases e:200=o
   ·subst e;rw[b8] at h;cases h;exact hx
   ·rw[bu _ _ e] at h;cases h
  ·by_cases hk:k<args.length
   ·obtain⟨u,h3,h4⟩:=(h2 k).1 ⟨Ta _,by omega⟩
    have:(vals++SR (fn.ntmps-vals.size) undef).getD k undef=u:=by
     have h5:vals[k]?=some u:=by simpa using h3
     have h6:(vals++SR (fn.ntmps-vals.size) undef)[k]?=some u:=by rw[Array.getElem?_append_left (by omega)];exact h5
     simp[h6]
    rw[this];exact h4
   ·have:=(h2 k).2 (by omega)
    show cvT _ w (gt (rQ 0 args) k) _
    rw[this];trivial
 refine wp_mono (h _ _ _ w hR) ?_
 rintro e a' w' ⟨E',s',hR',hq⟩
 have fin:(∃s'',cZ N s' s''∧Fin P fn.results.toList res s''∧go s''.ob 200=some y)→
  a'.defers=[]∧∃v,(results fn a'.tmps).run P w'= .ok v w'∧∃v' G bs,Ending.returned v= .returned v'∧CG w w' (fun k=>k=b)∧(∀k,G k→w.heap.size≤k∧k<w'.heap.size∧gA w' k)∧uQ w' G w.heap.size res v' bs∧(bs.map (·.1)).Nodup∧co (E1 b cc F G) w' 200 y:=by
  rintro⟨s'',hw,hfin,hgo⟩
  obtain⟨E'',hR''⟩:=hw _ _ _ _ hR'
  obtain⟨v,bs,k1,k2,k3,k4⟩:=OI hR'' hfin
  have ok:=hR''.ok
  refine⟨hR''.dfr,v,k1,v,fun k=>E''.F k∧w.heap.size≤k,bs,rfl,⟨ok.os,ok.tape,ok.output,ok.size,ok.block⟩,fun k hk=>⟨hk.2,ok.fb k hk.1,ok.gc k hk.1 hk.2⟩,Ky (fun k hk=>⟨ok.gf k hk,(ok.gn k hk).resolve_right id⟩) k2 (fun p hp hg=>k4 p hp hg.1),k3,?_⟩
  refine uP hfy (fun k c hk=>?_) (fun g k hk=>?_) (fun _ _ _=>rfl) (fun _ _ _=>rfl) (fun k c hk hn hk'=>?_) (hR''.obs _ _ hgo)
  ·have:=ok.pin 200 _ hrp hk
   exact this
  ·cases g with
   |false=>
    rcases ok.ff k hk with h|h
    ·exact .inl h
    ·exact .inr ⟨hk,h⟩
   |true=>exact⟨ok.gf k hk,(ok.gn k hk).resolve_right id⟩
  ·rcases hk' with h|h
   ·have:=ok.pin 200 _ hrp hk
    have h9:=hr0 200 (k,c) this
    cases h9.2
    exact hbF h
   ·exact hn h.1
 cases e with
 |normal=>exact fin hq
 |ret=>exact fin hq
 |_=>exact hq.elim
def t9 (nob:List (Nat×Ob)) (o:Nat):C→Option (C×List (Nat×Nat))
 | .p l k=>bif d0 l o then some (.p 200 k,[]) else none
 | .w l n=>bif d0 l o then some (.w 200 n,[]) else match vm nob (.w l n) with
  |some (x,e)=>some (.d false x,e)
  |none=>none
 | .nil=>some (.nil,[])
 |c=>match vm nob c with
  |some (x,e)=>some (.d false x,e)
  |none=>none
def Fi (nob:List (Nat×Ob)) (o:Nat):List C→Option (List C×List (Nat×Nat))
 |[]=>some ([],[])
 |c::cs=>match t9 nob o c,Fi nob o cs with
  |some (x,e),some (xs,e')=>some (x::xs,e++e')
  |_,_=>none
def QN (nob:List (Nat×Ob)) (o:Nat):T→Option (T×List (Nat×Nat))
 | .v (.c c)=>match t9 nob o c with
  |some (x,e)=>some (.v (.c x),e)
  |none=>none
 | .v (.agg cs)=>match Fi nob o cs with
  |some (x,e)=>some (.v (.agg x),e)
  |none=>none
 |_=>none
def xN (nob:List (Nat×Ob)) (o:Nat):List T→Option (List T×List (Nat×Nat))
 |[]=>some ([],[])
 |c::cs=>match QN nob o c,xN nob o cs with
  |some (x,e),some (xs,e')=>some (x::xs,e++e')
  |_,_=>none
section
variable {cx:Cx} {E:Env} {w:World} {nob:List (Nat×Ob)} {o b c0:Nat} (ok:cK cx E w) (hob:∀l x,go nob l=some x→co E w l x) (hr:E.r o=some (b,c0))
include ok hob hr
theorem IJ {c:C} {x:C} {e:List (Nat×Nat)} {u:Value} (h:t9 nob o c=some (x,e)) (he:Eqs e) (hc:cvC E w c u):cvC (E0 b c0 (jd E nob)) w x u:=by
 have gen:∀{c x e},(match vm nob c with|some (x,e)=>some (C.d false x,e)|none=>none)=some (x,e)→Eqs e→cvC E w c u→cvC (E0 b c0 (jd E nob)) w x u:=by
  intro c x e h he hc
  split at h
  ·rename_i y e' h1
   simp at h;obtain⟨rfl,rfl⟩:=h
   exact yB ok hob h1 he hc
  ·cases h
 cases c with
 |p l k=>
  simp only[t9] at h
  cases hb:d0 l o with
  |false=>rw[hb] at h;cases h
  |true=>
   rw[hb] at h;simp at h;obtain⟨rfl,rfl⟩:=h
   have:=RU hb;subst this
   obtain⟨b',c',h1,h2⟩:=hc
   rw[hr] at h1;cases h1
   exact⟨b,c0,by simp[E0],h2⟩
 |w l n=>
  simp only[t9] at h
  cases hb:d0 l o with
  |false=>rw[hb] at h;exact gen h he hc
  |true=>
   rw[hb] at h;simp at h;obtain⟨rfl,rfl⟩:=h
   have:=RU hb;subst this
   obtain⟨b',c',h1,h2⟩:=hc
   rw[hr] at h1;cases h1
   exact⟨b,c0,by simp[E0],h2⟩
 |nil=>simp[t9] at h;obtain⟨rfl,rfl⟩:=h;exact hc
 |d g y=>exact gen (by simpa only[t9] using h) he hc
 |s o sz off len=>exact gen (by simpa only[t9] using h) he hc
 |e o sz i j=>exact gen (by simpa only[t9] using h) he hc
 |q g x j=>exact gen (by simpa only[t9] using h) he hc
 |fn f=>exact gen (by simpa only[t9] using h) he hc
 |any=>exact gen (by simpa only[t9] using h) he hc
 |r l x=>exact gen (by simpa only[t9] using h) he hc
 |z x=>exact gen (by simpa only[t9] using h) he hc
 |zq x j=>exact gen (by simpa only[t9] using h) he hc
 |wn l n=>exact gen (by simpa only[t9] using h) he hc
theorem Fj:∀{cs xs:List C} {e:List (Nat×Nat)} {us:List Value},Fi nob o cs=some (xs,e)→Eqs e→CV E w cs us→CV (E0 b c0 (jd E nob)) w xs us
 |[],xs,e,us,h,he,hc=>by simp[Fi] at h;obtain⟨rfl,rfl⟩:=h;cases us with
  |nil=>trivial
  |cons _ _=>exact hc.elim
 |c::cs,xs,e,us,h,he,hc=>by
  simp only[Fi] at h
  split at h
  ·rename_i x e1 xs' e2 h1 h2
   simp at h;obtain⟨rfl,rfl⟩:=h
   obtain⟨g1,g2⟩:=dZ he
   cases us with
   |nil=>exact hc.elim
   |cons u us=>exact⟨IJ ok hob hr h1 g1 hc.1,Fj h2 g2 hc.2⟩
  ·cases h
theorem OS {t t':T} {e:List (Nat×Nat)} {u:Value} (h:QN nob o t=some (t',e)) (he:Eqs e) (hc:cvT E w t u):cvT (E0 b c0 (jd E nob)) w t' u:=by
 unfold QN at h
 split at h
 ·split at h
  ·rename_i c x e' h1;simp at h;obtain⟨rfl,rfl⟩:=h;exact IJ ok hob hr h1 he hc
  ·cases h
 ·split at h
  ·rename_i cs x e' h1;simp at h;obtain⟨rfl,rfl⟩:=h
   obtain⟨arr,hu,hc⟩:=hc
   exact⟨arr,hu,Fj ok hob hr h1 he hc⟩
  ·cases h
 ·cases h
theorem zP {a:Act}:∀{ts ts':List T} {e:List (Nat×Nat)} {args:List Operand},xN nob o ts=some (ts',e)→Eqs e→ts.length=args.length→(∀x t,(x,t)∈args.zip ts→cvT E w t (a.eval x))→TV (E0 b c0 (jd E nob)) w ts' (args.map a.eval)
 |[],ts',e,args,h,he,hl,hn=>by
  simp[xN] at h;obtain⟨rfl,rfl⟩:=h
  cases args with
  |nil=>trivial
  |cons _ _=>simp at hl
 |t::ts,ts',e,args,h,he,hl,hn=>by
  simp only[xN] at h
  split at h
  ·rename_i x e1 xs' e2 h1 h2
   simp at h;obtain⟨rfl,rfl⟩:=h
   obtain⟨g1,g2⟩:=dZ he
   cases args with
   |nil=>simp at hl
   |cons y args=>exact⟨OS ok hob hr h1 g1 (hn y t (by simp)),zP h2 g2 (by simpa using hl) (fun x t hm=>hn x t (by simp[hm]))⟩
  ·cases h
end
theorem O6 {P:Program} {N:Nat} {d:Tmp} {ty:TypeId} {ps:String} {af:Array Edge} {gd:Option (Nat×Bool)} {f:FuncId} {args:List Operand} {tys:Array TypeId} {sl:List (Nat×T)} {ob:List (Nat×Ob)} {nx o:Nat} {x0 y:Ob} {ts ts':List T} {eqs:List (Nat×Nat)} {res:List RV} {out:T} {nw:List (Nat×Ob)} {n:Nat}
 (hF:FnW P f x0.loc ts' y res) (ht:xf sl args=some ts) (ho:go ob o=some x0) (hfx:x0.free=true) (hfy:y.free=true) (ha:xN [] o ts=some (ts',eqs)) (he:Eqs eqs) (hi:Bb nx res=some (out,nw,n)) (hw:He nx nw n=true) (hN:nlt d N=true):
 AWO P N ⟨some d,.call ⟨.value (.func f),args.toArray,tys⟩,ty,ps,af,gd⟩ ⟨sl,ob,nx⟩ ⟨(d,out)::sl,nw++(o,y)::ob,n⟩:=by
 intro cx E a w hR
 obtain⟨t1,t2⟩:=oL ht
 obtain⟨nob,hnob⟩:∃nob:List (Nat×Ob),nob=[]:=⟨_,rfl⟩
 rw[←hnob] at ha
 have hob:∀l x,go nob l=some x→co E w l x:=fun l x h=>by subst hnob;cases h
 have hx0:=hR.obs o x0 ho
 obtain⟨b,c0,hr,hbF⟩:∃b c0,E.r o=some (b,c0)∧¬E.F b:=by
  cases x0 with
  |rown ty sz els g=>exact absurd hfx Tt
  |abs l y=>exact absurd hfx Tt
  |var t cs=>obtain⟨b,c,arr,h1,h2,h3,h4⟩:=hx0;exact⟨b,c,h1,h4⟩
  |row t sz els g m=>
   obtain⟨b,c,arr,h1,h2,h3,h4,h5,h6,h7,h8,h9⟩:=hx0
   have hm:m=true:=hfx
   subst hm
   exact⟨b,c,h1,h8 rfl⟩
 have hnl:∀l x,go nob l=some x→l≠o:=fun l x h=>by subst hnob;cases h
 have hbC:¬jd E nob b:=by
  rintro(h|⟨l,x,c,h1,h2⟩)
  ·exact hbF h
  ·exact hnl l x h1 (hR.ok.inj _ _ _ _ _ h2 hr)
 have hFb:∀b,jd E nob b→b<w.heap.size:=by
  rintro b (h|⟨l,x,c,h1,h2⟩)
  ·exact hR.ok.fb b h
  ·exact(hR.ok.rb l b c h2).1
 have hbs0:=(hR.ok.rb o b c0 hr).1
 have hA:=zP (a:=a) hR.ok hob hr ha he t1 (fun x t hm=>by have:=hR.op x;rwa [Lk.mem t2 x t hm] at this)
 have hX:co (E0 b c0 (jd E nob)) w 200 x0.loc:=by
  have hl:=Cc hR.ok hfx hx0
  have hfl:x0.loc.free=true:=by
   cases x0 with
   |rown ty sz els g=>exact absurd hfx Tt
   |abs l y=>exact absurd hfx Tt
   |var t cs=>
    simp only[Ob.loc,Ob.free,List.all_map] at hfx ⊢
    refine List.all_eq_true.2 fun c hc=>?_
    have:=List.all_eq_true.1 hfx c hc
    cases c<;>simp_all [C.loc,C.free]
   |row t sz els g m=>exact hfx
  have hnoG:∀E2:Env,(∀k,E.F k→E2.F k)→E2.r 200=some (b,c0)→¬E2.F b→co E2 w 200 x0.loc:=by
   intro E2 h1 h2 h3
   cases x0 with
   |rown ty sz els g=>exact absurd hfx Tt
   |abs l y=>exact absurd hfx Tt
   |var t cs=>
    obtain⟨b',c',arr,k1,k2,k3,k4⟩:=hl
    rw[hr] at k1;cases k1
    refine⟨b,c0,arr,h2,k2,?_,h3⟩
    have key:∀(cs:List C) (us:List Value),cs.all C.free=true→CV E w (cs.map C.loc) us→CV E2 w (cs.map C.loc) us:=by
     intro cs
     induction cs with
     |nil=>
      intro us _ h
      cases us with
      |nil=>trivial
      |cons _ _=>exact h.elim
     |cons c cs ih=>
      intro us hf h
      simp only[Su,hV] at hf
      cases us with
      |nil=>exact h.elim
      |cons u us=>
       refine⟨?_,ih us hf.2 h.2⟩
       have h5:=h.1
       cases c with
       |d g y=>exact ci (fun _ _=>rfl) h1 _ _ h5
       |nil=>exact h5
       |fn f=>exact h5
       |any=>trivial
       |_=>simp[C.free] at hf
    exact key cs _ hfx k3
   |row t sz els g m=>
    obtain⟨b',c',arr,k1,k2,k3,k4,k5,k6,k7,k8,k9⟩:=hl
    rw[hr] at k1;cases k1
    have hm:m=true:=hfx
    subst hm
    exact⟨b,c0,arr,h2,k2,k3,k4,k5,k6,cd (fun _ _=>rfl) h1 rfl _ _ k7,fun _=>h3,fun h=>by cases h⟩
  exact hnoG _ (fun k hk=>.inl hk) (by simp[E0]) hbC
 have hc:=hF.calls (jd E nob) w (args.map a.eval).toArray b c0 hFb hbs0 hR.ok.tabs (hR.ok.ntab hr) hX (by simpa using hA)
 have hent:=hF.enters (args.map a.eval).toArray w
 unfold Oper.wp
 have hrun:(execOp a.eval ⟨some d,.call ⟨.value (.func f),args.toArray,tys⟩,ty,ps,af,gd⟩).run P w= .ok (.enter f (args.map a.eval).toArray) w:=by
  simp only[execOp,resolve,Act.eval,Deferred.ofValue,Sem.run_bind,Sem.run_pure,Result.andThen_ok,invoke]
  simpa using hent
 rw[hrun,Oper.upon_enter]
 refine hc.mono ?_
 rintro e w' ⟨v,G,bs,rfl,hpast,hG2,hres,hnd,hY⟩
 have hdom:∀l p,E.r l=some p→l<nx:=hR.dom
 have hbs:=Dx hres
 have hnw:=Nw.mem (yH hw)
 have hlab:∀l,nx≤l→l<nx+bs.length→E.r l=none∧rsv l=false:=by
  have himp:=tA (E:=⟨fun o=>bs[o-nx]?,G,G,fun _ _=>False,fun _=>False,fun _=>False⟩) (fun _ h=>h) (fun b _ h=>h) hi hres (fun i p hi=>by simpa using hi)
  intro l h1 h2
  obtain⟨x,hx⟩:=himp.2.2.2 l h1 (by rw[himp.2.1];exact h2)
  have h3:=hnw.2 l x hx
  refine⟨?_,h3.2.2⟩
  cases hq:E.r l with
  |none=>rfl
  |some p=>have:=hdom l p hq;omega
 let E':Env:=⟨fun l=>if nx≤l∧l<nx+bs.length then bs[l-nx]? else E.r l,fun k=>E.F k∨G k,fun k=>E.G k∨G k,E.T,E.Z,E.n⟩
 have hsz:=hpast.size
 have hws:=hR.ok.size
 have hold:∀l p,E.r l=some p→E'.r l=some p:=fun l p h=>by
  show(if nx≤l∧l<nx+bs.length then bs[l-nx]? else E.r l)=some p
  rw[if_neg]
  ·exact h
  ·rintro⟨h1,h2⟩;have:=(hlab l h1 h2).1;rw[this] at h;cases h
 have hnew:∀l b c,E'.r l=some (b,c)→(nx≤l∧l<nx+bs.length∧bs[l-nx]?=some (b,c))∨(E.r l=some (b,c)):=by
  intro l b c h
  have h:(if nx≤l∧l<nx+bs.length then bs[l-nx]? else E.r l)=some (b,c):=h
  split at h
  ·rename_i hh;exact .inl ⟨hh.1,hh.2,h⟩
  ·exact .inr h
 have hheap:∀k,k<w.heap.size→k≠b→w'.heap[k]?=w.heap[k]?:=fun k hk hne=>hpast.block k hk hne
 have hHb:∀g k,E.H g k→k≠b∧k<w.heap.size:=fun g k hk=>⟨fun e=>by subst e;cases g;exact hbF hk;exact hbF (hR.ok.gf _ hk),hR.ok.hb hk⟩
 have hk:il E w E' w':=⟨hold,fun g k h=>by cases g<;>exact .inl h,fun g k h=>hheap k (hHb g k h).2 (hHb g k h).1,fun l k h=>⟨h,hheap k (hR.ok.sf.tb l k h).1.1 (fun e=>by subst e;exact(hR.ok.sf.tb l k h).2.2.1 o c0 hr)⟩,fun k h=>⟨h,.of_eq (hheap k (hR.ok.sf.zb k h).1.2.1 (fun e=>by subst e;exact(hR.ok.sf.zb k h).2.2.1 o c0 hr))⟩,rfl⟩
 have ok':cK cx E' w':=by
  refine⟨fun k h=>?_,fun k h=>?_,fun k h=>?_,fun l k c h=>?_,fun l l' k c c' h h'=>?_,by rw[hpast.os];exact hR.ok.os,by rw[hpast.tape];exact hR.ok.tape,by rw[hpast.output];exact hR.ok.output,by omega,fun k h hW=>?_,fun l p hv h=>?_,fun k h=>?_,
   fun k h h'=>h.elim (fun h=>(hR.ok.gc k h h').of_eq (hheap k (hHb false k h).2 (hHb false k h).1)) (fun h=>(hG2 k h).2.2),
   hR.ok.sf.turn hr rfl rfl (fun k h=>h.elim .inl (fun h=>.inr (hG2 k h).1)) (fun l k c h=>by
    rcases hnew l k c h with⟨_,_,h⟩|h
    ·exact .inr (hbs _ (RS h)).1
    ·exact .inl ⟨l,c,h⟩) hsz hheap⟩
  ·rcases h with h|h
   ·have:=hR.ok.fb k h;omega
   ·exact(hG2 k h).2.1
  ·rcases h with h|h
   ·exact .inl (hR.ok.gf k h)
   ·exact .inr h
  ·rcases h with h|h
   ·exact hR.ok.gn k h
   ·have:=hG2 k h;omega
  ·rcases hnew l k c h with⟨_,_,h⟩|h
   ·have:=hbs _ (RS h);exact⟨this.2,.inl (by have:=this.1;simp at this;omega)⟩
   ·have:=hR.ok.rb l k c h;exact⟨by omega,this.2⟩
  ·rcases hnew l k c h with⟨h1,h2,h3⟩|h3<;>rcases hnew l' k c' h' with⟨k1,k2,k3⟩|k3
   ·have hi:l-nx<bs.length:=by omega
    have hj:l'-nx<bs.length:=by omega
    rcases Nat.lt_trichotomy (l-nx) (l'-nx) with hlt|heq|hlt
    ·exfalso
     have:=List.pairwise_iff_getElem.1 hnd (l-nx) (l'-nx) (by simpa using hi) (by simpa using hj) hlt
     rw[v0 hi] at h3;rw[v0 hj] at k3
     simp at h3 k3;simp[h3,k3] at this
    ·omega
    ·exfalso
     have:=List.pairwise_iff_getElem.1 hnd (l'-nx) (l-nx) (by simpa using hj) (by simpa using hi) hlt
     rw[v0 hi] at h3;rw[v0 hj] at k3
     simp at h3 k3;simp[h3,k3] at this
   ·have h5:=hbs _ (RS h3);have h6:=hR.ok.rb l' k c' k3;simp at h5;omega
   ·have h5:=hbs _ (RS k3);have h6:=hR.ok.rb l k c h3;simp at h5;omega
   ·exact hR.ok.inj l l' k c c' h3 k3
  ·have hkb:k≠b:=fun e=>by
    subst e
    rcases(hR.ok.rb o k c0 hr).2 with h'|h'
    ·omega
    ·exact hW h'.1
   rw[hheap k (by omega) hkb];exact hR.ok.block k h hW
  ·rcases hnew l p.1 p.2 h with⟨h1,h2,_⟩|h
   ·rw[mX (hlab l h1 h2).2] at hv;cases hv
   ·exact hR.ok.pin l p hv h
  ·rcases h with h|h
   ·exact hR.ok.ff k h
   ·exact .inr (by have:=hG2 k h;omega)
 have himp:=tA (E:=E') (G:=G) (base:=w.heap.size) (fun b h=>.inr h) (fun b hb hng hF=>by
  rcases hF with h|h
  ·have:=hR.ok.fb b h;omega
  ·exact hng h) hi hres (fun i p hi=>by
   have:i<bs.length:=(List.getElem?_eq_some_iff.1 hi).1
   show(if nx≤nx+i∧nx+i<nx+bs.length then bs[nx+i-nx]? else E.r (nx+i))=some p
   rw[if_pos (by omega)];simpa using hi)
 refine⟨E',ok',fun l p h=>?_,fun l x hl=>?_,fun k=>?_,hR.dfr,by simpa [Act.put] using hR.size,fun l k h=>Nat.lt_of_lt_of_le (hR.td l k h) hnw.1⟩
 ·rcases hnew l p.1 p.2 h with⟨h1,h2,_⟩|h
  ·obtain⟨x,hx⟩:=himp.2.2.2 l h1 (by rw[himp.2.1];exact h2);exact(hnw.2 l x hx).2.1
  ·have:=hdom l p h;show l<n;omega
 ·rcases w8 hl with h|h
  ·exact(himp.2.2.1 l x h).1
  ·by_cases hlo:o=l
   ·subst hlo
    rw[b8] at h;cases h
    refine uP hfy (fun k c h=>?_) (fun g k h=>?_) (fun _ _ _=>rfl) (fun _ _ _=>rfl) (fun k c h hn hh=>?_) hY
    ·simp[E1] at h;rw[←h.1,←h.2];exact hold _ _ hr
    ·cases g with
     |false=>
      rcases h with h|h
      ·rcases h with h|⟨l,x,c,h1,h2⟩
       ·exact .inl h
       ·subst hnob;cases h1
      ·exact .inr h
     |true=>exact .inr h
    ·simp[E1] at h;obtain⟨rfl,rfl⟩:=h
     rcases hh with hh|hh
     ·exact hbF hh
     ·have:=hG2 _ hh;omega
   ·rw[bu _ _ hlo] at h
    exact eU hk (fun k c h'=>hheap k (hR.ok.rb _ _ _ h').1 (fun e=>hlo (by subst e;exact hR.ok.inj _ _ _ _ _ hr h'))) (fun k c h' hn hh=>by
     rcases hh with hh|hh
     ·exact hn hh
     ·have:=hG2 k hh;have:=(hR.ok.rb _ _ _ h').1;omega) (hR.obs l x h)
 ·rw[f8 (by rw[hR.size];exact cF hN)]
  by_cases hdk:d=k
  ·subst hdk;rw[dJ,if_pos rfl];exact himp.1
  ·rw[cN _ _ hdk,if_neg hdk];exact ie hk (hR.sl k)
theorem cw {P:Program} {N:Nat} {d:Tmp} {ty:TypeId} {ps:String} {af:Array Edge} {gd:Option (Nat×Bool)} {f:FuncId} {args:List Operand} {tys:Array TypeId} {sl:List (Nat×T)} {ob ob':List (Nat×Ob)} {nx o:Nat} {x0 x1 y:Ob} {ts ts':List T} {eqs:List (Nat×Nat)} {res:List RV} {out:T} {nw:List (Nat×Ob)} {n:Nat}
 (hF:FnW P f x1 ts' y res) (ht:xf sl args=some ts:=by exact rfl) (ho:go ob o=some x0:=by exact rfl) (hl:x0.loc=x1:=by exact rfl) (hfx:x0.free=true:=by exact rfl) (hfy:y.free=true:=by exact rfl) (ha:xN [] o ts=some (ts',eqs):=by exact rfl) (he:Eqs eqs:=by repeat (first|exact trivial|refine⟨by first|rfl|exact lm _|simp,?_⟩)) (hi:Bb nx res=some (out,nw,n):=by exact rfl) (hw:He nx nw n=true:=by exact rfl) (hN:nlt d N=true:=by exact rfl) (hob:apO nw ((o,y)::ob)=some ob':=by exact rfl):
 AWO P N ⟨some d,.call ⟨.value (.func f),args.toArray,tys⟩,ty,ps,af,gd⟩ ⟨sl,ob,nx⟩ ⟨(d,out)::sl,ob',n⟩:=by
 subst hl
 rw[rP hob]
 exact O6 hF ht ho hfx hfy ha he hi hw hN
theorem eB {N:Nat} {P:Program} {s:St} {rs:List ResultVar} {res res':List RV} {vs:List V} {ls:List Nat} {y y':Ob} (h:mK P s rs vs:=by repeat' (first|exact .nil|apply mK.cons|exact .tmp rfl|exact .cell rfl rfl rfl|exact .cell1 rfl rfl)) (he:uj s.ob vs=some (res',ls):=by exact rfl) (hn:lp ls=true:=by exact rfl) (hr:res'=res:=by first|rfl|simp) (hy:go s.ob 200=some y':=by exact rfl) (hyy:y'=y:=by first|rfl|simp):Ej N P rs res y .ret s:=by
 subst hr;subst hyy;exact⟨s,tW s,⟨vs,ls,h,he,hn⟩,hy⟩
end Go.AM
