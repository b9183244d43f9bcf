/- A part. -/
import Derived.Test.YtljhooecmjejiaaGreatE2
import Derived.Deep.Slices
import Derived.WideShapes
import Derived.ProofKit
import Derived.OpenShut
import Derived.ChangeOld
import Derived.Laws.Slices
import Derived.Laws.Small
import Derived.Laws.StructEq
set_option linter.unusedVariables false
set_option linter.unusedSimpArgs false
open List renaming mem_of_mem_take→Uw,drop_drop→Ux,take_succ_cons→TI,replicate→TE,getElem?_append_right→Tz,length_map→Us,length_cons→TY,length_append→Ut,getElem?_eq_some_iff→Tm,getElem?_append_left→Tu,getElem?_eq_getElem→v0,take_length→UD,cons_append→TD,length_take→Uz,length_eq_zero_iff→UF,drop_of_length_le→UH,drop_zero→UB,map_take→UA,map_drop→UE,drop_succ_cons→UG,flatten_append→UC,getElem?_drop→TJ,map_cons→Uu,mem_map→Ur
open Nat renaming beq→d0,min_eq_left→Ul,zero_add→Tv,eq_of_beq_eq_true→To,zero_le→Ud
open Array renaming ext'→Uy
open Bool renaming and_eq_true→hV
namespace Go.AM
open Go.RowKit
def nxt (nx:Nat):Option Nat:=bif rsv nx then none else some (nx+1)
theorem lH {nx nx':Nat} {ob:Ob} (h:nxt nx=some nx'):Nw nx [(nx,ob)] nx':=by
 unfold nxt at h
 cases hr:rsv nx with
 |true=>rw[hr] at h;cases h
 |false=>rw[hr] at h;exact⟨⟨rfl,hr⟩,(Option.some.inj h).symm⟩
theorem Fs {n:Int} (h: -9223372036854775808≤n∧n≤9223372036854775807):IntKind.i64.wrap n=n:=by rw[IntKind.wrap_i64];omega
section
variable {P:Program} {N:Nat} {d:Tmp} {ty:TypeId} {ps:String} {af:Array Edge} {gd:Option (Nat×Bool)} {x y z:Operand} {sl:List (Nat×T)} {ob:List (Nat×Ob)} {nx:Nat}
abbrev NS0 (P:Program) (N:Nat) (o:Oper) (sl:List (Nat×T)) (ob:List (Nat×Ob)) (nx:Nat) (d:Tmp) (out:T) (x:Inf):Prop:=NS P N o ⟨sl,ob,nx⟩ ⟨(d,out)::sl,ob,nx⟩ x
theorem mv1 {c:C} (h:opT sl x= .v (.c c)) (hN:nlt d N=true):NS0 P N ⟨some d,.move x,ty,ps,af,gd⟩ sl ob nx d (.v (.c c)) ⟨d,[(x,.v (.c c))],[],.v (.c c),[]⟩:=db (st:=⟨sl,ob,nx⟩) Im rfl hN ⟨h,trivial⟩ trivial rfl
theorem mv2 {c:List C} (h:opT sl x= .v (.agg c)) (hN:nlt d N=true):NS0 P N ⟨some d,.move x,ty,ps,af,gd⟩ sl ob nx d (.v (.agg c)) ⟨d,[(x,.v (.agg c))],[],.v (.agg c),[]⟩:=db (st:=⟨sl,ob,nx⟩) Im rfl hN ⟨h,trivial⟩ trivial rfl
theorem mv3 {c:List V} (h:opT sl x= .tup c) (hN:nlt d N=true):NS0 P N ⟨some d,.move x,ty,ps,af,gd⟩ sl ob nx d (.tup c) ⟨d,[(x,.tup c)],[],.tup c,[]⟩:=db (st:=⟨sl,ob,nx⟩) Im rfl hN ⟨h,trivial⟩ trivial rfl
theorem as1 {c:C} (h:opT sl x= .v (.c c)) (hN:nlt d N=true):NS0 P N ⟨some d,.assign x,ty,ps,af,gd⟩ sl ob nx d (.v (.c c)) ⟨d,[(x,.v (.c c))],[],.v (.c c),[]⟩:=db (st:=⟨sl,ob,nx⟩) AX rfl hN ⟨h,trivial⟩ trivial rfl
theorem as2 {c:List C} (h:opT sl x= .v (.agg c)) (hN:nlt d N=true):NS0 P N ⟨some d,.assign x,ty,ps,af,gd⟩ sl ob nx d (.v (.agg c)) ⟨d,[(x,.v (.agg c))],[],.v (.agg c),[]⟩:=db (st:=⟨sl,ob,nx⟩) AX rfl hN ⟨h,trivial⟩ trivial rfl
theorem as3 {c:List V} (h:opT sl x= .tup c) (hN:nlt d N=true):NS0 P N ⟨some d,.assign x,ty,ps,af,gd⟩ sl ob nx d (.tup c) ⟨d,[(x,.tup c)],[],.tup c,[]⟩:=db (st:=⟨sl,ob,nx⟩) AX rfl hN ⟨h,trivial⟩ trivial rfl
theorem pk1 {c:C} {g:Bool} (h:opT sl x= .v (.c (.d g (.b true)))) (hy:opT sl y= .v (.c c)) (hN:nlt d N=true):NS0 P N ⟨some d,.pick x y z,ty,ps,af,gd⟩ sl ob nx d (.v (.c c)) ⟨d,[(x,.v (.c (.d g (.b true)))),(y,.v (.c c))],[],.v (.c c),[]⟩:=db (st:=⟨sl,ob,nx⟩) GH rfl hN ⟨h,hy,trivial⟩ trivial rfl
theorem pk0 {c:C} {g:Bool} (h:opT sl x= .v (.c (.d g (.b false)))) (hz:opT sl z= .v (.c c)) (hN:nlt d N=true):NS0 P N ⟨some d,.pick x y z,ty,ps,af,gd⟩ sl ob nx d (.v (.c c)) ⟨d,[(x,.v (.c (.d g (.b false)))),(z,.v (.c c))],[],.v (.c c),[]⟩:=db (st:=⟨sl,ob,nx⟩) EA rfl hN ⟨h,hz,trivial⟩ trivial rfl
theorem io {op:BinOp} {t t':TypeId} {g g':Bool} {k:IntKind} {a b:Int} {r:D} (hx:opT sl x= .v (.c (.d g (.i k a)))) (hy:opT sl y= .v (.c (.d g' (.i k b)))) (hN:nlt d N=true) (h:Ns op k a b=some r):
 NS0 P N ⟨some d,.binOp op t x y t',ty,ps,af,gd⟩ sl ob nx d (.v (.c (.d false r))) ⟨d,[(x,.v (.c (.d g (.i k a)))),(y,.v (.c (.d g' (.i k b))))],[],.v (.c (.d false r)),[]⟩:=db (st:=⟨sl,ob,nx⟩) (n_int h) rfl hN ⟨hx,hy,trivial⟩ trivial rfl
theorem is {t t':TypeId} {g g':Bool} {a b:Int} (hx:opT sl x= .v (.c (.d g (.i .i64 a)))) (hy:opT sl y= .v (.c (.d g' (.i .i64 b)))) (hN:nlt d N=true) (h: -9223372036854775808≤a-b∧a-b≤9223372036854775807):
 NS0 P N ⟨some d,.binOp .sub t x y t',ty,ps,af,gd⟩ sl ob nx d (tI (a-b)) ⟨d,[(x,.v (.c (.d g (.i .i64 a)))),(y,.v (.c (.d g' (.i .i64 b))))],[],tI (a-b),[]⟩:=by
 have:=io (P:=P) (N:=N) (d:=d) (ty:=ty) (ps:=ps) (af:=af) (gd:=gd) (ob:=ob) (nx:=nx) (t:=t) (t':=t') (op:=.sub) hx hy hN rfl
 rwa [Fs h] at this
theorem ir {t t':TypeId} {g g':Bool} {k:IntKind} {a b:Int} (hx:opT sl x= .v (.c (.d g (.i k a)))) (hy:opT sl y= .v (.c (.d g' (.i k b)))) (hN:nlt d N=true) (h:b≠0):
 NS0 P N ⟨some d,.binOp .rem t x y t',ty,ps,af,gd⟩ sl ob nx d (.v (.c (.d false (.i k (a.tmod b))))) ⟨d,[(x,.v (.c (.d g (.i k a)))),(y,.v (.c (.d g' (.i k b))))],[],.v (.c (.d false (.i k (a.tmod b)))),[]⟩:=db (st:=⟨sl,ob,nx⟩) (n_rem h) rfl hN ⟨hx,hy,trivial⟩ trivial rfl
theorem se {t t':TypeId} {g g':Bool} {a b:ByteArray} (hx:opT sl x= .v (.c (.d g (.str a)))) (hy:opT sl y= .v (.c (.d g' (.str b)))) (hN:nlt d N=true):
 NS0 P N ⟨some d,.binOp .eql t x y t',ty,ps,af,gd⟩ sl ob nx d (tB (strB a b)) ⟨d,[(x,.v (.c (.d g (.str a)))),(y,.v (.c (.d g' (.str b))))],[],tB (strB a b),[]⟩:=db (st:=⟨sl,ob,nx⟩) NO rfl hN ⟨hx,hy,trivial⟩ trivial rfl
theorem sn {t t':TypeId} {g g':Bool} {a b:ByteArray} (hx:opT sl x= .v (.c (.d g (.str a)))) (hy:opT sl y= .v (.c (.d g' (.str b)))) (hN:nlt d N=true):
 NS0 P N ⟨some d,.binOp .neq t x y t',ty,ps,af,gd⟩ sl ob nx d (tB (!strB a b)) ⟨d,[(x,.v (.c (.d g (.str a)))),(y,.v (.c (.d g' (.str b))))],[],tB (!strB a b),[]⟩:=db (st:=⟨sl,ob,nx⟩) NR rfl hN ⟨hx,hy,trivial⟩ trivial rfl
theorem un {t:TypeId} {g b:Bool} (hx:opT sl x= .v (.c (.d g (.b b)))) (hN:nlt d N=true):NS0 P N ⟨some d,.unOp .not t x,ty,ps,af,gd⟩ sl ob nx d (tB (!b)) ⟨d,[(x,.v (.c (.d g (.b b))))],[],tB (!b),[]⟩:=db (st:=⟨sl,ob,nx⟩) n_not rfl hN ⟨hx,trivial⟩ trivial rfl
theorem ng {t:TypeId} {g:Bool} {k:IntKind} {n:Int} (hx:opT sl x= .v (.c (.d g (.i k n)))) (hN:nlt d N=true):NS0 P N ⟨some d,.unOp .neg t x,ty,ps,af,gd⟩ sl ob nx d (.v (.c (.d false (.i k (k.wrap (0-n)))))) ⟨d,[(x,.v (.c (.d g (.i k n))))],[],.v (.c (.d false (.i k (k.wrap (0-n))))),[]⟩:=db (st:=⟨sl,ob,nx⟩) n_neg rfl hN ⟨hx,trivial⟩ trivial rfl
theorem cv {t t':TypeId} {ds:TypeDesc} {g:Bool} {k k':IntKind} {n:Int} [TyU P t ds] [TyU P t' (.int k')] (hx:opT sl x= .v (.c (.d g (.i k n)))) (hN:nlt d N=true):
 NS0 P N ⟨some d,.convert t t' x,ty,ps,af,gd⟩ sl ob nx d (.v (.c (.d false (.i k' (k'.wrap n))))) ⟨d,[(x,.v (.c (.d g (.i k n))))],[],.v (.c (.d false (.i k' (k'.wrap n)))),[]⟩:=db (st:=⟨sl,ob,nx⟩) Se rfl hN ⟨hx,trivial⟩ trivial rfl
theorem ex {ts:List V} {i:Nat} {v:V} (hx:opT sl x= .tup ts) (hN:nlt d N=true) (h:ts[i]?=some v):NS0 P N ⟨some d,.extract x i,ty,ps,af,gd⟩ sl ob nx d (.v v) ⟨d,[(x,.tup ts)],[],.v v,[]⟩:=db (st:=⟨sl,ob,nx⟩) (Lm h) rfl hN ⟨hx,trivial⟩ trivial rfl
theorem nc {o k:Nat} (hx:opT sl x= .v (.c (.p o k))) (hN:nlt d N=true):NS0 P N ⟨some d,.nilCheck x,ty,ps,af,gd⟩ sl ob nx d (.v (.c (.p o k))) ⟨d,[(x,.v (.c (.p o k)))],[],.v (.c (.p o k)),[]⟩:=db (st:=⟨sl,ob,nx⟩) Ez rfl hN ⟨hx,trivial⟩ trivial rfl
theorem lw {t:TypeId} {o n e sz by_:Nat} [TySl P t e sz by_] (hx:opT sl x= .v (.c (.w o n))) (hN:nlt d N=true):NS0 P N ⟨some d,.call ⟨.builtin .len,#[x],#[t]⟩,ty,ps,af,gd⟩ sl ob nx d (tI n) ⟨d,[(x,.v (.c (.w o n)))],[],tI n,[]⟩:=db (st:=⟨sl,ob,nx⟩) Ql rfl hN ⟨hx,trivial⟩ trivial rfl
theorem ls {t:TypeId} {o zz off n e sz by_:Nat} [TySl P t e sz by_] (hx:opT sl x= .v (.c (.s o zz off n))) (hN:nlt d N=true):NS0 P N ⟨some d,.call ⟨.builtin .len,#[x],#[t]⟩,ty,ps,af,gd⟩ sl ob nx d (tI n) ⟨d,[(x,.v (.c (.s o zz off n)))],[],tI n,[]⟩:=db (st:=⟨sl,ob,nx⟩) Qk rfl hN ⟨hx,trivial⟩ trivial rfl
theorem ld {t:TypeId} {g:Bool} {xs:List (List D)} {e sz by_:Nat} [TySl P t e sz by_] (hx:opT sl x= .v (.c (.d g (.l xs)))) (hN:nlt d N=true):NS0 P N ⟨some d,.call ⟨.builtin .len,#[x],#[t]⟩,ty,ps,af,gd⟩ sl ob nx d (tI xs.length) ⟨d,[(x,.v (.c (.d g (.l xs))))],[],tI xs.length,[]⟩:=db (st:=⟨sl,ob,nx⟩) Qj rfl hN ⟨hx,trivial⟩ trivial rfl
theorem ln {t:TypeId} {e sz by_:Nat} [TySl P t e sz by_] (hx:opT sl x= .v (.c .nil)) (hN:nlt d N=true):NS0 P N ⟨some d,.call ⟨.builtin .len,#[x],#[t]⟩,ty,ps,af,gd⟩ sl ob nx d (tI 0) ⟨d,[(x,.v (.c .nil))],[],tI 0,[]⟩:=db (st:=⟨sl,ob,nx⟩) Lu rfl hN ⟨hx,trivial⟩ trivial rfl
theorem R6 {t:TypeId} {g:Bool} {s:ByteArray} [TyU P t .string] (hx:opT sl x= .v (.c (.d g (.str s)))) (hN:nlt d N=true):NS0 P N ⟨some d,.call ⟨.builtin .len,#[x],#[t]⟩,ty,ps,af,gd⟩ sl ob nx d (tI s.size) ⟨d,[(x,.v (.c (.d g (.str s))))],[],tI s.size,[]⟩:=db (st:=⟨sl,ob,nx⟩) Lv rfl hN ⟨hx,trivial⟩ trivial rfl
theorem fp {t:TypeId} {f off ft:Nat} {o k k':Nat} [TyF P t f off ft] (hx:opT sl x= .v (.c (.p o k))) (hN:nlt d N=true) (hk:k+off=k'):NS0 P N ⟨some d,.fieldAddr t x f,ty,ps,af,gd⟩ sl ob nx d (.v (.c (.p o k'))) ⟨d,[(x,.v (.c (.p o k)))],[],.v (.c (.p o k')),[]⟩:=by
 subst hk;exact db (st:=⟨sl,ob,nx⟩) Lp rfl hN ⟨hx,trivial⟩ trivial rfl
theorem fe {t:TypeId} {f off ft:Nat} {o sz i j j':Nat} [TyF P t f off ft] (hx:opT sl x= .v (.c (.e o sz i j))) (hN:nlt d N=true) (hk:j+off=j'):NS0 P N ⟨some d,.fieldAddr t x f,ty,ps,af,gd⟩ sl ob nx d (.v (.c (.e o sz i j'))) ⟨d,[(x,.v (.c (.e o sz i j)))],[],.v (.c (.e o sz i j')),[]⟩:=by
 subst hk;exact db (st:=⟨sl,ob,nx⟩) Ln rfl hN ⟨hx,trivial⟩ trivial rfl
theorem fq {t:TypeId} {f off ft:Nat} {g:Bool} {e:List D} {j j':Nat} [TyF P t f off ft] (hx:opT sl x= .v (.c (.q g e j))) (hN:nlt d N=true) (hk:j+off=j'):NS0 P N ⟨some d,.fieldAddr t x f,ty,ps,af,gd⟩ sl ob nx d (.v (.c (.q g e j'))) ⟨d,[(x,.v (.c (.q g e j)))],[],.v (.c (.q g e j')),[]⟩:=by
 subst hk;exact db (st:=⟨sl,ob,nx⟩) Lq rfl hN ⟨hx,trivial⟩ trivial rfl
theorem xw {t:TypeId} {e sz by_:Nat} {g:Bool} {kd:IntKind} {o n:Nat} {i:Int} [TySl P t e sz by_] (hx:opT sl x= .v (.c (.w o n))) (hy:opT sl y= .v (.c (.d g (.i kd i)))) (hN:nlt d N=true) (h0:0≤i) (h1:i<n):
 NS0 P N ⟨some d,.indexAddr t x y,ty,ps,af,gd⟩ sl ob nx d (.v (.c (.e o sz i.toNat 0))) ⟨d,[(x,.v (.c (.w o n))),(y,.v (.c (.d g (.i kd i))))],[],.v (.c (.e o sz i.toNat 0)),[]⟩:=db (st:=⟨sl,ob,nx⟩) (CZ h0 h1) rfl hN ⟨hx,hy,trivial⟩ trivial rfl
theorem xs {t:TypeId} {e sz by_:Nat} {g:Bool} {kd:IntKind} {o off n:Nat} {i:Int} [TySl P t e sz by_] (hx:opT sl x= .v (.c (.s o sz off n))) (hy:opT sl y= .v (.c (.d g (.i kd i)))) (hN:nlt d N=true) (h0:0≤i) (h1:i<n):
 NS0 P N ⟨some d,.indexAddr t x y,ty,ps,af,gd⟩ sl ob nx d (.v (.c (.e o sz (off+i.toNat) 0))) ⟨d,[(x,.v (.c (.s o sz off n))),(y,.v (.c (.d g (.i kd i))))],[],.v (.c (.e o sz (off+i.toNat) 0)),[]⟩:=db (st:=⟨sl,ob,nx⟩) (Lt h0 h1) rfl hN ⟨hx,hy,trivial⟩ trivial rfl
theorem xd {t:TypeId} {e sz by_:Nat} {g g':Bool} {kd:IntKind} {xs:List (List D)} {i:Int} {el:List D} [TySl P t e sz by_] (hx:opT sl x= .v (.c (.d g (.l xs)))) (hy:opT sl y= .v (.c (.d g' (.i kd i)))) (hN:nlt d N=true) (h0:0≤i) (he:xs[i.toNat]?=some el)
 (hs:∀e∈xs,e.length=sz):NS0 P N ⟨some d,.indexAddr t x y,ty,ps,af,gd⟩ sl ob nx d (.v (.c (.q g el 0))) ⟨d,[(x,.v (.c (.d g (.l xs)))),(y,.v (.c (.d g' (.i kd i))))],[],.v (.c (.q g el 0)),[]⟩:=db (st:=⟨sl,ob,nx⟩) (Ls h0 he hs) rfl hN ⟨hx,hy,trivial⟩ trivial rfl
theorem op {t:TypeId} {o k:Nat} {vt:TypeId} {cs:List C} {c:C} [TySc P t] (hx:opT sl x= .v (.c (.p o k))) (ho:go ob o=some (.var vt cs)) (hN:nlt d N=true) (hc:cs[k]?=some c):
 NS0 P N ⟨some d,.load t x,ty,ps,af,gd⟩ sl ob nx d (.v (.c c)) ⟨d,[(x,.v (.c (.p o k)))],[(o,.var vt cs)],.v (.c c),[]⟩:=db (st:=⟨sl,ob,nx⟩) (NL hc) rfl hN ⟨hx,trivial⟩ ⟨ho,trivial⟩ rfl
theorem opa {t:TypeId} {n:Nat} {o k:Nat} {vt:TypeId} {cs r:List C} [TyAg P t n] (hx:opT sl x= .v (.c (.p o k))) (ho:go ob o=some (.var vt cs)) (hN:nlt d N=true) (hc:wU k n cs=some r):
 NS0 P N ⟨some d,.load t x,ty,ps,af,gd⟩ sl ob nx d (.v (.agg r)) ⟨d,[(x,.v (.c (.p o k)))],[(o,.var vt cs)],.v (.agg r),[]⟩:=db (st:=⟨sl,ob,nx⟩) (Ch hc) rfl hN ⟨hx,trivial⟩ ⟨ho,trivial⟩ rfl
theorem oq {t:TypeId} {g:Bool} {e:List D} {j:Nat} {c:C} [TySc P t] (hx:opT sl x= .v (.c (.q g e j))) (hN:nlt d N=true) (hc:ld1 g j e=some c):
 NS0 P N ⟨some d,.load t x,ty,ps,af,gd⟩ sl ob nx d (.v (.c c)) ⟨d,[(x,.v (.c (.q g e j)))],[],.v (.c c),[]⟩:=db (st:=⟨sl,ob,nx⟩) (Ly hc) rfl hN ⟨hx,trivial⟩ trivial rfl
theorem oqa {t:TypeId} {n:Nat} {g:Bool} {e:List D} {j:Nat} {cs:List C} [TyAg P t n] (hx:opT sl x= .v (.c (.q g e j))) (hN:nlt d N=true) (hc:Ek g j n e=some cs):
 NS0 P N ⟨some d,.load t x,ty,ps,af,gd⟩ sl ob nx d (.v (.agg cs)) ⟨d,[(x,.v (.c (.q g e j)))],[],.v (.agg cs),[]⟩:=db (st:=⟨sl,ob,nx⟩) (Ci hc) rfl hN ⟨hx,trivial⟩ trivial rfl
theorem oe {t:TypeId} {o sz i j:Nat} {rt:TypeId} {els:List (List D)} {g m:Bool} {el:List D} {c:C} [TySc P t] (hx:opT sl x= .v (.c (.e o sz i j)):=by exact rfl) (ho:go ob o=some (.row rt sz els g m):=by exact rfl) (hN:nlt d N=true:=by exact rfl) (he:els[i]?=some el) (hc:ld1 g j el=some c:=by exact rfl):
 NS0 P N ⟨some d,.load t x,ty,ps,af,gd⟩ sl ob nx d (.v (.c c)) ⟨d,[(x,.v (.c (.e o sz i j)))],[(o,.row rt sz els g m)],.v (.c c),[]⟩:=db (st:=⟨sl,ob,nx⟩) (C0 he hc) rfl hN ⟨hx,trivial⟩ ⟨ho,trivial⟩ rfl
theorem oea {t:TypeId} {n:Nat} {o sz i j:Nat} {rt:TypeId} {els:List (List D)} {g m:Bool} {el:List D} {cs:List C} [TyAg P t n] (hx:opT sl x= .v (.c (.e o sz i j)):=by exact rfl) (ho:go ob o=some (.row rt sz els g m):=by exact rfl) (hN:nlt d N=true:=by exact rfl) (he:els[i]?=some el) (hc:Ek g j n el=some cs:=by exact rfl):
 NS0 P N ⟨some d,.load t x,ty,ps,af,gd⟩ sl ob nx d (.v (.agg cs)) ⟨d,[(x,.v (.c (.e o sz i j)))],[(o,.row rt sz els g m)],.v (.agg cs),[]⟩:=db (st:=⟨sl,ob,nx⟩) (u9 he hc) rfl hN ⟨hx,trivial⟩ ⟨ho,trivial⟩ rfl
theorem fv {t:TypeId} {f off ft:Nat} {cs:List C} {c:C} [TyF P t f off ft] [TySc P ft] (hx:opT sl x= .v (.agg cs)) (hN:nlt d N=true) (hc:cs[off]?=some c):NS0 P N ⟨some d,.field t x f,ty,ps,af,gd⟩ sl ob nx d (.v (.c c)) ⟨d,[(x,.v (.agg cs))],[],.v (.c c),[]⟩:=db (st:=⟨sl,ob,nx⟩) (NI hc) rfl hN ⟨hx,trivial⟩ trivial rfl
theorem fva {t:TypeId} {f off ft n:Nat} {cs r:List C} [TyF P t f off ft] [TyAg P ft n] (hx:opT sl x= .v (.agg cs)) (hN:nlt d N=true) (hc:wU off n cs=some r):NS0 P N ⟨some d,.field t x f,ty,ps,af,gd⟩ sl ob nx d (.v (.agg r)) ⟨d,[(x,.v (.agg cs))],[],.v (.agg r),[]⟩:=db (st:=⟨sl,ob,nx⟩) (Cf hc) rfl hN ⟨hx,trivial⟩ trivial rfl
abbrev NS1 (P:Program) (N:Nat) (o:Oper) (sl:List (Nat×T)) (ob:List (Nat×Ob)) (nx nx':Nat) (d:Tmp) (out:T) (nb:Ob) (x:Inf):Prop:=NS P N o ⟨sl,ob,nx⟩ ⟨(d,out)::sl,(nx,nb)::ob,nx'⟩ x
theorem al {nx':Nat} {t:TypeId} {zs:List C} [TyZ P t zs] (hN:nlt d N=true) (hq:nxt nx=some nx'):NS1 P N ⟨some d,.alloc t,ty,ps,af,gd⟩ sl ob nx nx' d (.v (.c (.p nx 0))) (.var t zs) ⟨d,[],[],.v (.c (.p nx 0)),[(nx,.var t zs)]⟩:=db (st:=⟨sl,ob,nx⟩) Qg rfl hN trivial trivial (lH hq)
theorem ba {nx':Nat} {t:TypeId} {cs:List C} (hx:opT sl x= .v (.agg cs)) (hN:nlt d N=true) (hq:nxt nx=some nx'):NS1 P N ⟨some d,.box t x,ty,ps,af,gd⟩ sl ob nx nx' d (.v (.c (.p nx 0))) (.var t cs) ⟨d,[(x,.v (.agg cs))],[],.v (.c (.p nx 0)),[(nx,.var t cs)]⟩:=db (st:=⟨sl,ob,nx⟩) Ll rfl hN ⟨hx,trivial⟩ trivial (lH hq)
theorem bc {nx':Nat} {t:TypeId} {c:C} (hx:opT sl x= .v (.c c)) (hN:nlt d N=true) (hs:c.sto=true) (hq:nxt nx=some nx'):NS1 P N ⟨some d,.box t x,ty,ps,af,gd⟩ sl ob nx nx' d (.v (.c (.p nx 0))) (.var t [c]) ⟨d,[(x,.v (.c c))],[],.v (.c (.p nx 0)),[(nx,.var t [c])]⟩:=db (st:=⟨sl,ob,nx⟩) (Qh hs) rfl hN ⟨hx,trivial⟩ trivial (lH hq)
def Iu (sl:List (Nat×T)):List Operand→Option (List V)
 |[]=>some []
 |x::xs=>match opT sl x,Iu sl xs with
  | .v v,some vs=>some (v::vs)
  |_,_=>none
theorem zH {sl:List (Nat×T)}:∀{xs:List Operand} {vs:List V},Iu sl xs=some vs→vs.length=xs.length∧Lk sl (xs.zip (vs.map T.v))
 |[],vs,h=>by simp[Iu] at h;subst h;exact⟨rfl,trivial⟩
 |x::xs,vs,h=>by
  simp only[Iu] at h
  split at h
  ·rename_i v vs' h1 h2
   simp at h;subst h
   obtain⟨k1,k2⟩:=zH h2
   exact⟨by simp[k1],h1,k2⟩
  ·cases h
theorem bd {t:TypeId} {zs cs:List C} {pl:List (Nat×Nat)} {parts:List (Nat×Operand)} {vs:List V} [TyZ P t zs] [TyB P t pl] (hv:Iu sl (parts.map (·.2))=some vs) (h:Ad pl zs ((parts.map (·.1)).zip vs)=some cs) (hN:nlt d N=true):
 NS0 P N ⟨some d,.build t parts.toArray,ty,ps,af,gd⟩ sl ob nx d (.v (.agg cs)) ⟨d,(parts.map (·.2)).zip (vs.map T.v),[],.v (.agg cs),[]⟩:=by
 obtain⟨h1,h2⟩:=zH hv
 exact db (st:=⟨sl,ob,nx⟩) (J7 (by simpa using h1) h) rfl hN h2 trivial rfl
theorem bs {nx':Nat} {t:TypeId} {e sz by_:Nat} {len:Nat} {parts:List (Nat×Operand)} {vs:List V} {els:List (List D)} {g:Bool} [TySl P t e sz by_] (hv:Iu sl (parts.map (·.2))=some vs) (he:vsD vs=some (els,g)) (hs:NB sz els=true)
 (hlen:len=parts.length) (hi:parts.map (·.1)=List.range len) (h24:Nat.ble (len*sz) 16777216=true) (hN:nlt d N=true) (hq:nxt nx=some nx'):
 NS1 P N ⟨some d,.buildSlice t len parts.toArray,ty,ps,af,gd⟩ sl ob nx nx' d (.v (.c (.w nx len))) (.row e sz els g true) ⟨d,(parts.map (·.2)).zip (vs.map T.v),[],.v (.c (.w nx len)),[(nx,.row e sz els g true)]⟩:=by
 obtain⟨h1,h2⟩:=zH hv
 exact db (st:=⟨sl,ob,nx⟩) (Et hlen (by simpa using h1) hi he hs (Nat.le_of_ble_eq_true h24)) rfl hN h2 trivial (lH hq)
theorem mk {nx':Nat} {t:TypeId} {e sz by_:Nat} {zd:List D} {g g':Bool} {k k':IntKind} {n:Nat} {c:Int} [TySl P t e sz by_] [TyE P e zd] (hx:opT sl x= .v (.c (.d g (.i k n)))) (hy:opT sl y= .v (.c (.d g' (.i k' c)))) (hN:nlt d N=true)
 (hc:n≤c) (hb:(by_:Int)*c≤281474976710656) (h63:c≤9223372036854775807) (hq:nxt nx=some nx'):
 NS1 P N ⟨some d,.makeSlice t x y,ty,ps,af,gd⟩ sl ob nx nx' d (.v (.c (.w nx n))) (.row e sz (TE n zd) true true) ⟨d,[(x,.v (.c (.d g (.i k n)))),(y,.v (.c (.d g' (.i k' c))))],[],.v (.c (.w nx n)),[(nx,.row e sz (TE n zd) true true)]⟩:=
 db (st:=⟨sl,ob,nx⟩) (Sf hc hb h63) rfl hN ⟨hx,hy,trivial⟩ trivial (lH hq)
def yc (sl:List (Nat×T)):List Operand→Option (List T)
 |[]=>some []
 |x::xs=>match opT sl x,yc sl xs with
  | .v (.c c),some vs=>some (.v (.c c)::vs)
  | .v (.agg cs),some vs=>some (.v (.agg cs)::vs)
  |_,_=>none
theorem o7 {sl:List (Nat×T)}:∀{xs:List Operand} {ts:List T},yc sl xs=some ts→ts.length=xs.length∧Lk sl (xs.zip ts)
 |[],vs,h=>by simp[yc] at h;subst h;exact⟨rfl,trivial⟩
 |x::xs,vs,h=>by
  simp only[yc] at h
  split at h
  ·rename_i c vs' h1 h2
   simp at h;subst h
   obtain⟨k1,k2⟩:=o7 h2
   exact⟨by simp[k1],h1,k2⟩
  ·rename_i c vs' h1 h2
   simp at h;subst h
   obtain⟨k1,k2⟩:=o7 h2
   exact⟨by simp[k1],h1,k2⟩
  ·cases h
def Is (nx:Nat):List (Nat×Ob)→Nat→Bool
 |[],n=>d0 n nx
 |(l,_)::r,n=>(d0 l nx&&!rsv l)&&Is (nx+1) r n
theorem zG:∀{nw:List (Nat×Ob)} {nx n:Nat},Is nx nw n=true→Nw nx nw n
 |[],nx,n,h=>To h
 |(l,x)::r,nx,n,h=>by
  simp only[Is,hV,Bool.not_eq_true'] at h
  exact⟨⟨To h.1.1,h.1.2⟩,zG h.2⟩
def apO {α:Type}:List α→List α→Option (List α)
 |[],l=>some l
 |x::xs,l=>match apO xs l with|some r=>some (x::r)|none=>none
theorem sJ {α:Type}:∀{xs l r:List α},apO xs l=some r→r=xs++l
 |[],l,r,h=>by simp[apO] at h;subst h;rfl
 |x::xs,l,r,h=>by
  simp only[apO] at h
  split at h
  ·rename_i q h1;simp at h;subst h;rw[sJ h1];rfl
  ·cases h
theorem ca {f:FuncId} {args:List Operand} {tys:Array TypeId} {ts:List T} {nob:List (Nat×Ob)} {avs:List AV} {eqs:List (Nat×Nat)} {res:List RV} {out:T} {nw ob':List (Nat×Ob)} {n:Nat}
 (ht:yc sl args=some ts:=by exact rfl) (hp:rZ ob (JT ts)=some nob:=by exact rfl) (ha:yC nob ts=some (avs,eqs):=by exact rfl) (hF:Fn P f avs res) (he:Eqs eqs:=by repeat (first|exact trivial|refine⟨by first|rfl|exact lm _|simp,?_⟩)) (hi:Cb nx res=some (out,nw,n):=by exact rfl) (hw:Is nx nw n=true:=by exact rfl) (hN:nlt d N=true:=by exact rfl) (hob:apO nw ob=some ob':=by exact rfl):
 NS P N ⟨some d,.call ⟨.value (.func f),args.toArray,tys⟩,ty,ps,af,gd⟩ ⟨sl,ob,nx⟩ ⟨(d,out)::sl,ob',n⟩ ⟨d,args.zip ts,nob,out,nw⟩:=by
 obtain⟨h1,h2⟩:=o7 ht
 rw[sJ hob]
 exact db (st:=⟨sl,ob,nx⟩) (Sd h1 ha hF he hi) rfl hN h2 (qs hp) (zG hw)
theorem sp {t:TypeId} {n o k:Nat} {vt:TypeId} {cs cs' ns:List C} {v:V} [TyN P t n] (hx:opT sl x= .v (.c (.p o k))) (hy:opT sl y= .v v) (ho:go ob o=some (.var vt cs)) (hv:vcs v=some ns)
 (hn:d0 ns.length n=true) (hst:ns.all C.sto=true) (hs:qK k ns cs=some cs'):AWO P N ⟨none,.store t x y,ty,ps,af,gd⟩ ⟨sl,ob,nx⟩ ⟨sl,(o,.var vt cs')::ob,nx⟩:=LC (st:=⟨sl,ob,nx⟩) hx hy ho hv hn hst hs
theorem so {t:TypeId} {n o sz i j:Nat} {rt:TypeId} {els:List (List D)} {el el' ns:List D} {g g' gg:Bool} {v:V} [TyN P t n] (hx:opT sl x= .v (.c (.e o sz i j))) (hy:opT sl y= .v v)
 (ho:go ob o=some (.row rt sz els g true)) (hv:vD v=some (ns,g')) (hn:d0 ns.length n=true) (he:els[i]?=some el) (hs:qK j ns el=some el') (hg:(g&&g')=gg):
 AWO P N ⟨none,.store t x y,ty,ps,af,gd⟩ ⟨sl,ob,nx⟩ ⟨sl,(o,.row rt sz (els.set i el') gg true)::ob,nx⟩:=by subst hg;exact LB (st:=⟨sl,ob,nx⟩) hx hy ho hv hn he hs
theorem ap {t:TypeId} {e sz by_ o n:Nat} {els ys:List (List D)} {g gy gg:Bool} {c:C} {sl':List (Nat×T)} {ob':List (Nat×Ob)} [TySl P t e sz by_] (hd:nlt d N=true)
 (hx:opT sl x= .v (.c (.w o n))) (hy:opT sl y= .v (.c c)) (ho:go ob o=some (.row e sz els g true)) (hs:Src ob c ys gy) (hk:mn o sl=some sl') (hkb:kj o ob=some ob') (hg:(g&&gy)=gg)
 (hn:els.length=n) (hsz:∀e∈ys,e.length=sz) (hb:(n+ys.length)*by_≤140737488355328) (h63:n+ys.length≤9223372036854775807) (hrv:rsp o=false):
 AWO P N ⟨some d,.call ⟨.builtin .append,#[x,y],#[t,t]⟩,ty,ps,af,gd⟩ ⟨sl,ob,nx⟩ ⟨(d,.v (.c (.w o (n+ys.length))))::sl',(o,.row e sz (els++ys) gg true)::ob',nx⟩:=by
 subst hg;exact It (st:=⟨sl,ob,nx⟩) hrv (cK hd) hx hy ho hs hk hkb hn hsz hb h63
section
variable {ops:Array Oper} {l:List Oper} {o:Oper} {K:St→Prop} {KK:List Inf→St→Prop} {is:List Inf}
theorem gs {j:Nat} {dj d:Tmp} {b:Bool} (hg:o.guard=some (j,b)) (hj:(ops[j]?).bind (·.dst)=some dj) (hdj:nlt dj N=true) (hb:noG b (gt sl dj)=true) (hd:o.dst=some d) (hN:nlt d N=true)
 (h':AWR P N ops l ⟨(d,.tup [])::sl,ob,nx⟩ K):AWR P N ops (o::l) ⟨sl,ob,nx⟩ K:=Ab (st:=⟨sl,ob,nx⟩) hg hj (cK hdj) hb hd (cK hN) h'
theorem g2 {j:Nat} {dj:Tmp} {b c:Bool} (hg:o.guard=some (j,b)) (hj:(ops[j]?).bind (·.dst)=some dj) (hb:gt sl dj=tB c)
 (h1:c=true→AWR P N ops (o::l) ⟨(dj,tB true)::sl,ob,nx⟩ K) (h0:c=false→AWR P N ops (o::l) ⟨(dj,tB false)::sl,ob,nx⟩ K):AWR P N ops (o::l) ⟨sl,ob,nx⟩ K:=KW (st:=⟨sl,ob,nx⟩) hb h1 h0
theorem dgs {j:Nat} {dj d:Tmp} {b:Bool} {t:T} (hg:o.guard=some (j,b)) (hj:(ops[j]?).bind (·.dst)=some dj) (hdj:nlt dj N=true) (ht:gt sl dj=t) (hb:noG b t=true) (hd:o.dst=some d) (hN:nlt d N=true)
 (h':DR P N ops l (is++[⟨d,[(.tmp dj,t)],[],.tup [],[]⟩]) ⟨(d,.tup [])::sl,ob,nx⟩ KK):DR P N ops (o::l) is ⟨sl,ob,nx⟩ KK:=PN (st:=⟨sl,ob,nx⟩) hg hj hdj ht hb hd hN h'
theorem dg2 {j:Nat} {dj:Tmp} {b c:Bool} (hg:o.guard=some (j,b)) (hj:(ops[j]?).bind (·.dst)=some dj) (hb:gt sl dj=tB c)
 (h1:c=true→DR P N ops (o::l) is ⟨(dj,tB true)::sl,ob,nx⟩ KK) (h0:c=false→DR P N ops (o::l) is ⟨(dj,tB false)::sl,ob,nx⟩ KK):DR P N ops (o::l) is ⟨sl,ob,nx⟩ KK:=MT (st:=⟨sl,ob,nx⟩) hb h1 h0
end
def Ms:AV→Option T
 | .c (.i k n)=>some (.v (.c (.d false (.i k n))))
 | .c (.b x)=>some (.v (.c (.d false (.b x))))
 | .c (.str s)=>some (.v (.c (.d false (.str s))))
 | .c (.l xs)=>some (.v (.c (.d false (.l xs))))
 | .c (.k A n c)=>some (.v (.c (.d false (.k A n c))))
 | .agg xs=>match ldO false xs with
  |some cs=>some (.v (.agg cs))
  |none=>none
def HX:Nat→List AV→Option (List (Nat×T))
 |_,[]=>some []
 |k,a::as=>match Ms a,HX (k+1) as with
  |some t,some r=>some ((k,t)::r)
  |_,_=>none
theorem DW:∀{as:List AV} {k:Nat} {r:List (Nat×T)},HX k as=some r→r=rT k as
 |[],k,r,h=>by simp[HX] at h;subst h;rfl
 |a::as,k,r,h=>by
  simp only[HX] at h
  split at h
  ·rename_i t r' h1 h2
   simp at h;subst h
   rw[DW h2,rT]
   congr 2
   cases a with
   |c x=>cases x<;>simp[Ms] at h1<;>subst h1<;>rfl
   |agg xs=>
    simp only[Ms] at h1
    split at h1
    ·rename_i cs h3;simp at h1;subst h1;rw[Ej h3];rfl
    ·cases h1
  ·cases h
theorem Ra {f:FuncId} {fn:Func} {c:Code} {args:List AV} {rs:List ResultVar} {res:List RV} {sl0:List (Nat×T)} (hf:P.funcs[f]?=some fn) (hb:fn.body=some c:=by exact rfl) (hnm:(fn.name== "runtime.NumGoroutine")=false:=by kernel_rfl) (hN:fn.ntmps=N) (hrs:fn.results.toList=rs:=by exact rfl)
 (ha:Nat.ble args.length N=true:=by exact rfl) (hs:HX 0 args=some sl0:=by exact rfl) (h:AWC P N c ⟨sl0,[],0⟩ (DO N P rs res)):Fn P f args res:=by
 rw[DW hs] at h
 exact fn_of hf hb hnm hN hrs ha h
end
end Go.AM
namespace Go.AM
section
variable {P:Program} {N:Nat} {K:St→Prop} {AQ:Exit→St→Prop} {s:St} {n id:Nat}
theorem tn (h:K s):sr K AQ .normal s:=h
theorem tr (h:AQ .ret s):sr K AQ .ret s:=h
theorem te (h:AQ (.exit n) s):sr K AQ (.exit n) s:=h
theorem bn (h:AQ .normal s):jm id AQ .normal s:=h
theorem br (h:AQ .ret s):jm id AQ .ret s:=h
theorem bx (hb:d0 n id=true) (h:AQ .normal s):jm id AQ (.exit n) s:=by simp only[jm,hb];exact h
theorem bo (hb:d0 n id=false) (h:AQ (.exit n) s):jm id AQ (.exit n) s:=by simp only[jm,hb];exact h
theorem ah {rs:List ResultVar} {res res':List RV} {vs:List V} {ls:List Nat} (h:mU P s rs vs:=by repeat' (first|exact .nil|apply mU.cons|exact .tmp rfl|exact .cell rfl rfl rfl|exact .cell1 rfl rfl)) (he:uY s.ob vs=some (res',ls):=by exact rfl) (hn:lG ls=true:=by exact rfl) (hr:res'=res:=by first|rfl|simp):DO N P rs res .ret s:=by
 subst hr;exact N8 ⟨vs,ls,h,he,hn⟩
end
end Go.AM
namespace Go.AM
open Go.RowKit Go.ChangeShapes Go.WideShapes Go.Deep
inductive Sh where
 |i (k:IntKind)
 |b
 |str
 |l (e:List Sh)
mutual
inductive WT:Sh→D→Prop
 |i {k:IntKind} {n:Int} (h:(Lit.int k n).wf=true):WT (.i k) (.i k n)
 |b {x:Bool}:WT .b (.b x)
 |str {s:ByteArray} (h:s.size≤maxLen):WT .str (.str s)
 |l {e:List Sh} {xs:List (List D)} (hl:xs.length≤maxLen) (h:WTL e xs):WT (.l e) (.l xs)
inductive WTs:List Sh→List D→Prop
 |nil:WTs [] []
 |cons {s:Sh} {ss:List Sh} {x:D} {xs:List D} (h:WT s x) (h':WTs ss xs):WTs (s::ss) (x::xs)
inductive WTL:List Sh→List (List D)→Prop
 |nil {e:List Sh}:WTL e []
 |cons {e:List Sh} {x:List D} {xs:List (List D)} (h:WTs e x) (h':WTL e xs):WTL e (x::xs)
end
theorem WTs.len:∀{ss:List Sh} {xs:List D},WTs ss xs→xs.length=ss.length
 |_,_,.nil=>rfl
 |_,_,.cons _ h=>by simp[WTs.len h]
theorem WTs.append:∀{ss ts:List Sh} {xs ys:List D},WTs ss xs→WTs ts ys→WTs (ss++ts) (xs++ys)
 |_,_,_,_,.nil,h=>h
 |_,_,_,_,.cons h h',k=>.cons h (h'.append k)
mutual
inductive rR (P:Program):TypeId→List Sh→Prop
 |int {t:TypeId} {k:IntKind} (h:P.underlying t=some (.int k)):rR P t [.i k]
 |bool {t:TypeId} (h:P.underlying t=some .bool):rR P t [.b]
 |string {t:TypeId} (h:P.underlying t=some .string):rR P t [.str]
 |slice {t e:TypeId} {ss:List Sh} (h:P.underlying t=some (.slice e)) (he:rR P e ss) (hc:P.cellsOf e=ss.length) (hp:0<ss.length):rR P t [.l ss]
 |struct {t:TypeId} {fs:Array Field} {ss:List Sh} (h:P.underlying t=some (.struct fs)) (hf:HasFs P 0 fs.toList ss) (hc:P.cellsOf t=ss.length):rR P t ss
inductive HasFs (P:Program):Nat→List Field→List Sh→Prop
 |nil {o:Nat}:HasFs P o [] []
 |cons {o:Nat} {f:Field} {fs:List Field} {s1 s2:List Sh} (ho:f.offset=o) (h:rR P f.type s1) (hc:P.cellsOf f.type=s1.length) (h':HasFs P (o+s1.length) fs s2):HasFs P o (f::fs) (s1++s2)
end
theorem CC {w:World} {F:Nat→Prop}:∀{xs ys:List D} {us vs:List Value},DV w F xs us→DV w F ys vs→DV w F (xs++ys) (us++vs)
 |[],_,[],_,_,h=>h
 |_::_,_,_::_,_,h,k=>⟨h.1,CC h.2 k⟩
 |[],_,_::_,_,h,_=>h.elim
 |_::_,_,[],_,h,_=>h.elim
section
variable {H:Type} {enc:TypeId×Value→H} {P:Program} {w:World} {spare:Nat→Bool} {held:Bool}
theorem Dg {F:Nat→Prop}:∀{xs:List D} {us:List Value} {b k:Nat},DV w F xs us→(∀j,j<us.length→w.cell? ⟨b,k+j,none⟩=us[j]?)→rdL w F xs b k
 |[],[],_,_,_,_=>by simp[rdL]
 |x::xs,u::us,b,k,h,hc=>by
  rw[rdL]
  refine⟨⟨u,by simpa using hc 0 (by simp),h.1⟩,Dg h.2 fun j hj=>?_⟩
  have:=hc (j+1) (by simp;omega)
  rw[show k+(j+1)=k+1+j from by omega] at this
  simpa using this
 |[],_::_,_,_,h,_=>h.elim
 |_::_,[],_,_,h,_=>h.elim
mutual
theorem EE:∀{t:TypeId} {ss:List Sh},rR P t ss→∀{fuel:Nat} {cs:List Value} {x:DataW H×List MemPlace},DataW.trod enc P w 0 (fun _=>true) held fuel t cs=some x→
 ∃xs,WTs ss xs∧DV w (fun b=>b<w.heap.size) xs cs
 |_,_,.int ht,fuel,cs,x,h=>by
  obtain⟨n,rfl,_,hw⟩:=DataW.trod_int ht h
  exact⟨[.i _ n],.cons (.i hw) .nil,by simp[rdD],trivial⟩
 |_,_,.bool ht,fuel,cs,x,h=>by
  obtain⟨b,rfl,_⟩:=DataW.trod_bool ht h
  exact⟨[.b b],.cons .b .nil,by simp[rdD],trivial⟩
 |_,_,.string ht,fuel,cs,x,h=>by
  obtain⟨s,rfl,_,hs⟩:=DataW.trod_string ht h
  exact⟨[.str s],.cons (.str hs) .nil,by simp[rdD],trivial⟩
 |_,_,.slice (ss:=ss) (e:=e) ht he hc hp,fuel,cs,x,h=>by
  rcases open_slice ht h with⟨rfl,_⟩|⟨a,len,cap,m,n,Dt,Pl,rfl,_,hl,hm,hmm,_,hi⟩
  ·exact⟨[.l []],.cons (.l (Ud _) .nil) .nil,by rw[rdD];exact⟨none,0,rfl,Nat.le_refl _,.inl rfl⟩,trivial⟩
  ·have hmc:m=cap:=by simpa using hmm
   have each:∀i,i<len→∃xs,WTs ss xs∧∃us,us.length=ss.length∧DV w (fun b=>b<w.heap.size) xs us∧∀j,j<ss.length→w.cell? ((a.add (i*ss.length)).add j)=us[j]?:=by
    intro i hil
    obtain⟨cs',h1,h2⟩:=hi i (by omega)
    obtain⟨_,h3,h4⟩:=World.cells?_some h1
    obtain⟨xs,k1,k2⟩:=EE he h2
    rw[hc] at h3 h4
    exact⟨xs,k1,cs',h3,k2,h4⟩
   by_cases h0:len=0
   ·subst h0
    exact⟨[.l []],.cons (.l (Ud _) .nil) .nil,by rw[rdD];exact⟨some a,cap,rfl,Ud _,.inl rfl⟩,trivial⟩
   ·
     obtain⟨xs0,k1,us0,k2,k3,k4⟩:=each 0 (by omega)
     have hc0:=k4 0 hp
     have hu0:∃u,us0[0]?=some u:=⟨_,v0 (by omega)⟩
     obtain⟨u0,hu0⟩:=hu0
     have hcell:w.cell? a=some u0:=by rw[←hu0,←hc0];simp[Addr.add]
     obtain⟨b,off,spot⟩:=a
     have hsp:spot=none:=by
      cases spot with
      |none=>rfl
      |some s=>exfalso;simp[World.cell?] at hcell;split at hcell<;>cases hcell
     subst hsp
     have hb:b<w.heap.size:=World.block_lt_of_cell? w ⟨b,off,none⟩ hcell
     have build:∀n i,i+n=len→∃els,WTL ss els∧els.length=n∧(∀e'∈els,e'.length=ss.length)∧rdLL w (fun b=>b<w.heap.size) els b (off+i*ss.length):=by
      intro n
      induction n with
      |zero=>intro i _;exact⟨[],.nil,rfl,by simp,by simp[rdLL]⟩
      |succ n ihn=>
       intro i hin
       obtain⟨xs,l1,us,l2,l3,l4⟩:=each i (by omega)
       obtain⟨els,m1,m2,m3,m4⟩:=ihn (i+1) (by omega)
       have hxl:=l1.len
       refine⟨xs::els,.cons l1 m1,by simp[m2],by simpa using⟨hxl,m3⟩,?_⟩
       rw[rdLL]
       refine⟨Dg l3 fun j hj=>?_,?_⟩
       ·have:=l4 j (by omega)
        rw[sH,sH] at this;exact this
       ·rw[hxl]
        rwa [show off+(i+1)*ss.length=off+i*ss.length+ss.length from by rw[Nat.add_mul];omega] at m4
     obtain⟨els,m1,m2,m3,m4⟩:=build len 0 (by omega)
     refine⟨[.l els],.cons (.l (by rw[m2];omega) m1) .nil,?_,trivial⟩
     rw[rdD]
     exact⟨_,_,by rw[m2],by rw[m2];exact hl,.inr ⟨b,off,rfl,hb,by simpa using m4⟩⟩
 |_,_,.struct (fs:=fs) ht hf hc,fuel,cs,x,h=>by
  obtain⟨ys,n,_,_,h3,h4,h5⟩:=DataW.trod_struct ht h
  have key:=open_fs hf (fuel:=n) (cs:=cs) (fun f hf=>by
   obtain⟨i,hi⟩:=List.getElem?_of_mem hf
   have h6:=h5 i f (by simpa using hi)
   have hlt:i<ys.length:=by rw[h4];simpa using(Tm.1 hi).1
   exact⟨_,h6.trans (v0 hlt)⟩)
  obtain⟨xs,k1,k2⟩:=key
  refine⟨xs,k1,?_⟩
  rw[UB,←hc,←h3,UD] at k2
  exact k2
theorem open_fs:∀{o:Nat} {fs:List Field} {ss:List Sh},HasFs P o fs ss→∀{fuel:Nat} {cs:List Value},(∀f∈fs,∃x,DataW.trod enc P w 0 (fun _=>true) held fuel f.type ((cs.drop f.offset).take (P.cellsOf f.type))=some x)→
 ∃xs,WTs ss xs∧DV w (fun b=>b<w.heap.size) xs ((cs.drop o).take ss.length)
 |_,_,_,.nil,fuel,cs,h=>⟨[],.nil,by simp[DV]⟩
 |o,_,_,.cons (f:=f) (s1:=s1) (s2:=s2) ho hs hc hf,fuel,cs,h=>by
  obtain⟨x,hx⟩:=h f (by simp)
  obtain⟨xs1,k1,k2⟩:=EE hs hx
  obtain⟨xs2,m1,m2⟩:=open_fs hf (fun g hg=>h g (by simp[hg]))
  refine⟨xs1++xs2,k1.append m1,?_⟩
  rw[ho,hc] at k2
  have:=CC k2 m2
  rwa [Ut,List.take_add,Ux]
end
theorem N2 {t:TypeId} {r:Reach} {b0:Nat} {v:Value} {s:Sh} (hs:rR P t [s]) (hn:∀fs,P.underlying t≠some (.struct fs)) (hv:Value.okWide P w r b0 t v):v.cells.toList=[v]:=by
 cases hs with
 |int h=>obtain⟨n,rfl⟩:=okWide_int h hv;rfl
 |bool h=>obtain⟨n,rfl⟩:=okWide_bool h hv;rfl
 |string h=>obtain⟨n,rfl⟩:=okWide_string h hv;rfl
 |slice h=>obtain⟨a,l,c,rfl⟩:=okWide_slice h hv;rfl
 |struct h=>exact absurd h (hn _)
theorem open_c {t:TypeId} {r:Reach} {b0:Nat} {v:Value} {d:DataW H} {p:List MemPlace} {s:Sh} (hs:rR P t [s]) (hn:∀fs,P.underlying t≠some (.struct fs)) (hv:Value.okWide P w r b0 t v) (h:DataW.Trod enc P w 0 (fun _=>true) held t v d p):
 ∃x,WT s x∧avR w (fun b=>b<w.heap.size) (.c x) v:=by
 obtain⟨fuel,hf⟩:=h
 rw[N2 hs hn hv] at hf
 obtain⟨xs,h1,h2⟩:=EE hs hf
 cases h1 with
 |cons h h'=>cases h' with
  |nil=>exact⟨_,h,h2.1⟩
end
theorem Ji {α:Type} {e:List Sh} {f:α→List D} {p:α→Prop} (h:∀x,WTs e x→∃a,x=f a∧p a):∀{xs:List (List D)},WTL e xs→∃l:List α,xs=l.map f∧∀a∈l,p a
 |_,.nil=>⟨[],rfl,by simp⟩
 |_,.cons h1 h2=>by
  obtain⟨a,rfl,ha⟩:=h _ h1
  obtain⟨l,rfl,hl⟩:=Ji h h2
  exact⟨a::l,rfl,by simpa using⟨ha,hl⟩⟩
theorem Iv {w w':World} (h:DN w w' (fun _=>False)):Below w.heap.size w w':=⟨h.os,h.tape,h.output,h.size,fun b hb=>h.block b hb (fun h=>h)⟩
theorem law_calls {P:Program} {f:FuncId} {args:List AV} {w:World} {vals:Array Value} (h:Fn P f args [rB true]) (hT:TabsIn w) (hA:AR w (fun b=>b<w.heap.size) args vals.toList):
 Calls P f vals w fun e w'=>e= .returned (.bool true)∧Below w.heap.size w w':=by
 refine(h.calls _ w vals (fun _ h=>h) hT hA).mono ?_
 rintro e w' ⟨v,G,bs,rfl,hp,_,hr,_⟩
 obtain⟨_,hr⟩:=hr
 simp only[rdD] at hr
 exact⟨by rw[hr],Iv hp⟩
end Go.AM
namespace Go.AM
abbrev WR (n:Int):Int:=IntKind.i64.wrap n
end Go.AM
namespace Go.AM
theorem Fn.frz {P:Program} {f:FuncId} {args:List AV} {ty sz n:Nat} {els:List (List D)} (h:Fn P f args [.c (.own ty sz els n)]) (hn:els.length=n):Fn P f args [.c (.d (.l els))]:=by
 refine⟨h.enters,fun F w vals hF hT hA=>(h.calls F w vals hF hT hA).mono ?_⟩
 rintro e w' ⟨v,G,bs,rfl,hp,hG,hr,_⟩
 obtain⟨b,c,arr,rfl,rfl,hh,ha,hlc,hmx,hes,hrd,hgb,hbb⟩:=hr
 subst hn
 have hlt:b<w'.heap.size:=by
  rcases Nat.lt_or_ge b w'.heap.size with h|h
  ·exact h
  ·rw[Array.getElem?_eq_none h] at hh;cases hh
 refine⟨_,fun k=>G k∨k=b,[],rfl,hp,?_,⟨rfl,?_⟩,by simp⟩
 ·rintro k (hk|rfl)
  ·exact hG k hk
  ·exact⟨hbb,hlt,.mk hh⟩
 ·rw[rdD]
  exact⟨_,_,rfl,hlc,.inr ⟨b,0,rfl,.inr rfl,cm (fun _ _=>rfl) (fun _ h=>.inl h) rfl _ _ hrd⟩⟩
mutual
inductive WS:Sh→D→Prop
 |i {k:IntKind} {n:Int} (h:(Lit.int k n).wf=true):WS (.i k) (.i k n)
 |b {x:Bool}:WS .b (.b x)
 |str {s:ByteArray} (h:s.size≤maxLen):WS .str (.str s)
 |l {e:List Sh} {xs:List (List D)} (hl:xs.length≤1048576) (h:WSL e xs):WS (.l e) (.l xs)
inductive WSs:List Sh→List D→Prop
 |nil:WSs [] []
 |cons {s:Sh} {ss:List Sh} {x:D} {xs:List D} (h:WS s x) (h':WSs ss xs):WSs (s::ss) (x::xs)
inductive WSL:List Sh→List (List D)→Prop
 |nil {e:List Sh}:WSL e []
 |cons {e:List Sh} {x:List D} {xs:List (List D)} (h:WSs e x) (h':WSL e xs):WSL e (x::xs)
end
mutual
def tot:D→Nat
 | .l xs=>xs.length+totLL xs
 | .i _ _=>0
 | .b _=>0
 | .str _=>0
 | .k _ _ _=>0
def totLL:List (List D)→Nat
 |[]=>0
 |e::es=>totL e+totLL es
def totL:List D→Nat
 |[]=>0
 |d::ds=>tot d+totL ds
end
@[simp] theorem tot_i {k:IntKind} {n:Int}:tot (.i k n)=0:=by rw[tot]
@[simp] theorem tot_b {x:Bool}:tot (.b x)=0:=by rw[tot]
@[simp] theorem tot_str {s:ByteArray}:tot (.str s)=0:=by rw[tot]
@[simp] theorem tot_l {xs:List (List D)}:tot (.l xs)=xs.length+totLL xs:=by rw[tot]
@[simp] theorem totL_nil:totL []=0:=by rw[totL]
@[simp] theorem totL_cons {x:D} {xs:List D}:totL (x::xs)=tot x+totL xs:=by rw[totL]
@[simp] theorem totLL_nil:totLL []=0:=by rw[totLL]
@[simp] theorem totLL_cons {x:List D} {xs:List (List D)}:totLL (x::xs)=totL x+totLL xs:=by rw[totLL]
mutual
theorem WS_of:∀{s:Sh} {x:D},WT s x→tot x≤1048576→WS s x
 |_,_,.i h,_=>.i h
 |_,_,.b,_=>.b
 |_,_,.str h,_=>.str h
 |_,_,.l hl h,ht=>by rw[tot_l] at ht;exact .l (by omega) (WSL_of h (by omega))
theorem Mm:∀{s:List Sh} {x:List D},WTs s x→totL x≤1048576→WSs s x
 |_,_,.nil,_=>.nil
 |_,_,.cons h h',ht=>by rw[totL_cons] at ht;exact .cons (WS_of h (by omega)) (Mm h' (by omega))
theorem WSL_of:∀{s:List Sh} {x:List (List D)},WTL s x→totLL x≤1048576→WSL s x
 |_,_,.nil,_=>.nil
 |_,_,.cons h h',ht=>by rw[totLL_cons] at ht;exact .cons (Mm h (by omega)) (WSL_of h' (by omega))
end
section
variable {k:IntKind} {e ss:List Sh} {x:List D} {xs:List (List D)} {d:D}
theorem WS.gi (h:WS (.i k) d):∃n,d= .i k n∧(Lit.int k n).wf=true:=by cases h with|i h=>exact⟨_,rfl,h⟩
theorem WS.gs (h:WS .str d):∃s,d= .str s∧s.size≤maxLen:=by cases h with|str h=>exact⟨_,rfl,h⟩
theorem WS.gl (h:WS (.l e) d):∃ys,d= .l ys∧ys.length≤1048576∧WSL e ys:=by cases h with|l hl h=>exact⟨_,rfl,hl,h⟩
theorem WSs.gn (h:WSs [] x):x=[]:=by cases h;rfl
theorem WSs.gi (h:WSs (.i k::ss) x):∃n r,x= .i k n::r∧(Lit.int k n).wf=true∧WSs ss r:=by cases h with|cons h h'=>cases h with|i h=>exact⟨_,_,rfl,h,h'⟩
theorem WSs.gs (h:WSs (.str::ss) x):∃s r,x= .str s::r∧s.size≤maxLen∧WSs ss r:=by cases h with|cons h h'=>cases h with|str h=>exact⟨_,_,rfl,h,h'⟩
theorem WSs.gl (h:WSs (.l e::ss) x):∃ys r,x= .l ys::r∧ys.length≤1048576∧WSL e ys∧WSs ss r:=by cases h with|cons h h'=>cases h with|l hl h=>exact⟨_,_,rfl,hl,h,h'⟩
theorem WTs.gn (h:WTs [] x):x=[]:=by cases h;rfl
theorem WTs.gi (h:WTs (.i k::ss) x):∃n r,x= .i k n::r∧(Lit.int k n).wf=true∧WTs ss r:=by cases h with|cons h h'=>cases h with|i h=>exact⟨_,_,rfl,h,h'⟩
theorem WTs.gs (h:WTs (.str::ss) x):∃s r,x= .str s::r∧s.size≤maxLen∧WTs ss r:=by cases h with|cons h h'=>cases h with|str h=>exact⟨_,_,rfl,h,h'⟩
theorem WTs.gl (h:WTs (.l e::ss) x):∃ys r,x= .l ys::r∧ys.length≤9223372036854775807∧WTL e ys∧WTs ss r:=by cases h with|cons h h'=>cases h with|l hl h=>exact⟨_,_,rfl,by unfold maxLen at hl;simpa using hl,h,h'⟩
theorem WT.gl (h:WT (.l e) d):∃ys,d= .l ys∧ys.length≤9223372036854775807∧WTL e ys:=by cases h with|l hl h=>exact⟨_,rfl,by unfold maxLen at hl;simpa using hl,h⟩
theorem WT.gi (h:WT (.i k) d):∃n,d= .i k n∧(Lit.int k n).wf=true:=by cases h with|i h=>exact⟨_,rfl,h⟩
theorem WT.gs (h:WT .str d):∃s,d= .str s∧s.size≤maxLen:=by cases h with|str h=>exact⟨_,rfl,h⟩
theorem WSs.len:∀{ss:List Sh} {xs:List D},WSs ss xs→xs.length=ss.length
 |_,_,.nil=>rfl
 |_,_,.cons _ h=>by simp[WSs.len h]
theorem WSL.len:∀{xs:List (List D)},WSL ss xs→∀e∈xs,e.length=ss.length
 |_,.nil=>by simp
 |_,.cons h h'=>by simpa using⟨h.len,WSL.len h'⟩
theorem WTL.len:∀{xs:List (List D)},WTL ss xs→∀e∈xs,e.length=ss.length
 |_,.nil=>by simp
 |_,.cons h h'=>by simpa using⟨h.len,WTL.len h'⟩
theorem WSL.get:∀{xs:List (List D)},WSL ss xs→∀(i:Nat) (h:i<xs.length),WSs ss xs[i]
 |_::_,.cons h h',0,_=>h
 |_::_,.cons h h',i+1,hi=>by simpa using WSL.get h' i (by simpa using hi)
theorem WTL.get:∀{xs:List (List D)},WTL ss xs→∀(i:Nat) (h:i<xs.length),WTs ss xs[i]
 |_::_,.cons h h',0,_=>h
 |_::_,.cons h h',i+1,hi=>by simpa using WTL.get h' i (by simpa using hi)
theorem WSL.at {k:Nat} (h:WSL ss xs) (hk:k<xs.length):∃e,xs[k]=e∧xs[(k:Int).toNat]?=some e∧WSs ss e:=⟨_,rfl,by simp[hk],h.get k hk⟩
theorem WTL.at {k:Nat} (h:WTL ss xs) (hk:k<xs.length):∃e,xs[k]=e∧xs[(k:Int).toNat]?=some e∧WTs ss e:=⟨_,rfl,by simp[hk],h.get k hk⟩
end
end Go.AM
namespace Go.AM
open Go.RowKit
section
variable {P:Program} {d:Option Tmp} {ty:TypeId} {ps:String} {af:Array Edge} {gd:Option (Nat×Bool)} {x y z:Operand}
@[irreducible] def booB (a b:Bool):Bool:=a==b
@[simp] theorem booB_t {a b:Bool}:booB a b=true↔a=b:=by simp[booB]
@[simp] theorem booB_f {a b:Bool}:booB a b=false↔a≠b:=by simp[booB]
theorem NG {t t':TypeId} {g g':Bool} {a b:Bool} [ht:TyU P t .bool]:
 AWN P ⟨d,.binOp .eql t x y t',ty,ps,af,gd⟩ [(x,.v (.c (.d g (.b a)))),(y,.v (.c (.d g' (.b b))))] [] (.v (.c (.d false (.b (booB a b))))) []:=
 b7 fun E ac w hn _=>by
  have h1:=qS (hn x _ (.head _))
  have h2:=qS (hn y _ (.tail _ (.head _)))
  exact⟨.bool (a==b),by simp[execOp,h1,h2,eqGuard,binOp,run_equal_bool w t a b ht.h],by simp[cvT,cvV,cvC,rdD,booB]⟩
theorem NH {t t':TypeId} {g g':Bool} {a b:Bool} [ht:TyU P t .bool]:
 AWN P ⟨d,.binOp .neq t x y t',ty,ps,af,gd⟩ [(x,.v (.c (.d g (.b a)))),(y,.v (.c (.d g' (.b b))))] [] (.v (.c (.d false (.b (!booB a b))))) []:=
 b7 fun E ac w hn _=>by
  have h1:=qS (hn x _ (.head _))
  have h2:=qS (hn y _ (.tail _ (.head _)))
  exact⟨.bool (!(a==b)),by simp[execOp,h1,h2,eqGuard,binOp,run_equal_bool w t a b ht.h],by simp[cvT,cvV,cvC,rdD,booB]⟩
theorem wv {t e:TypeId} (h:P.underlying t=some (.slice e)):P.elem t=e∧P.underlying t=some (.slice (P.elem t)):=by
 have:P.elem t=e:=by simp[Program.elem,h]
 exact⟨this,by rw[this];exact h⟩
theorem Dh {w:World} {F:Nat→Prop} {xs:List (List D)} {A:Option Addr} {c l h sz:Nat} (hs:∀e∈xs,e.length=sz) (h1:l≤h) (h2:h≤xs.length) (hlc:xs.length≤c)
 (hr:xs=[]∨∃b off,A=some ⟨b,off,none⟩∧F b∧rdLL w F xs b off):rdD w F (.l ((xs.take h).drop l)) (sliced A l h c sz):=by
 have hl:((xs.take h).drop l).length=h-l:=by simp;omega
 rw[rdD,hl]
 refine⟨_,_,rfl,by omega,?_⟩
 by_cases hlh:h=l
 ·left;exact List.eq_nil_of_length_eq_zero (by rw[hl];omega)
 ·right
  rcases hr with rfl|⟨b,off,rfl,hb,hr⟩
  ·simp at h2;omega
  ·rw[if_neg (by omega)]
   exact⟨b,off+l*sz,by simp[Addr.add],hb,yf (nR h hr) (fun e he=>hs e (Uw he)) l⟩
theorem In {t e sz by_:Nat} {g g2:Bool} {xs:List (List D)} {h:Int} {hi:Operand} [ht:TySl P t e sz by_] (hs:∀e∈xs,e.length=sz) (h0:0≤h) (h2:h≤xs.length):
 AWN P ⟨d,.slice t x none (some hi) none,ty,ps,af,gd⟩ [(x,.v (.c (.d g (.l xs)))),(hi,.v (.c (.d g2 (.i .i64 h))))] [] (.v (.c (.d g (.l (xs.take h.toNat))))) []:=
 b7 fun E ac w hn _=>by
  have k1:=hn x _ (.head _)
  have k3:=gB (hn hi _ (.tail _ (.head _)))
  simp only[cvT,cvV,cvC,rdD] at k1
  obtain⟨A,c,hu,hlc,hr⟩:=k1
  obtain⟨i,z,hi1,hi2,_⟩:=ht.i
  obtain⟨he,hu'⟩:=wv ht.u
  refine⟨sliced A 0 h.toNat c sz,?_,by have:=Dh (l:=0) (h:=h.toNat) hs (by omega) (by omega) hlc hr;rw[UB] at this;exact this⟩
  simp[execOp,hu,k3,run_sliceAt_slice w t _ _ _ _ hu',run_slice_h w t A xs.length c hu' .i64 h h0 (by omega),he,ez hi1,hi2]
theorem Io {t e sz by_:Nat} {g g2:Bool} {xs:List (List D)} {l:Int} {lo:Operand} [ht:TySl P t e sz by_] (hs:∀e∈xs,e.length=sz) (h0:0≤l) (h2:l≤xs.length):
 AWN P ⟨d,.slice t x (some lo) none none,ty,ps,af,gd⟩ [(x,.v (.c (.d g (.l xs)))),(lo,.v (.c (.d g2 (.i .i64 l))))] [] (.v (.c (.d g (.l (xs.drop l.toNat))))) []:=
 b7 fun E ac w hn _=>by
  have k1:=hn x _ (.head _)
  have k3:=gB (hn lo _ (.tail _ (.head _)))
  simp only[cvT,cvV,cvC,rdD] at k1
  obtain⟨A,c,hu,hlc,hr⟩:=k1
  obtain⟨i,z,hi1,hi2,_⟩:=ht.i
  obtain⟨he,hu'⟩:=wv ht.u
  refine⟨sliced A l.toNat xs.length c sz,?_,by have:=Dh (l:=l.toNat) (h:=xs.length) hs (by omega) (by omega) hlc hr;rw[UD] at this;exact this⟩
  simp[execOp,hu,k3,run_sliceAt_slice w t _ _ _ _ hu',run_slice_l w t A xs.length c hu' .i64 l h0 (by omega),he,ez hi1,hi2]
end
section
variable {P:Program} {N:Nat} {d:Tmp} {ty:TypeId} {ps:String} {af:Array Edge} {gd:Option (Nat×Bool)} {x y z:Operand} {sl:List (Nat×T)} {ob:List (Nat×Ob)} {nx:Nat}
theorem bq {t t':TypeId} {g g':Bool} {a b:Bool} [TyU P t .bool] (hx:opT sl x= .v (.c (.d g (.b a)))) (hy:opT sl y= .v (.c (.d g' (.b b)))) (hN:nlt d N=true):
 NS0 P N ⟨some d,.binOp .eql t x y t',ty,ps,af,gd⟩ sl ob nx d (tB (booB a b)) ⟨d,[(x,.v (.c (.d g (.b a)))),(y,.v (.c (.d g' (.b b))))],[],tB (booB a b),[]⟩:=db (st:=⟨sl,ob,nx⟩) NG rfl hN ⟨hx,hy,trivial⟩ trivial rfl
theorem bne {t t':TypeId} {g g':Bool} {a b:Bool} [TyU P t .bool] (hx:opT sl x= .v (.c (.d g (.b a)))) (hy:opT sl y= .v (.c (.d g' (.b b)))) (hN:nlt d N=true):
 NS0 P N ⟨some d,.binOp .neq t x y t',ty,ps,af,gd⟩ sl ob nx d (tB (!booB a b)) ⟨d,[(x,.v (.c (.d g (.b a)))),(y,.v (.c (.d g' (.b b))))],[],tB (!booB a b),[]⟩:=db (st:=⟨sl,ob,nx⟩) NH rfl hN ⟨hx,hy,trivial⟩ trivial rfl
theorem cdh {t e sz by_:Nat} {g g2:Bool} {xs:List (List D)} {h:Int} {hi:Operand} [ht:TySl P t e sz by_] (hx:opT sl x= .v (.c (.d g (.l xs)))) (hh:opT sl hi= .v (.c (.d g2 (.i .i64 h)))) (hN:nlt d N=true)
 (hs:∀e∈xs,e.length=sz) (h0:0≤h) (h2:h≤xs.length):
 NS0 P N ⟨some d,.slice t x none (some hi) none,ty,ps,af,gd⟩ sl ob nx d (.v (.c (.d g (.l (xs.take h.toNat))))) ⟨d,[(x,.v (.c (.d g (.l xs)))),(hi,.v (.c (.d g2 (.i .i64 h))))],[],.v (.c (.d g (.l (xs.take h.toNat)))),[]⟩:=
 db (st:=⟨sl,ob,nx⟩) (In hs h0 h2) rfl hN ⟨hx,hh,trivial⟩ trivial rfl
theorem cdl {t e sz by_:Nat} {g g2:Bool} {xs:List (List D)} {l:Int} {lo:Operand} [ht:TySl P t e sz by_] (hx:opT sl x= .v (.c (.d g (.l xs)))) (hl:opT sl lo= .v (.c (.d g2 (.i .i64 l)))) (hN:nlt d N=true)
 (hs:∀e∈xs,e.length=sz) (h0:0≤l) (h2:l≤xs.length):
 NS0 P N ⟨some d,.slice t x (some lo) none none,ty,ps,af,gd⟩ sl ob nx d (.v (.c (.d g (.l (xs.drop l.toNat))))) ⟨d,[(x,.v (.c (.d g (.l xs)))),(lo,.v (.c (.d g2 (.i .i64 l))))],[],.v (.c (.d g (.l (xs.drop l.toNat)))),[]⟩:=
 db (st:=⟨sl,ob,nx⟩) (Io hs h0 h2) rfl hN ⟨hx,hl,trivial⟩ trivial rfl
end
end Go.AM
namespace Go.AM
def fi (e:List D) (j:Nat):Int:=match e[j]? with|some (.i _ n)=>n|_=>0
def fb (e:List D) (j:Nat):Bool:=match e[j]? with|some (.b n)=>n|_=>false
def fs (e:List D) (j:Nat):ByteArray:=match e[j]? with|some (.str n)=>n|_=>⟨#[]⟩
def fl (e:List D) (j:Nat):List (List D):=match e[j]? with|some (.l n)=>n|_=>[]
@[simp] theorem fi_0 {k:IntKind} {n:Int} {r:List D}:fi (.i k n::r) 0=n:=rfl
@[simp] theorem fb_0 {n:Bool} {r:List D}:fb (.b n::r) 0=n:=rfl
@[simp] theorem fs_0 {n:ByteArray} {r:List D}:fs (.str n::r) 0=n:=rfl
@[simp] theorem fl_0 {n:List (List D)} {r:List D}:fl (.l n::r) 0=n:=rfl
@[simp] theorem fi_s {d:D} {r:List D} {j:Nat}:fi (d::r) (j+1)=fi r j:=rfl
@[simp] theorem fb_s {d:D} {r:List D} {j:Nat}:fb (d::r) (j+1)=fb r j:=rfl
@[simp] theorem fs_s {d:D} {r:List D} {j:Nat}:fs (d::r) (j+1)=fs r j:=rfl
@[simp] theorem fl_s {d:D} {r:List D} {j:Nat}:fl (d::r) (j+1)=fl r j:=rfl
def mL {α:Type} (f:α→Bool):Int→List α→Int
 |_,[]=> -1
 |i,a::l=>bif f a then i else mL f (i+1) l
theorem No {α:Type} {f:α→Bool} {l:List α} {k:Nat} {i:Int} (h:k<l.length):mL f i (l.drop k)=bif f l[k] then i else mL f (i+1) (l.drop (k+1)):=by rw[List.drop_eq_getElem_cons h];rfl
end Go.AM
namespace Go.AM
theorem aV {N:Nat} {sl:List (Nat×T)} {ob:List (Nat×Ob)} {nx o ty sz:Nat} {els:List (List D)} {g:Bool} (ho:go ob o=some (.row ty sz els g true):=by exact rfl) (hlt:rsv o=false:=by exact rfl):
 cZ N ⟨sl,ob,nx⟩ ⟨sl,(o,.row ty sz els g false)::ob,nx⟩:=by
 intro cx E a w hR
 obtain⟨b,c,arr,hr,hh,ha,hlc,hmx,hes,hrd,hFm,_⟩:=hR.obs o _ ho
 have hF:=hFm rfl
 obtain⟨hb1,hb2⟩:=hR.ok.rb o b c hr
 have hb3:cx.w0.heap.size≤b:=by
  rcases hb2 with h|h
  ·exact h
  ·rw[hlt] at h;cases h.2
 let E':Env:=⟨E.r,fun k=>E.F k∨k=b,fun k=>E.G k∨(g=true∧k=b),E.T,E.Z,E.n⟩
 have hH:∀g' k,E.H g' k→E'.H g' k:=fun g' k hk=>by cases g'<;>exact .inl hk
 have hk:iq E w E' w:=⟨fun _ _ h=>h,hH,fun _ _ _=>rfl,fun _ _ h=>⟨h,rfl⟩,fun _ h=>⟨h,.refl _ _⟩,rfl⟩
 refine⟨E',⟨?_,?_,?_,hR.ok.rb,hR.ok.inj,hR.ok.os,hR.ok.tape,hR.ok.output,hR.ok.size,hR.ok.block,hR.ok.pin,fun k hk=>hk.elim (hR.ok.ff k) (fun e=>.inr (e▸hb3)),fun k hk hk'=>hk.elim (fun h=>hR.ok.gc k h hk') (fun e=>e▸.mk hh),
  ⟨fun l k h=>?_,hR.ok.sf.tt,fun k h=>?_,hR.ok.sf.zs,hR.ok.sf.ze⟩⟩,hR.dom,fun l x hl=>?_,fun k=>ie hk (hR.sl k),hR.dfr,hR.size,hR.td⟩
 ·rintro k (h|rfl)
  ·exact hR.ok.fb k h
  ·exact hb1
 ·rintro k (h|⟨_,rfl⟩)
  ·exact .inl (hR.ok.gf k h)
  ·exact .inr rfl
 ·rintro k (h|⟨_,rfl⟩)
  ·exact hR.ok.gn k h
  ·exact .inl hb3
 ·obtain⟨h1,h2,h3,h4⟩:=hR.ok.sf.tb l k h
  exact⟨h1,fun hk=>hk.elim h2 (fun e=>by subst e;exact h3 o c hr),h3,h4⟩
 ·obtain⟨h1,h2,h3,h4⟩:=hR.ok.sf.zc k h
  exact⟨h1,fun hk=>hk.elim h2 (fun e=>by subst e;exact h3 o c hr),h3,h4⟩
 ·by_cases hol:o=l
  ·subst hol
   rw[cg] at hl
   cases hl
   exact⟨b,c,arr,hr,hh,ha,hlc,hmx,hes,cm (fun _ _=>rfl) (hH g) rfl _ _ hrd,(fun h=>by cases h),fun _=>⟨.inr rfl,fun hg=>.inr ⟨hg,rfl⟩⟩⟩
  ·rw[bA _ _ hol] at hl
   refine fg hk (fun _ _ _=>rfl) (fun b' c' hr' hn hn'=>?_) (hR.obs l x hl)
   rcases hn' with h|h
   ·exact hn h
   ·subst h;exact hol (hR.ok.inj _ _ _ _ _ hr hr')
def dfz (ob:List (Nat×Ob)):C→Option (C×List (Nat×Nat))
 | .w o n=>match go ob o with
  |some (.row _ _ els g false)=>some (.d g (.l els),[(els.length,n)])
  |_=>some (.w o n,[])
 |c=>some (c,[])
def K5 (ob:List (Nat×Ob)):List C→Option (List C×List (Nat×Nat))
 |[]=>some ([],[])
 |c::cs=>match dfz ob c,K5 ob cs with
  |some (x,e),some (xs,es)=>some (x::xs,e++es)
  |_,_=>none
def vfz (ob:List (Nat×Ob)):T→Option (T×List (Nat×Nat))
 | .v (.c c)=>match dfz ob c with
  |some (x,e)=>some (.v (.c x),e)
  |none=>none
 | .v (.agg cs)=>match K5 ob cs with
  |some (x,e)=>some (.v (.agg x),e)
  |none=>none
 |_=>none
theorem MR {E:Env} {w:World} {ob:List (Nat×Ob)} (hob:∀l x,go ob l=some x→cy E w l x) {c c':C} {e:List (Nat×Nat)} {u:Value} (h:dfz ob c=some (c',e)) (he:Eqs e) (hc:cvC E w c u):cvC E w c' u:=by
 unfold dfz at h
 split at h
 ·rename_i o n
  split at h
  ·rename_i ho
   simp at h;obtain⟨rfl,rfl⟩:=h
   obtain⟨b,c,hr,rfl⟩:=hc
   obtain⟨b',c',arr,hr',hh,ha,hlc,hmx,hes,hrd,_,hFm⟩:=hob o _ ho
   rw[hr] at hr';cases hr'
   obtain⟨h1,h2⟩:=hFm rfl
   have hn:=he.1
   subst hn
   show rdD _ _ _ _
   rw[rdD]
   refine⟨_,_,rfl,hlc,.inr ⟨b,0,rfl,?_,hrd⟩⟩
   rename_i g _
   cases g
   ·exact h1
   ·exact h2 rfl
  ·simp at h;obtain⟨rfl,rfl⟩:=h;exact hc
 ·simp at h;obtain⟨rfl,rfl⟩:=h;exact hc
theorem D7 {E:Env} {w:World} {ob:List (Nat×Ob)} (hob:∀l x,go ob l=some x→cy E w l x):∀{cs cs':List C} {e:List (Nat×Nat)} {us:List Value},K5 ob cs=some (cs',e)→Eqs e→CV E w cs us→CV E w cs' us
 |[],cs',e,us,h,he,hc=>by simp[K5] at h;obtain⟨rfl,rfl⟩:=h;exact hc
 |c::cs,cs',e,us,h,he,hc=>by
  cases us with
  |nil=>exact hc.elim
  |cons u us=>
   simp only[K5] at h
   split at h
   ·rename_i h1 h2
    simp at h;obtain⟨rfl,rfl⟩:=h
    obtain⟨k1,k2⟩:=ea he
    exact⟨MR hob h1 k1 hc.1,D7 hob h2 k2 hc.2⟩
   ·cases h
theorem cI {N:Nat} {sl:List (Nat×T)} {ob:List (Nat×Ob)} {nx k:Nat} {t t':T} {e:List (Nat×Nat)} (hk:gt sl k=t:=by exact rfl) (hv:vfz ob t=some (t',e):=by exact rfl) (he:Eqs e:=by repeat (first|exact trivial|refine⟨by first|rfl|exact lm _|simp,?_⟩)):cZ N ⟨sl,ob,nx⟩ ⟨(k,t')::sl,ob,nx⟩:=by
 intro cx E a w hR
 refine⟨E,hR.ok,hR.dom,hR.obs,fun j=>?_,hR.dfr,hR.size,hR.td⟩
 by_cases hj:k=j
 ·subst hj
  rw[dL]
  have:=hR.sl k
  rw[hk] at this
  unfold vfz at hv
  split at hv
  ·split at hv
   ·rename_i h1;simp at hv;obtain⟨rfl,rfl⟩:=hv;exact MR hR.obs h1 he this
   ·cases hv
  ·split at hv
   ·rename_i h1;simp at hv;obtain⟨rfl,rfl⟩:=hv;obtain⟨arr,hu,hc⟩:=this;exact⟨arr,hu,D7 hR.obs h1 he hc⟩
   ·cases hv
  ·cases hv
 ·rw[cR _ _ hj];exact hR.sl j
end Go.AM
namespace Go.AM
open Go.RowKit
inductive cp (σ ρ:Type) where
 |next (x:σ)
 |done (r:ρ)
def iter {σ ρ:Type} (step:σ→Option (cp σ ρ)):Nat→σ→Option ρ
 |0,_=>none
 |n+1,x=>match step x with
  |some (.next x')=>iter step n x'
  |some (.done r)=>some r
  |none=>none
def dn {σ ρ:Type} (o:Option ρ):Option (cp σ ρ):=match o with|some r=>some (.done r)|none=>none
@[irreducible] def FU:Nat:=18446744073709551616
def ix {α:Type} (xs:List α) (i:Int):Option α:=bif leB 0 i then xs[i.toNat]? else none
theorem bt {α:Type} {b:Bool} {x y:Option α} {r:Option α} (h:b=true) (H:(bif b then x else y)=r):x=r:=by subst h;exact H
theorem bf {α:Type} {b:Bool} {x y:Option α} {r:Option α} (h:b=false) (H:(bif b then x else y)=r):y=r:=by subst h;exact H
theorem ob {α β:Type} {o:Option α} {k:α→Option β} {r:β} (H:Option.bind o k=some r):∃a,o=some a∧k a=some r:=Option.bind_eq_some_iff.1 H
theorem rq {α:Type} {b:Bool} {x:Option α} {r:α} (H:(bif b then x else none)=some r):b=true∧x=some r:=by
 cases b
 ·cases H
 ·exact⟨rfl,H⟩
theorem dnE {σ ρ:Type} {m:Option ρ} {o:cp σ ρ} (H:dn m=some o):∃r,m=some r∧o= .done r:=by
 cases m with
 |none=>cases H
 |some r=>exact⟨r,rfl,(Option.some.inj H).symm⟩
theorem ixE {α:Type} {xs:List α} {i:Int} {x:α} (H:ix xs i=some x):0≤i∧xs[i.toNat]?=some x:=by
 unfold ix at H
 obtain⟨h,H⟩:=rq H
 exact⟨by simpa [leB] using h,H⟩
theorem Nx {α:Type} {xs:List α} {i:Int} {x:α} (H:ix xs i=some x):i<xs.length:=by
 obtain⟨h0,h1⟩:=ixE H
 have:=(Tm.1 h1).1
 omega
theorem eU {α β:Type} {xs:List α} {i:Int} {x:α} (f:α→β) (H:ix xs i=some x):(xs.map f)[i.toNat]?=some (f x):=by
 rw[List.getElem?_map,(ixE H).2];rfl
section
variable {P:Program} {N:Nat} {st:St} {AQ:Exit→St→Prop}
theorem an {a b c:St} (h:cZ N a b) (k:cZ N b c):cZ N a c:=fun cx E ac w hR=>let ⟨E',h'⟩:=h cx E ac w hR;k cx E' ac w h'
theorem uF (a:St):cZ N a a:=fun _ E _ _ h=>⟨E,h⟩
class Clo (N:Nat) (AQ:Exit→St→Prop):Prop where
 h:∀e s m,cZ N s m→AQ e m→AQ e s
instance {rs:List ResultVar} {res:List RV}:Clo N (DO N P rs res):=⟨fun e s m hw h=>by
 cases e<;>simp only[DO] at h ⊢<;>first|exact h|(obtain⟨s',h1,h2⟩:=h;exact⟨s',an hw h1,h2⟩)⟩
instance {y:Code} [c:Clo N AQ]:Clo N (sr (fun s=>AWC P N y s AQ) AQ):=⟨fun e s m hw h=>by
 cases e<;>first|exact jr hw h|exact c.h _ _ _ hw h⟩
instance {id:Nat} [c:Clo N AQ]:Clo N (jm id AQ):=⟨fun e s m hw h=>by
 cases e with
 |exit n=>
  simp only[jm] at h ⊢
  cases hb:d0 n id<;>rw[hb] at h<;>exact c.h _ _ _ hw h
 |_=>exact c.h _ _ _ hw h⟩
instance {M:St} [c:Clo N AQ]:Clo N (sr (fun s=>cZ N s M) AQ):=⟨fun e s m hw h=>by
 cases e<;>first|exact an hw h|exact c.h _ _ _ hw h⟩
def ey {σ ρ:Type} (N:Nat) (S:σ→St) (r:ρ) (o:cp σ ρ) (AQ:Exit→St→Prop):Exit→St→Prop:=
 sr (fun s=>∃x',o= .next x'∧cZ N s (S x')) (fun e s=>∃r',o= .done r'∧(r'=r→AQ e s))
instance {σ ρ:Type} {S:σ→St} {r:ρ} {o:cp σ ρ} [c:Clo N AQ]:Clo N (ey N S r o AQ):=⟨fun e s m hw h=>by
 cases e<;>first
  |(obtain⟨x',h1,h2⟩:=h;exact⟨x',h1,an hw h2⟩)
  |(obtain⟨r',h1,h2⟩:=h;exact⟨r',h1,fun hq=>c.h _ _ _ hw (h2 hq)⟩)⟩
theorem dU {σ ρ:Type} {S:σ→St} {r:ρ} {x':σ} {s:St} (h:cZ N s (S x')):ey (ρ:=ρ) N S r (.next x') AQ .normal s:=⟨x',rfl,h⟩
theorem dT {σ ρ:Type} {S:σ→St} {r r':ρ} {n:Nat} {s:St} (h:r'=r→AQ (.exit n) s):ey N S r (cp.done r') AQ (.exit n) s:=⟨r',rfl,h⟩
theorem ks {σ ρ:Type} {S:σ→St} {r r':ρ} {s:St} (h:r'=r→AQ .ret s):ey N S r (cp.done r') AQ .ret s:=⟨r',rfl,h⟩
theorem sL {x:Code} (M:St) [c:Clo N AQ] (h1:AWC P N x st (sr (fun s=>cZ N s M) AQ)) (h2:AQ .normal M):AWC P N x st AQ:=
 wg h1 fun e s h=>by
  cases e<;>first|exact c.h _ _ _ h h2|exact h
theorem qf {x:Code} {id:Nat} (M:St) [c:Clo N AQ] (h1:AWC P N x st (jm id (sr (fun s=>cZ N s M) AQ))) (h2:AQ .normal M):AWC P N x st (jm id AQ):=
 wg h1 fun e s h=>by
  cases e with
  |exit n=>
   simp only[jm] at h ⊢
   cases hb:d0 n id<;>rw[hb] at h
   ·exact h
   ·exact c.h _ _ _ h h2
  |normal=>exact c.h _ _ _ h h2
  |_=>exact h
class CloK (N:Nat) (K:St→Prop):Prop where
 h:∀s m,cZ N s m→K m→K s
instance {y:Code}:CloK N (fun s=>AWC P N y s AQ):=⟨fun s m hw h=>jr hw h⟩
instance [c:Clo N AQ]:CloK N (fun s=>AQ .normal s):=⟨fun s m hw h=>c.h _ _ _ hw h⟩
instance {M:St}:CloK N (fun s=>cZ N s M):=⟨fun s m hw h=>an hw h⟩
theorem FF {ops:Array Oper} {l:List Oper} {K:St→Prop} (M:St) [c:CloK N K] (h1:AWR P N ops l st (fun s=>cZ N s M)) (h2:K M):AWR P N ops l st K:=
 Mx (fun s h=>c.h _ _ h h2) h1
theorem Jx {ops:Array Oper} {K K':List Inf→St→Prop} (hk:∀is s,K is s→K' is s):∀{l:List Oper} {is:List Inf} {st:St},DR P N ops l is st K→DR P N ops l is st K'
 |[],is,st,h=>hk _ _ h
 |o::l,is,st,h=>by
  obtain⟨x,s1,s2,h1,h2,h3⟩:=h
  exact⟨x,s1,s2,h1,h2,Jx hk h3⟩
theorem fF {ops ops':Array Oper} {l:List Oper} {is:List Inf} {nx:Nat} {K:St→Prop} (M:St) [c:CloK N K] (h1:DR P N ops l is st (fun is t=>Ar ops' is nx=true∧cZ N t M)) (h2:K M):DR P N ops l is st (fun is t=>Ar ops' is nx=true∧K t):=
 Jx (fun is s h=>⟨h.1,c.h _ _ h.2 h2⟩) h1
theorem qd {c:Code} {σ ρ:Type} {step:σ→Option (cp σ ρ)} {n:Nat} {x0:σ} {r:ρ} (S:σ→St) (H:iter step n x0=some r) (h0:cZ N st (S x0))
 (round:∀x o,step x=some o→AWC P N c (S x) (ey N S r o AQ)):AWC P N (.loop c) st AQ:=by
 refine Mv (σ:=Nat×σ) (fun p=>iter step p.1 p.2=some r) (fun p=>S p.2) (fun p=>p.1) (n,x0) H h0 ?_
 rintro⟨m,x⟩ hI
 cases m with
 |zero=>cases hI
 |succ m=>
  simp only[iter] at hI
  cases hs:step x with
  |none=>rw[hs] at hI;cases hI
  |some o=>
   rw[hs] at hI
   refine wg (round x o hs) fun e s h=>?_
   cases o with
   |next x'=>
    cases e with
    |normal=>
     obtain⟨x'',hx,hw⟩:=h
     cases hx
     exact⟨(m,x'),hI,hw,Nat.lt_succ_self _⟩
    |_=>obtain⟨r',hx,_⟩:=h;cases hx
   |done r'=>
    cases hI
    cases e with
    |normal=>obtain⟨x'',hx,hw⟩:=h;cases hx
    |_=>obtain⟨r'',hx,h⟩:=h;cases hx;exact h rfl
end
end Go.AM
namespace Go.AM
open Go.RowKit
def GF (by_:Nat) (n c:Int):Bool:=decide (0≤n∧n≤c∧(by_:Int)*c≤281474976710656∧c≤9223372036854775807)
def cM (by_ n:Nat):Bool:=decide (n*by_≤140737488355328∧n≤9223372036854775807)
theorem Gz {α:Type} {enc:α→List D} {n:Nat} (h:∀a,(enc a).length=n) (l:List α):∀e∈l.map enc,e.length=n:=by
 intro e he;obtain⟨a,_,rfl⟩:=Ur.1 he;exact h a
theorem lm {α:Type} {enc:α→List D} (l:List α):(l.map enc).length=l.length:=Us _
section
variable {P:Program} {N:Nat} {d:Tmp} {ty:TypeId} {ps:String} {af:Array Edge} {gd:Option (Nat×Bool)} {x y z:Operand} {sl:List (Nat×T)} {ob:List (Nat×Ob)} {nx:Nat}
variable {α:Type} {enc:α→List D}
theorem xdT {t:TypeId} {e sz by_:Nat} {g g':Bool} {kd:IntKind} {xs:List α} {i:Int} {a:α} [TySl P t e sz by_] (H:ix xs i=some a) (henc:∀a,(enc a).length=sz:=by exact fun _=>rfl) (hx:opT sl x= .v (.c (.d g (.l (xs.map enc)))):=by exact rfl) (hy:opT sl y= .v (.c (.d g' (.i kd i))):=by exact rfl) (hN:nlt d N=true:=by exact rfl):
 NS0 P N ⟨some d,.indexAddr t x y,ty,ps,af,gd⟩ sl ob nx d (.v (.c (.q g (enc a) 0))) ⟨d,[(x,.v (.c (.d g (.l (xs.map enc))))),(y,.v (.c (.d g' (.i kd i))))],[],.v (.c (.q g (enc a) 0)),[]⟩:=
 xd hx hy hN (ixE H).1 (eU enc H) (Gz henc xs)
theorem xwT {t:TypeId} {e sz by_:Nat} {g:Bool} {kd:IntKind} {o n:Nat} {i:Int} {ys:List α} {a:α} [TySl P t e sz by_] (H:ix ys i=some a) (hx:opT sl x= .v (.c (.w o n)):=by exact rfl) (hy:opT sl y= .v (.c (.d g (.i kd i))):=by exact rfl) (hn:ys.length=n:=by first|rfl|simp) (hN:nlt d N=true:=by exact rfl):
 NS0 P N ⟨some d,.indexAddr t x y,ty,ps,af,gd⟩ sl ob nx d (.v (.c (.e o sz i.toNat 0))) ⟨d,[(x,.v (.c (.w o n))),(y,.v (.c (.d g (.i kd i))))],[],.v (.c (.e o sz i.toNat 0)),[]⟩:=
 xw hx hy hN (ixE H).1 (by have:=Nx H;omega)
theorem mkT {nx':Nat} {t:TypeId} {e sz by_:Nat} {zd:List D} {g g':Bool} {k k':IntKind} {n c:Int} {za:α} [TySl P t e sz by_] [TyE P e zd] (H:GF by_ n c=true) (hz:enc za=zd) (hx:opT sl x= .v (.c (.d g (.i k n))):=by exact rfl) (hy:opT sl y= .v (.c (.d g' (.i k' c))):=by exact rfl) (hN:nlt d N=true:=by exact rfl)
 (hq:nxt nx=some nx':=by exact rfl):
 NS1 P N ⟨some d,.makeSlice t x y,ty,ps,af,gd⟩ sl ob nx nx' d (.v (.c (.w nx (TE n.toNat za).length))) (.row e sz ((TE n.toNat za).map enc) true true) ⟨d,[(x,.v (.c (.d g (.i k n)))),(y,.v (.c (.d g' (.i k' c))))],[],.v (.c (.w nx (TE n.toNat za).length)),[(nx,.row e sz ((TE n.toNat za).map enc) true true)]⟩:=by
 simp only[GF,decide_eq_true_eq] at H
 have hn:((n.toNat:Nat):Int)=n:=by omega
 have:=mk (P:=P) (N:=N) (d:=d) (ty:=ty) (ps:=ps) (af:=af) (gd:=gd) (ob:=ob) (sl:=sl) (nx:=nx) (nx':=nx') (t:=t) (e:=e) (sz:=sz) (by_:=by_) (zd:=zd) (x:=x) (y:=y) (n:=n.toNat) (by rw[hn];exact hx) hy hN (by omega) (by omega) (by omega) hq
 rw[hn] at this
 rw[List.map_replicate,List.length_replicate,hz]
 exact this
theorem apT {t:TypeId} {e sz by_ o n:Nat} {ys zs:List α} {zd:List (List D)} {g gy gg:Bool} {c:C} {sl':List (Nat×T)} {ob':List (Nat×Ob)} [TySl P t e sz by_] (H:cM by_ (ys++zs).length=true) (hzd:zs.map enc=zd:=by exact rfl) (henc:∀a,(enc a).length=sz:=by exact fun _=>rfl) (hd:nlt d N=true:=by exact rfl)
 (hx:opT sl x= .v (.c (.w o n)):=by exact rfl) (hy:opT sl y= .v (.c c):=by exact rfl) (hn:ys.length=n:=by first|rfl|simp) (hs:Src ob c zd gy:=by first|exact .d|exact .nil|exact .w rfl (by first|rfl|exact lm _|simp)|exact .wn rfl (by first|rfl|exact lm _|simp)) (ho:go ob o=some (.row e sz (ys.map enc) g true):=by exact rfl) (hk:mn o sl=some sl':=by exact rfl) (hkb:kj o ob=some ob':=by exact rfl) (hg:(g&&gy)=gg:=by exact rfl) (hrv:rsp o=false:=by exact rfl):
 AWO P N ⟨some d,.call ⟨.builtin .append,#[x,y],#[t,t]⟩,ty,ps,af,gd⟩ ⟨sl,ob,nx⟩ ⟨(d,.v (.c (.w o (ys++zs).length)))::sl',(o,.row e sz ((ys++zs).map enc) gg true)::ob',nx⟩:=by
 subst hzd
 simp only[cM,decide_eq_true_eq,Ut] at H
 have:=ap (P:=P) (N:=N) (d:=d) (ty:=ty) (ps:=ps) (af:=af) (gd:=gd) (nx:=nx) (t:=t) (e:=e) (sz:=sz) (by_:=by_) hd hx hy ho hs hk hkb hg (by simpa using hn) (Gz henc zs) (by subst hn;simp only[Us];exact H.1) (by subst hn;simp only[Us];omega) hrv
 rw[List.map_append,Ut,hn]
 rw[Us] at this
 exact this
theorem soT {t:TypeId} {n o sz j:Nat} {i:Int} {rt:TypeId} {ys:List α} {a a':α} {ns:List D} {g g' gg:Bool} {v:V} [TyN P t n] (H:ix ys i=some a) (hx:opT sl x= .v (.c (.e o sz i.toNat j)):=by exact rfl) (hy:opT sl y= .v v:=by exact rfl)
 (ho:go ob o=some (.row rt sz (ys.map enc) g true):=by exact rfl) (hv:vD v=some (ns,g'):=by exact rfl) (hn:d0 ns.length n=true:=by exact rfl) (hs:qK j ns (enc a)=some (enc a'):=by exact rfl) (hg:(g&&g')=gg:=by exact rfl):
 AWO P N ⟨none,.store t x y,ty,ps,af,gd⟩ ⟨sl,ob,nx⟩ ⟨sl,(o,.row rt sz ((ys.set i.toNat a').map enc) gg true)::ob,nx⟩:=by
 have:=so (P:=P) (N:=N) (ty:=ty) (ps:=ps) (af:=af) (gd:=gd) (nx:=nx) (t:=t) (n:=n) hx hy ho hv hn (eU enc H) hs hg
 rwa [List.map_set]
end
end Go.AM
namespace Go.AM
open Go.RowKit
def eI (n:Int):List D:=[.i .i64 n]
def eU8 (n:Int):List D:=[.i .u8 n]
def fL {α:Type} (xs:List α) (l h:Int):Bool:=decide (0≤l∧l≤h∧h≤xs.length)
theorem ne0 {b:Int} (h:(!eqB b 0)=true):b≠0:=by rintro rfl;simp[eqB] at h
theorem wn {sl:List (Nat×T)} {k o n n':Nat} (h:gt sl k= .v (.c (.w o n))) (hn:n=n'):gt sl k= .v (.c (.w o n')):=hn▸h
section
variable {P:Program} {N:Nat} {d:Tmp} {ty:TypeId} {ps:String} {af:Array Edge} {gd:Option (Nat×Bool)} {x y z:Operand} {sl:List (Nat×T)} {ob:List (Nat×Ob)} {nx:Nat}
variable {α:Type} {enc:α→List D}
theorem ldT {t:TypeId} {g:Bool} {xs:List α} {e sz by_:Nat} [TySl P t e sz by_] (hx:opT sl x= .v (.c (.d g (.l (xs.map enc))))) (hN:nlt d N=true):
 NS0 P N ⟨some d,.call ⟨.builtin .len,#[x],#[t]⟩,ty,ps,af,gd⟩ sl ob nx d (tI xs.length) ⟨d,[(x,.v (.c (.d g (.l (xs.map enc)))))],[],tI xs.length,[]⟩:=by
 have:=ld (P:=P) (N:=N) (d:=d) (ty:=ty) (ps:=ps) (af:=af) (gd:=gd) (ob:=ob) (nx:=nx) (t:=t) hx hN
 rwa [Us] at this
theorem cdhT {t e sz by_:Nat} {g g2:Bool} {xs:List α} {h:Int} {hi:Operand} [ht:TySl P t e sz by_] (H:fL xs 0 h=true) (henc:∀a,(enc a).length=sz) (hx:opT sl x= .v (.c (.d g (.l (xs.map enc))))) (hh:opT sl hi= .v (.c (.d g2 (.i .i64 h)))) (hN:nlt d N=true):
 NS0 P N ⟨some d,.slice t x none (some hi) none,ty,ps,af,gd⟩ sl ob nx d (.v (.c (.d g (.l ((xs.take h.toNat).map enc))))) ⟨d,[(x,.v (.c (.d g (.l (xs.map enc))))),(hi,.v (.c (.d g2 (.i .i64 h))))],[],.v (.c (.d g (.l ((xs.take h.toNat).map enc)))),[]⟩:=by
 simp only[fL,decide_eq_true_eq] at H
 have:=cdh (P:=P) (N:=N) (d:=d) (ty:=ty) (ps:=ps) (af:=af) (gd:=gd) (ob:=ob) (nx:=nx) (t:=t) (e:=e) (sz:=sz) (by_:=by_) hx hh hN (Gz henc xs) H.2.1 (by simpa using H.2.2)
 rwa [←UA] at this
theorem Ry {t e sz by_:Nat} {g g2:Bool} {xs:List α} {l:Int} {lo:Operand} [ht:TySl P t e sz by_] (H:fL xs l xs.length=true) (henc:∀a,(enc a).length=sz) (hx:opT sl x= .v (.c (.d g (.l (xs.map enc))))) (hl:opT sl lo= .v (.c (.d g2 (.i .i64 l)))) (hN:nlt d N=true):
 NS0 P N ⟨some d,.slice t x (some lo) none none,ty,ps,af,gd⟩ sl ob nx d (.v (.c (.d g (.l ((xs.drop l.toNat).map enc))))) ⟨d,[(x,.v (.c (.d g (.l (xs.map enc))))),(lo,.v (.c (.d g2 (.i .i64 l))))],[],.v (.c (.d g (.l ((xs.drop l.toNat).map enc)))),[]⟩:=by
 simp only[fL,decide_eq_true_eq] at H
 have:=cdl (P:=P) (N:=N) (d:=d) (ty:=ty) (ps:=ps) (af:=af) (gd:=gd) (ob:=ob) (nx:=nx) (t:=t) (e:=e) (sz:=sz) (by_:=by_) hx hl hN (Gz henc xs) H.1 (by simpa using H.2.1)
 rwa [←UE] at this
end
end Go.AM
namespace Go.AM
open Go.RowKit
def toV:D→Value
 | .i k n=>.int k n
 | .b b=>.bool b
 | .str s=>.string s
 | .l _=>.slice none 0 0
 | .k _ _ _=>.slice none 0 0
def PT:D→D→Bool
 | .i _ a,.i _ b=>eqB a b
 | .b a,.b b=>a==b
 | .str a,.str b=>strB a b
 |_,_=>false
def qi:List D→List D→Bool
 |x::xs,y::ys=>PT x y&&qi xs ys
 |_,_=>true
def shB:List Sh→List D→Bool
 |[],[]=>true
 | .i k::ss,.i k' _::xs=>decide (k=k')&&shB ss xs
 | .b::ss,.b _::xs=>shB ss xs
 | .str::ss,.str _::xs=>shB ss xs
 |_,_=>false
theorem nJ:∀{ss:List Sh} {xs:List D},shB ss xs=true→xs.length=ss.length
 |[],[],_=>rfl
 | .i k::ss,.i k' _::xs,h=>by simp[shB] at h;simp[nJ h.2]
 | .b::ss,.b _::xs,h=>by simp[shB] at h;simp[nJ h]
 | .str::ss,.str _::xs,h=>by simp[shB] at h;simp[nJ h]
 |[],_::_,h=>by simp[shB] at h
 | .i _::_,[],h=>by simp[shB] at h
 | .i _::_,.b _::_,h=>by simp[shB] at h
 | .i _::_,.str _::_,h=>by simp[shB] at h
 | .i _::_,.l _::_,h=>by simp[shB] at h
 | .i _::_,.k _ _ _::_,h=>by simp[shB] at h
 | .b::_,[],h=>by simp[shB] at h
 | .b::_,.i _ _::_,h=>by simp[shB] at h
 | .b::_,.str _::_,h=>by simp[shB] at h
 | .b::_,.l _::_,h=>by simp[shB] at h
 | .b::_,.k _ _ _::_,h=>by simp[shB] at h
 | .str::_,[],h=>by simp[shB] at h
 | .str::_,.i _ _::_,h=>by simp[shB] at h
 | .str::_,.b _::_,h=>by simp[shB] at h
 | .str::_,.l _::_,h=>by simp[shB] at h
 | .str::_,.k _ _ _::_,h=>by simp[shB] at h
 | .l _::_,[],h=>by simp[shB] at h
 | .l _::_,_::_,h=>by simp[shB] at h
theorem rD:∀{s1 s2:List Sh} {xs:List D},shB (s1++s2) xs=true→shB s1 (xs.take s1.length)=true∧shB s2 (xs.drop s1.length)=true
 |[],s2,xs,h=>by simpa [shB] using h
 | .i k::s1,s2,.i k' n::xs,h=>by
  simp only[TD,shB,hV] at h
  obtain⟨h1,h2⟩:=rD h.2
  exact⟨by simp only[TY,TI,shB,hV];exact⟨h.1,h1⟩,by simpa using h2⟩
 | .b::s1,s2,.b n::xs,h=>by
  simp only[TD,shB] at h
  obtain⟨h1,h2⟩:=rD h
  exact⟨by simp only[TY,TI,shB];exact h1,by simpa using h2⟩
 | .str::s1,s2,.str n::xs,h=>by
  simp only[TD,shB] at h
  obtain⟨h1,h2⟩:=rD h
  exact⟨by simp only[TY,TI,shB];exact h1,by simpa using h2⟩
 | .i _::_,_,[],h=>by simp[shB] at h
 | .i _::_,_,.b _::_,h=>by simp[shB] at h
 | .i _::_,_,.str _::_,h=>by simp[shB] at h
 | .i _::_,_,.l _::_,h=>by simp[shB] at h
 | .i _::_,_,.k _ _ _::_,h=>by simp[shB] at h
 | .b::_,_,[],h=>by simp[shB] at h
 | .b::_,_,.i _ _::_,h=>by simp[shB] at h
 | .b::_,_,.str _::_,h=>by simp[shB] at h
 | .b::_,_,.l _::_,h=>by simp[shB] at h
 | .b::_,_,.k _ _ _::_,h=>by simp[shB] at h
 | .str::_,_,[],h=>by simp[shB] at h
 | .str::_,_,.i _ _::_,h=>by simp[shB] at h
 | .str::_,_,.b _::_,h=>by simp[shB] at h
 | .str::_,_,.l _::_,h=>by simp[shB] at h
 | .str::_,_,.k _ _ _::_,h=>by simp[shB] at h
 | .l _::_,_,[],h=>by simp[shB] at h
 | .l _::_,_,_::_,h=>by simp[shB] at h
theorem Ax:∀(n:Nat) (xs ys:List D),xs.length=ys.length→qi xs ys=(qi (xs.take n) (ys.take n)&&qi (xs.drop n) (ys.drop n))
 |0,xs,ys,_=>by simp[qi]
 |n+1,[],[],_=>by simp[qi]
 |n+1,x::xs,y::ys,h=>by
  simp only[TI,UG,qi]
  rw[Ax n xs ys (by simpa using h),Bool.and_assoc]
 |n+1,[],_::_,h=>by simp at h
 |n+1,_::_,[],h=>by simp at h
def mS (xs:List D):Array Value:=(xs.map toV).toArray
def EqS (P:Program) (t:TypeId) (s:Sh):Prop:=∀(d:Nat) (w:World) (x y:D),shB [s] [x]=true→shB [s] [y]=true→(Op.equalIn (d+1) t (toV x) (toV y)).run P w= .ok (PT x y) w
def EqA (P:Program) (k:Nat) (t:TypeId) (ss:List Sh):Prop:=∀(d:Nat) (w:World) (xs ys:List D),k≤d→shB ss xs=true→shB ss ys=true→(Op.equalIn d t (.agg (mS xs)) (.agg (mS ys))).run P w= .ok (qi xs ys) w
def EqF (P:Program) (k:Nat) (o:Nat) (fs:List Field) (ss:List Sh):Prop:=∀(d:Nat) (w:World) (X Y:List D),k≤d→shB ss (X.drop o)=true→shB ss (Y.drop o)=true→(Op.eqFields d (mS X) (mS Y) fs).run P w= .ok (qi (X.drop o) (Y.drop o)) w
theorem dS {P:Program} {t:TypeId} {k:IntKind} (h:P.underlying t=some (.int k)):EqS P t (.i k):=by
 intro d w x y hx hy
 cases x<;>simp[shB] at hx
 cases y<;>simp[shB] at hy
 subst hx;subst hy
 rw[toV,toV,run_equalIn_int w d t _ k _ _ h]
 simp[PT,eqB,Jo]
theorem lT {P:Program} {k o:Nat}:EqF P k o [] []:=by
 intro d w X Y hd hx hy
 have h1:=nJ hx
 have h2:=nJ hy
 rw[UF.1 h1,UF.1 h2]
 simp[Op.eqFields,qi]
theorem O8 {X:List D} {o:Nat} {x:D} {r:List D} (h:X.drop o=x::r):(mS X)[o]?=some (toV x):=by
 have:X[o]?=some x:=by
  have:=TJ (xs:=X) (i:=o) (j:=0)
  rw[h] at this
  simpa using this.symm
 simp[mS,this]
theorem fN {P:Program} {k o:Nat} {f:Field} {fs:List Field} {s:Sh} {ss:List Sh} (ho:f.offset=o) (hn:f.name≠ "_") (hs:TySc P f.type) (he:EqS P f.type s) (h:EqF P (k+1) (o+1) fs ss):EqF P (k+1) o (f::fs) (s::ss):=by
 intro d w X Y hd hx hy
 obtain⟨d,rfl⟩:∃d',d=d'+1:=⟨d-1,by omega⟩
 have l1:=nJ hx
 have l2:=nJ hy
 cases hX:X.drop o with
 |nil=>rw[hX] at l1;simp at l1
 |cons x X'=>
  cases hY:Y.drop o with
  |nil=>rw[hY] at l2;simp at l2
  |cons y Y'=>
   rw[hX] at hx;rw[hY] at hy
   have a1:=rD (s1:=[s]) (s2:=ss) hx
   have a2:=rD (s1:=[s]) (s2:=ss) hy
   simp only[TY,List.length_nil,Tv,TI,List.take_zero,UG,UB] at a1 a2
   have e1:X.drop (o+1)=X':=by rw[←Ux,hX];rfl
   have e2:Y.drop (o+1)=Y':=by rw[←Ux,hY];rfl
   have ih:=h (d+1) w X Y hd (by rw[e1];exact a1.2) (by rw[e2];exact a2.2)
   simp only[Op.eqFields,hn,ne_eq,not_false_eq_true,if_true,Sem.run_bind,part,hs.h,Result.andThen_ok,ho,O8 hX,O8 hY,Sem.run_pure,Bool.false_eq_true,if_false,he d w x y a1.1 a2.1]
   rw[qi,←e1,←e2]
   cases hq:PT x y
   ·simp
   ·simpa using ih
theorem QX {X:List D} {o n:Nat}:(mS X).extract o (o+n)=mS ((X.drop o).take n):=by
 apply Uy
 simp[mS,UE,UA,List.extract_eq_take_drop]
theorem M2 {P:Program} {k k' o n:Nat} {f:Field} {fs:List Field} {s1 ss:List Sh} (ho:f.offset=o) (hn:f.name≠ "_") (hs:TyAg P f.type n) (hl:s1.length=n) (hk:k'≤k) (he:EqA P k' f.type s1) (h:EqF P k (o+n) fs ss):EqF P k o (f::fs) (s1++ss):=by
 intro d w X Y hd hx hy
 have l1:=nJ hx
 have l2:=nJ hy
 have a1:=rD hx
 have a2:=rD hy
 rw[hl] at a1 a2
 have ih:=h d w X Y hd (by rw[←Ux];exact a1.2) (by rw[←Ux];exact a2.2)
 obtain⟨i,hi,hin⟩:=hs.n
 simp only[Op.eqFields,hn,ne_eq,not_false_eq_true,if_true,Sem.run_bind,part,hs.h,Result.andThen_ok,ho,ez hi,hin,QX,Sem.run_pure,he d w _ _ (by omega) a1.1 a2.1]
 rw[Ax n (X.drop o) (Y.drop o) (by omega),Ux,Ux]
 cases hq:qi ((X.drop o).take n) ((Y.drop o).take n)
 ·simp
 ·simpa using ih
theorem gj {P:Program} {k:Nat} {t:TypeId} {ss:List Sh} {fs:Array Field} (hu:P.underlying t=some (.struct fs)) (hp:P.stoodInHeld t=false) (h:EqF P k 0 fs.toList ss):EqA P (k+1) t ss:=by
 intro d w xs ys hd hx hy
 obtain⟨d,rfl⟩:∃d',d=d'+1:=⟨d-1,by omega⟩
 have hf:P.fieldsOf t=fs:=by simp[Program.fieldsOf,hu]
 rw[run_equalIn_struct w d t _ _ (by rw[hf];exact hu) hp,hf]
 have:=h d w xs ys (by omega) (by simpa using hx) (by simpa using hy)
 simpa using this
class TyEq (P:Program) (t:TypeId) (ss:outParam (List Sh)):Prop where
 h:∃k,k≤10000∧EqA P k t ss
 g:P.eqGuardType P.depth t=false
def Ky:C→Option D
 | .d _ (.i k n)=>some (.i k n)
 | .d _ (.b b)=>some (.b b)
 | .d _ (.str s)=>some (.str s)
 |_=>none
def mP:List C→Option (List D)
 |[]=>some []
 |c::cs=>match Ky c,mP cs with
  |some x,some xs=>some (x::xs)
  |_,_=>none
theorem Oz {E:Env} {w:World} {c:C} {x:D} {u:Value} (h:Ky c=some x) (hc:cvC E w c u):u=toV x:=by
 cases c with
 |d g y=>cases y<;>simp[Ky] at h<;>subst h<;>simpa [cvC,rdD,toV] using hc
 |_=>simp[Ky] at h
theorem qB {E:Env} {w:World}:∀{cs:List C} {xs:List D} {us:List Value},mP cs=some xs→CV E w cs us→us=xs.map toV
 |[],xs,[],h,_=>by simp[mP] at h;subst h;rfl
 |[],_,_::_,_,hc=>hc.elim
 |c::cs,xs,[],h,hc=>hc.elim
 |c::cs,xs,u::us,h,hc=>by
  simp only[mP] at h
  split at h
  ·rename_i x xs' h1 h2
   simp at h;subst h
   rw[Uu,Oz h1 hc.1,qB h2 hc.2]
  ·cases h
section
variable {P:Program} {N:Nat} {d:Tmp} {ty:TypeId} {ps:String} {af:Array Edge} {gd:Option (Nat×Bool)} {x y z:Operand} {sl:List (Nat×T)} {ob:List (Nat×Ob)} {nx:Nat}
theorem Ku {t:TypeId} {ss:List Sh} [h:TyEq P t ss] {as bs:List D} (h1:shB ss as=true) (h2:shB ss bs=true) (w:World) (o:BinOp) (ho:o= .eql∨o= .neq) (x y:Operand):
 ((do eqGuard o t x y (.agg (mS as)) (.agg (mS bs));binOp o t (.agg (mS as)) (.agg (mS bs))):Sem Value).run P w= .ok (.bool (if o= .eql then qi as bs else !qi as bs)) w:=by
 obtain⟨k,hk,he⟩:=h.h
 have:=he 10000 w as bs hk h1 h2
 rcases ho with rfl|rfl
 ·simp[Sem.run_bind,run_eqGuard_agg w _ t x y _ _ h.g,run_eql_struct,this]
 ·simp[Sem.run_bind,run_eqGuard_agg w _ t x y _ _ h.g,run_neq_struct,this]
theorem n_seq {t t':TypeId} {ss:List Sh} [h:TyEq P t ss] {cs ds:List C} {as bs:List D} (ha:mP cs=some as) (hb:mP ds=some bs) (h1:shB ss as=true) (h2:shB ss bs=true):
 AWN P ⟨some d,.binOp .eql t x y t',ty,ps,af,gd⟩ [(x,.v (.agg cs)),(y,.v (.agg ds))] [] (tB (qi as bs)) []:=
 b7 fun E ac w hn _=>by
  obtain⟨a1,hu1,hc1⟩:=hn x _ (.head _)
  obtain⟨a2,hu2,hc2⟩:=hn y _ (.tail _ (.head _))
  have e1:a1=mS as:=by apply Uy;simpa [mS] using qB ha hc1
  have e2:a2=mS bs:=by apply Uy;simpa [mS] using qB hb hc2
  subst e1;subst e2
  refine⟨_,?_,rfl⟩
  have:=Ku (P:=P) (t:=t) h1 h2 w .eql (.inl rfl) x y
  simp only[Sem.run_bind,if_true] at this
  simp only[execOp,hu1,hu2,Sem.run_bind]
  generalize (eqGuard BinOp.eql t x y (Value.agg (mS as)) (Value.agg (mS bs))).run P w=q at*
  cases q with
  |ok a w'=>simp only[Result.andThen_ok] at this ⊢;rw[this];rfl
  |halt a w'=>simp[Result.andThen] at this
theorem n_sne {t t':TypeId} {ss:List Sh} [h:TyEq P t ss] {cs ds:List C} {as bs:List D} (ha:mP cs=some as) (hb:mP ds=some bs) (h1:shB ss as=true) (h2:shB ss bs=true):
 AWN P ⟨some d,.binOp .neq t x y t',ty,ps,af,gd⟩ [(x,.v (.agg cs)),(y,.v (.agg ds))] [] (tB (!qi as bs)) []:=
 b7 fun E ac w hn _=>by
  obtain⟨a1,hu1,hc1⟩:=hn x _ (.head _)
  obtain⟨a2,hu2,hc2⟩:=hn y _ (.tail _ (.head _))
  have e1:a1=mS as:=by apply Uy;simpa [mS] using qB ha hc1
  have e2:a2=mS bs:=by apply Uy;simpa [mS] using qB hb hc2
  subst e1;subst e2
  refine⟨_,?_,rfl⟩
  have:=Ku (P:=P) (t:=t) h1 h2 w .neq (.inr rfl) x y
  simp only[Sem.run_bind,reduceCtorEq,if_false] at this
  simp only[execOp,hu1,hu2,Sem.run_bind]
  generalize (eqGuard BinOp.neq t x y (Value.agg (mS as)) (Value.agg (mS bs))).run P w=q at*
  cases q with
  |ok a w'=>simp only[Result.andThen_ok] at this ⊢;rw[this];rfl
  |halt a w'=>simp[Result.andThen] at this
theorem qe {t t':TypeId} {ss:List Sh} {cs ds:List C} {as bs:List D} [TyEq P t ss] (hx:opT sl x= .v (.agg cs)) (hy:opT sl y= .v (.agg ds)) (hN:nlt d N=true) (ha:mP cs=some as) (hb:mP ds=some bs) (h1:shB ss as=true) (h2:shB ss bs=true):
 NS0 P N ⟨some d,.binOp .eql t x y t',ty,ps,af,gd⟩ sl ob nx d (tB (qi as bs)) ⟨d,[(x,.v (.agg cs)),(y,.v (.agg ds))],[],tB (qi as bs),[]⟩:=db (st:=⟨sl,ob,nx⟩) (n_seq ha hb h1 h2) rfl hN ⟨hx,hy,trivial⟩ trivial rfl
theorem qn {t t':TypeId} {ss:List Sh} {cs ds:List C} {as bs:List D} [TyEq P t ss] (hx:opT sl x= .v (.agg cs)) (hy:opT sl y= .v (.agg ds)) (hN:nlt d N=true) (ha:mP cs=some as) (hb:mP ds=some bs) (h1:shB ss as=true) (h2:shB ss bs=true):
 NS0 P N ⟨some d,.binOp .neq t x y t',ty,ps,af,gd⟩ sl ob nx d (tB (!qi as bs)) ⟨d,[(x,.v (.agg cs)),(y,.v (.agg ds))],[],tB (!qi as bs),[]⟩:=db (st:=⟨sl,ob,nx⟩) (n_sne ha hb h1 h2) rfl hN ⟨hx,hy,trivial⟩ trivial rfl
end
end Go.AM
namespace Go.AM
open Go.RowKit
def cpL {α:Type} (els ys:List α):List α:=ys.take els.length++els.drop ys.length
theorem PB {α β:Type} (f:α→β) (els ys:List α):cpL (els.map f) (ys.map f)=(cpL els ys).map f:=by simp[cpL,UA,UE]
@[simp] theorem cpL_len {α:Type} (els ys:List α):(cpL els ys).length=els.length:=by simp[cpL];omega
section
variable {P:Program} {N:Nat} {d:Tmp} {ty:TypeId} {ps:String} {af:Array Edge} {gd:Option (Nat×Bool)} {x y z:Operand} {st:St}
theorem Cd {b k:Nat} {w:World} {us:List Value} {n:Nat} (hn:us.length=n) (h:∀(j:Nat) (u:Value),us[j]?=some u→w.cell? ⟨b,k+j,none⟩=some u):
 (loadCells ⟨b,k,none⟩ n).run P w= .ok us.toArray w:=by
 subst hn
 have:=it (P:=P) (b:=b) (k:=k) (w:=w) us 0 #[] (fun j u hj=>by simpa using h j u hj)
 simpa [loadCells] using this
theorem NW {t:TypeId} {e sz by_ o n:Nat} {els ys:List (List D)} {g gy:Bool} {c:C} [ht:TySl P t e sz by_] (hd:d<N)
 (hx:opT st.sl x= .v (.c (.w o n))) (hy:opT st.sl y= .v (.c c)) (ho:go st.ob o=some (.row e sz els g true)) (hs:Src st.ob c ys gy)
 (hn:els.length=n) (hsz:∀e∈ys,e.length=sz):
 AWO P N ⟨some d,.call ⟨.builtin .copy,#[x,y],#[t,t]⟩,ty,ps,af,gd⟩ st ⟨(d,.any)::st.sl,(o,.row e sz (cpL els ys) (g&&gy) true)::st.ob,st.nx⟩:=by
 intro cx E a w hR
 have h1:=hR.op x;rw[hx] at h1
 have h2:=hR.op y;rw[hy] at h2
 obtain⟨b,cc,hr,hu⟩:=h1
 obtain⟨b',c',arr,hr',hh,ha,hlc,hmx,hes,hrd,hFm,_⟩:=hR.obs o _ ho
 rw[hr] at hr';cases hr'
 have hF:=hFm rfl
 obtain⟨A,k,hv,hyk,hA⟩:=OJ hR hs h2
 obtain⟨ii,zz,i1,i2,i3,i4,i5⟩:=ht.i
 obtain⟨m,hm⟩:∃m,m=Nat.min ys.length n:=⟨_,rfl⟩
 have hm1:m≤ys.length:=by rw[hm];exact Nat.min_le_left _ _
 have hm2:m≤n:=by rw[hm];exact Nat.min_le_right _ _
 have hcp:cpL els ys=ys.take m++els.drop m:=by
  unfold cpL
  rw[hn]
  rcases Nat.le_total ys.length n with h|h
  ·have e:m=ys.length:=by rw[hm];exact Ul h
   rw[e,List.take_of_length_le h,UD]
  ·have e:m=n:=by rw[hm];exact Nat.min_eq_right h
   rw[e,UH (by omega),UH (by omega)]
 have hsrc:∃news:List Value,news.length=m*sz∧(∀u∈news,u.oneCell'=true)∧(∀(j:Nat) (xd:D),(ys.take m).flatten[j]?=some xd→∃u,news[j]?=some u∧rdD w (E.H gy) xd u)∧
  (Builtin.firstCells sz m (.slice A ys.length k)).run P w= .ok news.toArray w:=by
  rcases hA with h0|⟨b2,off,rfl,hrd2⟩
  ·subst h0
   have hm0:m=0:=by simpa using hm1
   refine⟨[],by simp[hm0],by simp,by simp,?_⟩
   cases A with
   |none=>simp[Builtin.firstCells]
   |some ad=>simp[Builtin.firstCells,hm0,loadCells,loadCellsFrom]
  ·obtain⟨us,q1,q2,q3,q4⟩:=tp (eX.1 (nR m hrd2))
   have ql:us.length=m*sz:=by
    rw[q1,gE (fun e he=>hsz e (Uw he)),Uz,Ul hm1]
   refine⟨us,ql,q3,q4,?_⟩
   simp only[Builtin.firstCells]
   exact Cd ql (fun j u hj=>by have:=q2 j u hj;rwa [sH] at this)
 obtain⟨news,n1,n2,n3,n4⟩:=hsrc
 have hmul:m*sz≤arr.size:=by rw[ha];exact Nat.mul_le_mul_right _ (by omega)
 have hst:=run_storeCells_at (P:=P) b 0 e news 0 arr w hh (by simp;omega) n2
 have hrun:(Builtin.copy_ #[t,t] ty #[.slice (some ⟨b,0,none⟩) n cc,.slice A ys.length k]).run P w= .ok (goInt m) (w.setRow b (news++arr.toList.drop (m*sz)).toArray):=by
  simp only[Tv,n1] at hst
  simp only[Builtin.copy_]
  simp[underlying,ht.u,Builtin.lenOf,ez i1,i2]
  rw[←hm,n4]
  simp[hst]
 unfold Oper.wp
 simp only[execOp,resolve,invoke,builtin,Sem.run_bind,Sem.run_pure,Result.andThen_ok,List.map_toArray,Uu,List.map_nil,hu,hv,hrun,Oper.upon_value]
 have hk:=i7 (cs:=(news++arr.toList.drop (m*sz)).toArray) (w:=w) hR.ok hr hF
 have hall:∀e'∈cpL els ys,e'.length=sz:=fun e' he'=>by
  rw[hcp] at he'
  rcases List.mem_append.1 he' with h|h
  ·exact hsz e' (Uw h)
  ·exact hes e' (List.mem_of_mem_drop h)
 have hrel:=vI (ob':=.row e sz (cpL els ys) (g&&gy) true) (cs:=(news++arr.toList.drop (m*sz)).toArray) hR hr hF ⟨b,cc,_,hr,iK _ hh,by rw[←ha];simp[n1];omega,by rw[cpL_len];omega,hmx,hall,by
  rw[eX]
  refine lJ fun j xd hj=>?_
  rw[Tv,et (iK _ hh),List.getElem?_toArray]
  rw[hcp,UC] at hj
  have hfl:(ys.take m).flatten.length=m*sz:=by rw[gE (fun e he=>hsz e (Uw he)),Uz,Ul hm1]
  by_cases hjn:j<m*sz
  ·rw[Tu (by omega)] at hj
   obtain⟨u,u1,u2⟩:=n3 _ _ hj
   exact⟨u,by rw[Tu (by omega)];exact u1,cj (hk.heap _) (hk.H _) _ _ (mY hR.ok u2 (by simp))⟩
  ·rw[Tz (by omega),hfl] at hj
   have hjd:els.flatten[j]?=some xd:=by
    have e1:els.flatten=(els.take m).flatten++(els.drop m).flatten:=by rw[←UC,List.take_append_drop]
    have e2:(els.take m).flatten.length=m*sz:=by rw[gE (fun e he=>hes e (Uw he)),Uz,Ul (by omega)]
    rw[e1,Tz (by omega),e2];exact hj
   obtain⟨u,u1,u2⟩:=kF (eX.1 hrd) hjd
   rw[Tv,et hh] at u1
   refine⟨u,?_,cj (hk.heap _) (hk.H _) _ _ (mY hR.ok u2 (by simp;intro a _;exact a))⟩
   rw[Tz (by omega),n1,TJ,show m*sz+(j-m*sz)=j from by omega]
   simpa using u1,fun _=>hF,fun h=>by cases h⟩
 exact⟨E,hrel.putAny hd _⟩
theorem cpT {α:Type} {enc:α→List D} {sl:List (Nat×T)} {ob:List (Nat×Ob)} {nx:Nat} {t:TypeId} {e sz by_ o n:Nat} {ys zs:List α} {zd:List (List D)} {g gy gg:Bool} {c:C} [TySl P t e sz by_] (hzd:zs.map enc=zd) (henc:∀a,(enc a).length=sz) (hn:ys.length=n) (hs:Src ob c zd gy) (hd:nlt d N=true)
 (hx:opT sl x= .v (.c (.w o n))) (hy:opT sl y= .v (.c c)) (ho:go ob o=some (.row e sz (ys.map enc) g true)) (hg:(g&&gy)=gg):
 AWO P N ⟨some d,.call ⟨.builtin .copy,#[x,y],#[t,t]⟩,ty,ps,af,gd⟩ ⟨sl,ob,nx⟩ ⟨(d,.any)::sl,(o,.row e sz ((cpL ys zs).map enc) gg true)::ob,nx⟩:=by
 subst hzd;subst hg
 have:=NW (P:=P) (N:=N) (st:=⟨sl,ob,nx⟩) (d:=d) (ty:=ty) (ps:=ps) (af:=af) (gd:=gd) (t:=t) (e:=e) (sz:=sz) (by_:=by_) (cK hd) hx hy ho hs (by simpa using hn) (Gz henc zs)
 rwa [PB] at this
def rW:List D→Bool
 |[]=>true
 | .l _::_=>false
 |_::xs=>rW xs
theorem wx {w:World} {F F':Nat→Prop}:∀{e:List D} {b k:Nat},rW e=true→rdL w F e b k→rdL w F' e b k
 |[],_,_,_,_=>by simp[rdL]
 | .i k' n::xs,b,k,h,hr=>by
  rw[rdL] at hr ⊢
  exact⟨by obtain⟨u,h1,h2⟩:=hr.1;exact⟨u,h1,by simpa [rdD] using h2⟩,wx (by simpa [rW] using h) hr.2⟩
 | .b n::xs,b,k,h,hr=>by
  rw[rdL] at hr ⊢
  exact⟨by obtain⟨u,h1,h2⟩:=hr.1;exact⟨u,h1,by simpa [rdD] using h2⟩,wx (by simpa [rW] using h) hr.2⟩
 | .str n::xs,b,k,h,hr=>by
  rw[rdL] at hr ⊢
  exact⟨by obtain⟨u,h1,h2⟩:=hr.1;exact⟨u,h1,by simpa [rdD] using h2⟩,wx (by simpa [rW] using h) hr.2⟩
 | .k _ _ _::xs,b,k,h,hr=>by
  rw[rdL] at hr ⊢
  exact⟨by obtain⟨u,h1,h2⟩:=hr.1;exact⟨u,h1,by simpa [rdD] using h2⟩,wx (by simpa [rW] using h) hr.2⟩
 | .l _::_,_,_,h,_=>by simp[rW] at h
theorem uh {w:World} {F F':Nat→Prop}:∀{es:List (List D)} {b k:Nat},(∀e∈es,rW e=true)→rdLL w F es b k→rdLL w F' es b k
 |[],_,_,_,_=>by simp[rdLL]
 |e::es,b,k,h,hr=>by
  rw[rdLL] at hr ⊢
  exact⟨wx (h e (by simp)) hr.1,uh (fun x hx=>h x (by simp[hx])) hr.2⟩
theorem ji {α:Type} {enc:α→List D} {sl:List (Nat×T)} {ob:List (Nat×Ob)} {nx o t sz:Nat} {ys:List α} {g:Bool} (ho:go ob o=some (.row t sz (ys.map enc) g true):=by exact rfl) (hf:∀a,rW (enc a)=true:=by exact fun _=>rfl):
 cZ N ⟨sl,ob,nx⟩ ⟨sl,(o,.row t sz (ys.map enc) true true)::ob,nx⟩:=by
 intro cx E a w hR
 refine⟨E,hR.ok,hR.dom,fun l x hl=>?_,hR.sl,hR.dfr,hR.size,hR.td⟩
 by_cases hlo:o=l
 ·subst hlo
  rw[cg] at hl;cases hl
  obtain⟨b,c,arr,h1,h2,h3,h4,h5,h6,h7,h8,h9⟩:=hR.obs _ _ ho
  exact⟨b,c,arr,h1,h2,h3,h4,h5,h6,uh (fun e he=>by obtain⟨a,_,rfl⟩:=Ur.1 he;exact hf a) h7,h8,fun h=>by cases h⟩
 ·rw[bA _ _ hlo] at hl;exact hR.obs l x hl
end
end Go.AM
namespace Go.AM
open Go.RowKit
def xN (k:IntKind) (x y:Int):Int:=k.wrap (BitVec.ofInt k.bits x&&& BitVec.ofInt k.bits y).toNat
def bOr (k:IntKind) (x y:Int):Int:=k.wrap (BitVec.ofInt k.bits x|||BitVec.ofInt k.bits y).toNat
def FG (k:IntKind) (x y:Int):Int:=k.wrap (BitVec.ofInt k.bits x^^^BitVec.ofInt k.bits y).toNat
def ua (k:IntKind) (x y:Int):Int:=k.wrap (BitVec.ofInt k.bits x&&& ~~~(BitVec.ofInt k.bits y)).toNat
def kw (k:IntKind) (x y:Int):Int:=k.wrap (x*2^(min y.toNat k.bits))
def B3 (k:IntKind) (x y:Int):Int:=x.fdiv (2^(min y.toNat k.bits))
def My (op:BinOp) (k:IntKind) (a b:Int):Option Int:=
 match op with
 | .and=>some (xN k a b)
 | .or=>some (bOr k a b)
 | .xor=>some (FG k a b)
 | .andNot=>some (ua k a b)
 |_=>none
def QN (op:BinOp) (k:IntKind) (a b:Int):Option Int:=
 match op with
 | .shl=>some (kw k a b)
 | .shr=>some (B3 k a b)
 |_=>none
section
variable {P:Program} {N:Nat} {d:Tmp} {ty:TypeId} {ps:String} {af:Array Edge} {gd:Option (Nat×Bool)} {x y z:Operand} {sl:List (Nat×T)} {ob:List (Nat×Ob)} {nx:Nat}
theorem n_bit {op:BinOp} {t t':TypeId} {g g':Bool} {k:IntKind} {a b r:Int} (h:My op k a b=some r):
 AWN P ⟨some d,.binOp op t x y t',ty,ps,af,gd⟩ [(x,.v (.c (.d g (.i k a)))),(y,.v (.c (.d g' (.i k b))))] [] (.v (.c (.d false (.i k r)))) []:=
 b7 fun E ac w hn _=>by
  have h1:=gB (hn x _ (.head _))
  have h2:=gB (hn y _ (.tail _ (.head _)))
  cases op<;>simp only[My,Option.some.injEq,reduceCtorEq] at h<;>subst h<;>
   exact⟨_,by simp[execOp,h1,h2,eqGuard,binOp,Op.intBits];rfl,by simp[cvT,cvV,cvC,rdD,xN,bOr,FG,ua]⟩
theorem n_sh {op:BinOp} {t t':TypeId} {g g':Bool} {k k':IntKind} {a b r:Int} (h0:0≤b) (h:QN op k a b=some r):
 AWN P ⟨some d,.binOp op t x y t',ty,ps,af,gd⟩ [(x,.v (.c (.d g (.i k a)))),(y,.v (.c (.d g' (.i k' b))))] [] (.v (.c (.d false (.i k r)))) []:=
 b7 fun E ac w hn _=>by
  have h1:=gB (hn x _ (.head _))
  have h2:=gB (hn y _ (.tail _ (.head _)))
  have h0':¬b<0:=by omega
  cases op<;>simp only[QN,Option.some.injEq,reduceCtorEq] at h<;>subst h<;>
   exact⟨_,by simp[execOp,h1,h2,eqGuard,binOp,Op.shift,h0'];rfl,by simp[cvT,cvV,cvC,rdD,kw,B3]⟩
theorem ib {op:BinOp} {t t':TypeId} {g g':Bool} {k:IntKind} {a b r:Int} (hx:opT sl x= .v (.c (.d g (.i k a)))) (hy:opT sl y= .v (.c (.d g' (.i k b)))) (hN:nlt d N=true) (h:My op k a b=some r):
 NS0 P N ⟨some d,.binOp op t x y t',ty,ps,af,gd⟩ sl ob nx d (.v (.c (.d false (.i k r)))) ⟨d,[(x,.v (.c (.d g (.i k a)))),(y,.v (.c (.d g' (.i k b))))],[],.v (.c (.d false (.i k r))),[]⟩:=db (st:=⟨sl,ob,nx⟩) (n_bit h) rfl hN ⟨hx,hy,trivial⟩ trivial rfl
theorem Ii {op:BinOp} {t t':TypeId} {g g':Bool} {k k':IntKind} {a b r:Int} (h0:leB 0 b=true) (hx:opT sl x= .v (.c (.d g (.i k a)))) (hy:opT sl y= .v (.c (.d g' (.i k' b)))) (hN:nlt d N=true) (h:QN op k a b=some r):
 NS0 P N ⟨some d,.binOp op t x y t',ty,ps,af,gd⟩ sl ob nx d (.v (.c (.d false (.i k r)))) ⟨d,[(x,.v (.c (.d g (.i k a)))),(y,.v (.c (.d g' (.i k' b))))],[],.v (.c (.d false (.i k r))),[]⟩:=db (st:=⟨sl,ob,nx⟩) (n_sh (by simpa [leB] using h0) h) rfl hN ⟨hx,hy,trivial⟩ trivial rfl
theorem ishL {op:BinOp} {t t':TypeId} {g g':Bool} {k k':IntKind} {a r:Int} {b:Nat} (hx:opT sl x= .v (.c (.d g (.i k a)))) (hy:opT sl y= .v (.c (.d g' (.i k' (b:Int))))) (hN:nlt d N=true) (h:QN op k a b=some r):
 NS0 P N ⟨some d,.binOp op t x y t',ty,ps,af,gd⟩ sl ob nx d (.v (.c (.d false (.i k r)))) ⟨d,[(x,.v (.c (.d g (.i k a)))),(y,.v (.c (.d g' (.i k' (b:Int)))))],[],.v (.c (.d false (.i k r))),[]⟩:=db (st:=⟨sl,ob,nx⟩) (n_sh (by omega) h) rfl hN ⟨hx,hy,trivial⟩ trivial rfl
end
end Go.AM
