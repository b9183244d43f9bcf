/- A part. -/
import Derived.Test.YtcnfbcpgepbnkaaGreatE3
import Derived.JoinedOf
set_option linter.unusedVariables false
set_option linter.unusedSimpArgs false
set_option maxHeartbeats 4000000
open Option renaming some->ς,none->ξ
open Bool renaming true->ζ,false->η
open True renaming intro->θ
open Option renaming bind_eq_some_iff->aeN
open Nat renaming beq->fW,eq_of_beq_eq_true->aat,ble->abD,le_of_ble_eq_true->adp
open List renaming replicate->aal,any_eq_false->aeO,all_eq_true->aa4,range->f6
namespace Go.AM
variable{t:TypeId}{N n j id e sz by_ nx:Nat}{s st:Go.AM.St}{ob':Go.AM.Laa}{P:Program}{α:Type}{G:Prop}{g:Bool}{i:Int}{sl:Go.AM.Lab}
class FC(P:Program)(p:Prop)(f:outParam FuncId)(as:outParam (List AV))(rs:outParam (List RV)):Prop where
 h:p->Fn P f as rs
def T.isAny:T->Bool
 | .any=>ζ
 |_=>η
theorem T.isAny_eq{t:T}(h:t.isAny=ζ):t= .any:=by cases t<;>simp_all [T.isAny]
def fS:List Nat->Lab->Lab
 |_,[]=>[]
 |ks,(k,t)::r=>bif jg ks k then fS ks r else bif T.isAny t then fS (k::ks) r else(k,t)::fS (k::ks) r
def fO:List Nat->Laa->Laa
 |_,[]=>[]
 |ks,(k,x)::r=>bif jg ks k then fO ks r else(k,x)::fO (k::ks) r
def hasN(os:List Nat)(t:T):Bool:=os.any λo=>t.has o
def xS(os:List Nat):Lab->Lab
 |[]=>[]
 |(k,t)::r=>(k,bif hasN os t then .any else t)::xS os r
theorem fS_gt{k:Nat}:∀{sl:Lab} {ks:List Nat},gt (fS ks sl) k=bif jg ks k then .any else gt sl k
 |[],ks=>by simp[fS,gt]
 |(j,t)::r,ks=>by
  have ih:=λks=>fS_gt (k:=k) (sl:=r) (ks:=ks)
  rw[fS]
  cases hj:jg ks j with
  |true=>
   rw[cond_true,ih]
   by_cases h:j=k
   .subst h;rw[hj];rfl
   rw[ck _ _ h]
  |false=>
   rw[cond_false]
   have hm:jg (j::ks) k=(fW j k||jg ks k):=by
    by_cases h:j=k<;>simp_all [jg,gQ]
   cases ha:t.isAny with
   |true=>
    rw[cond_true,ih,hm]
    by_cases h:j=k
    .subst h;rw[hj,da,T.isAny_eq ha];simp
    rw[ck _ _ h,gQ h];rfl
   |false=>
    rw[cond_false]
    by_cases h:j=k
    .subst h;rw[hj,cond_false,da,da]
    rw[ck _ _ h,ck _ _ h,ih,hm,gQ h];rfl
theorem fO_go{k:Nat}:∀{ob:Laa} {ks:List Nat},go (fO ks ob) k=bif jg ks k then ξ else go ob k
 |[],ks=>by simp[fO,go]
 |(j,x)::r,ks=>by
  have ih:=λks=>fO_go (k:=k) (ob:=r) (ks:=ks)
  rw[fO]
  cases hj:jg ks j with
  |true=>
   rw[cond_true,ih]
   by_cases h:j=k
   .subst h;rw[hj];rfl
   rw[bg _ _ h]
  |false=>
   rw[cond_false]
   have hm:jg (j::ks) k=(fW j k||jg ks k):=by
    by_cases h:j=k<;>simp_all [jg,gQ]
   by_cases h:j=k
   .subst h;rw[hj,cond_false,bX,bX]
   rw[bg _ _ h,bg _ _ h,ih,hm,gQ h];rfl
theorem aam{m:St}(h:cO N s ⟨fS [] m.sl,fO [] m.ob,m.nx⟩):cO N s m:=λcx E a w hR=>by
 obtain⟨E',h⟩:=h cx E a w hR
 refine⟨E',h.ok,h.dom,λo ob ho=>h.obs o ob ?_,λk=>?_,h.dfr,h.size,h.td⟩
 .show go (fO [] m.ob) o=ς ob
  rw[fO_go];exact ho
 have:=h.sl k
 rw[show gt (fS [] m.sl) k=gt m.sl k from fS_gt] at this
 exact this
theorem wf{st':St}(h1:LeS st.sl st'.nx (fS [] st'.sl):=by repeat (first|exact θ|refine⟨rfl,rfl,?_⟩|refine⟨wn rfl (by first|rfl|simp),rfl,?_⟩|refine⟨wnn rfl (by first|rfl|simp),rfl,?_⟩))(h2:LeO st.ob st'.nx (fO [] st'.ob):=by repeat (first|exact θ|refine⟨rfl,⟨rfl,rfl⟩,?_⟩)):cO N st st':=aam (M7 h1 h2)
def W4:T->List C
 | .v (.agg cs)=>cs
 | .v (.c c)=>[c]
 |_=>[]
def rcsV:RV->List RC
 | .agg xs=>xs
 | .c x=>[x]
def VD(sl:Lab)(ob:Laa):ResultVar->List C×Nat×Bool
 | .tmp k=>(W4 (gt sl k),k,ζ)
 | .cell p _=>match gt sl p with
  | .v (.c (.p o _))=>match go ob o with
   |some (.var _ cs)=>(cs,o,η)
   |_=>([],0,ζ)
  |_=>([],0,ζ)
section
variable{N:Nat}{P:Program}{rs:List ResultVar}{res:List RV}{e:Exit}{sl:Lab}{ob:Laa}{nx o k:Nat}
end
class FCV(P:Program)(p:Prop)(f:outParam FuncId)(xs:outParam Laa)(as:outParam (List T))(ys:outParam Laa)(out:outParam T)(nw:outParam Laa):Prop where
 h:p->FnV P f xs as ys out nw
def nlM:Laa->Nat->Lac
 |[],_=>[]
 |(l,_)::r,n=>(l,n)::nlM r (n+1)
def nlN:Laa->Nat->Nat
 |[],n=>n
 |_::r,n=>nlN r (n+1)
section
variable{P:Program}{N:Nat}{d:Tmp}{ty:TypeId}{ps:String}{af:Array Edge}{gd:Option (Nat×Bool)}{f:FuncId}{args:List Operand}{tys:Array TypeId}{sl sl':Lab}{ob ob' ob1 ob2:Laa}{nx:Nat}{ts ts':List T}{xs ys ys' nw nw':Laa}{out out':T}{p:Prop}
theorem cvU{as:List T}{out0:T}(q:p)[i:FCV P p f [] as [] out0 nw](ht:pH sl args=ς ts:=by exact rfl)(ha:tU (agC ζ ob (inv [])) ts=ς ts':=by exact rfl)(hd:tU dnC ts'=ς as:=by exact rfl)(hu:upT out0=out:=by exact rfl)(hm:mOK [] (nlM nw nx) nx (nlN nw nx) []=true:=by exact rfl)(hs:pZ (kvC (inv [])) sl=ς sl':=by exact rfl)(hb:nL (kvC (inv [])) (λ_ x=>ς x) ob=ς ob':=by exact rfl)(hw:wz ([]++nlM nw nx) nw=ς nw':=by exact rfl)(ho:xP (rlC ([]++nlM nw nx)) out=ς out':=by exact rfl)(hsl:Al nx sl=true:=by exact rfl)(hol:tZ nx ob=true:=by exact rfl)(hN:nlt d N=true:=by exact rfl)(h2:apO nw' ob'=ς ob2:=by exact rfl):
 AWO P N ⟨ς d,.call ⟨.value (.func f),args.toArray,tys⟩,ty,ps,af,gd⟩ ⟨sl,ob,nx⟩ ⟨(d,out')::sl',ob2,nlN nw nx⟩:=cwu [] _ _ (FnV.up (i.h q) hd hu) ht ha rfl hm hs hb rfl hw ho hsl hol hN rfl h2
variable{ops:Array Oper}{l:List Oper}{K:St->Prop}
end
section
variable{P:Program}{N:Nat}{d:Tmp}{ty:TypeId}{ps:String}{af:Array Edge}{f:FuncId}{args:List Operand}{tys:Array TypeId}{sl:Lab}{ob:Laa}{nx:Nat}{st0 st1:St}{ops:Array Oper}{lz:List (Nat×Oper)}{dn seg dn':List Nat}{ys:List Inx}{base:St}{p:Nat}{K:St->Prop}{R:Prop}
end
abbrev FSt(α:Type):=α->Lab->Laa->Nat->St
structure HJ(k:Nat){α:Type}(F:FSt α):Prop
structure HC(k:Nat){α:Type}(F:FSt α):Prop
structure HB(k:Nat){α:Type}(F:FSt α):Prop
structure HL(k:Nat){α:Type}(F:FSt α):Prop
section
variable{P:Program}{N:Nat}{ops:Array Oper}{l:List Oper}{o:Oper}{sl:Lab}{ob:Laa}{nx:Nat}{K:St->Prop}{AQ:Exit->St->Prop}{α β:Type}{p:Option α}{f:α->Option β}{y:β}{F:FSt α}
theorem caF{d:Tmp}{ty:TypeId}{ps:String}{af:Array Edge}{gd:Option (Nat×Bool)}{f:FuncId}{args:List Operand}{tys:Array TypeId}{ts:List T}{nob:Laa}{avs:List AV}{eqs:Lac}{res:List RV}{out:T}{nw:Laa}{p:Prop}(q:p)[i:FC P p f avs res](ht:pH sl args=ς ts:=by exact rfl)(hp:t8 ob (C8 ts)=ς nob:=by exact rfl)(ha:rQ nob ts=ς (avs,eqs):=by exact rfl)(he:Eqs eqs:=by repeat (first|exact θ|refine⟨by first|rfl|exact lm _|simp,?_⟩))(hi:BT nx res=ς (out,nw,n):=by exact rfl)(hw:EA nx nw n=true:=by exact rfl)(hN:nlt d N=true:=by exact rfl)(hob:apO nw ob=ς ob':=by exact rfl):
 NS P N ⟨ς d,.call ⟨.value (.func f),args.toArray,tys⟩,ty,ps,af,gd⟩ ⟨sl,ob,nx⟩ ⟨(d,out)::sl,ob',n⟩ ⟨d,args.zip ts,nob,out,nw⟩:=ca ht hp ha (i.h q) he hi hw hN hob
theorem jr{d:Nat}{b:Bool}(H:p.bind f=ς y)(hg:o.guard=ς (j,b))(hj:(ops[j]?).bind (·.dst)=ς d)(J:HJ d F)[c:Jw N K](w1:∀v,p=ς v->AWR P N ops (o::l) ⟨sl,ob,nx⟩ (λs=>cO N s (F v sl ob nx)))(w2:∀v,f v=ς y->K (F v sl ob nx)):AWR P N ops (o::l) ⟨sl,ob,nx⟩ K:=by
 obtain⟨v,h1,h2⟩:=aeN.1 H
 exact Nv _ (w1 v h1) (w2 v h2)
theorem jd{ops':Array Oper}{is:List Inf}{mx d:Nat}{b:Bool}(H:p.bind f=ς y)(hg:o.guard=ς (j,b))(hj:(ops[j]?).bind (·.dst)=ς d)(J:HJ d F)[c:Jw N K](w1:∀v,p=ς v->DR P N ops (o::l) is ⟨sl,ob,nx⟩ (λis t=>BI ops' is mx=ζ/\cO N t (F v sl ob nx)))(w2:∀v,f v=ς y->K (F v sl ob nx)):DR P N ops (o::l) is ⟨sl,ob,nx⟩ (λis t=>BI ops' is mx=ζ/\K t):=by
 obtain⟨v,h1,h2⟩:=aeN.1 H
 exact LB _ (w1 v h1) (w2 v h2)
theorem jz{lz:List (Nat×Oper)}{dn seg:List Nat}{ys:List Inx}{base:St}{q d:Nat}{b:Bool}(H:p.bind f=ς y)(hg:o.guard=ς (j,b))(hj:(ops[j]?).bind (·.dst)=ς d)(J:HJ d F)[c:Jw N K](w1:∀v,p=ς v->DZ P N ops ((q,o)::lz) dn seg ys base ⟨sl,ob,nx⟩ (λs=>cO N s (F v sl ob nx)))(w2:∀v,f v=ς y->K (F v sl ob nx)):DZ P N ops ((q,o)::lz) dn seg ys base ⟨sl,ob,nx⟩ K:=by
 obtain⟨v,h1,h2⟩:=aeN.1 H
 exact abh _ (w1 v h1) (w2 v h2)
theorem jc{k:Nat}{X Y:Code}(H:p.bind f=ς y)(J:HC k F)[c:Clo N AQ](w1:∀v,p=ς v->AWC P N (.cond (.tmp k) X Y) ⟨sl,ob,nx⟩ (vw (λs=>cO N s (F v sl ob nx)) AQ))(w2:∀v,f v=ς y->AQ .normal (F v sl ob nx)):AWC P N (.cond (.tmp k) X Y) ⟨sl,ob,nx⟩ AQ:=by
 obtain⟨v,h1,h2⟩:=aeN.1 H
 exact Nt _ (w1 v h1) (w2 v h2)
theorem jb{X:Code}(H:p.bind f=ς y)(J:HB id F)[c:Clo N AQ](w1:∀v,p=ς v->AWC P N X ⟨sl,ob,nx⟩ (jv id (vw (λs=>cO N s (F v sl ob nx)) AQ)))(w2:∀v,f v=ς y->AQ .normal (F v sl ob nx)):AWC P N X ⟨sl,ob,nx⟩ (jv id AQ):=by
 obtain⟨v,h1,h2⟩:=aeN.1 H
 exact Ns _ (w1 v h1) (w2 v h2)
theorem il{c:Code}{ρ:Type}{step:α->Option (bJ α ρ)}{x0:α}{r:ρ}(H:iter step n x0=ς r)(J:HL id F)(h0:cO N ⟨sl,ob,nx⟩ (F x0 sl ob nx))(round:∀x o,step x=ς o->AWC P N c (F x sl ob nx) (eB N (λx=>F x sl ob nx) r o (jv id AQ))):AWC P N (.loop c) ⟨sl,ob,nx⟩ (jv id AQ):=Nr _ H h0 round
theorem are{σ ρ:Type}{m:Option ρ}{o:bJ σ ρ}{S:σ->St}{r:ρ}(H:dn m=ς o)(w:m=ς r->AQ (.exit n) s):eB N S r o AQ (.exit n) s:=by
 obtain⟨r0,Hd,rfl⟩:=dnE H
 exact HS λhq=>w (Hd.trans (congrArg ς hq))
theorem arr{σ ρ:Type}{m:Option ρ}{o:bJ σ ρ}{S:σ->St}{r:ρ}(H:dn m=ς o)(w:m=ς r->AQ .ret s):eB N S r o AQ .ret s:=by
 obtain⟨r0,Hd,rfl⟩:=dnE H
 exact iq_r λhq=>w (Hd.trans (congrArg ς hq))
end
theorem zR{AQ:Exit->St->Prop}{ll:List Oper}{r:List (Nat×Oper)}{R:Prop}(hr:R)(hm:P.follows .mixedOrders=true:=by exact Try.follows)(he:Gm ll.toArray=true:=by kernel_rfl)(hc:Ql ll.length (f6 ll.length)=true:=by kernel_rfl)(ho:Is ll (f6 ll.length)=ς r:=by exact rfl)(w:R->DZ P N ll.toArray r [] [] [] st st (λs=>AQ .normal s):=by exact wJ):AWC P N (.region id ll.toArray ζ) st AQ:=yQ _ hm he hc ho (w hr)
theorem sgd{a b:α}(H:ς a=ς b)(k:G):G:=k
section
variable{P:Program}{N:Nat}{d:Tmp}{ty:TypeId}{ps:String}{af:Array Edge}{gd:Option (Nat×Bool)}{x y:Operand}{sl:Lab}{ob:Laa}{nx:Nat}{α:Type}{enc:α->List D}
theorem xdF{g':Bool}{kd:IntKind}{xs:List α}{a:α}(H:ix xs i=ς a)[dz P t e sz by_](hx:opT sl x= .v (.c (.d g (.l (xs.map enc)))):=by exact rfl)(hy:opT sl y= .v (.c (.d g' (.i kd i))):=by exact rfl)(hN:nlt d N=true:=by exact rfl)(henc:∀a,(enc a).length=sz:=by exact λ_=>rfl):
 NS0 P N ⟨ς d,.indexAddr t x y,ty,ps,af,gd⟩ sl ob nx d (.v (.c (.q g (enc a) 0))) ⟨d,[(x,.v (.c (.d g (.l (xs.map enc))))),(y,.v (.c (.d g' (.i kd i))))],[],.v (.c (.q g (enc a) 0)),[]⟩:=xdT H henc hx hy hN
theorem oeF{o:Nat}{rt:TypeId}{ys:List α}{a:α}{m:Bool}{c:C}[g9 P t](hx:opT sl x= .v (.c (.e o sz i.toNat j)):=by exact rfl)(ho:go ob o=ς (.row rt sz (ys.map enc) g m):=by exact rfl)(hN:nlt d N=true:=by exact rfl)(H:ix ys i=ς a:=by assumption)(hc:ld1 g j (enc a)=ς c:=by exact rfl):
 NS0 P N ⟨ς d,.load t x,ty,ps,af,gd⟩ sl ob nx d (.v (.c c)) ⟨d,[(x,.v (.c (.e o sz i.toNat j)))],[(o,.row rt sz (ys.map enc) g m)],.v (.c c),[]⟩:=oe hx ho hN (fK enc H) hc
theorem oeaF{o:Nat}{rt:TypeId}{ys:List α}{a:α}{m:Bool}{cs:List C}[en P t n](hx:opT sl x= .v (.c (.e o sz i.toNat j)):=by exact rfl)(ho:go ob o=ς (.row rt sz (ys.map enc) g m):=by exact rfl)(hN:nlt d N=true:=by exact rfl)(H:ix ys i=ς a:=by assumption)(hc:HW g j n (enc a)=ς cs:=by exact rfl):
 NS0 P N ⟨ς d,.load t x,ty,ps,af,gd⟩ sl ob nx d (.v (.agg cs)) ⟨d,[(x,.v (.c (.e o sz i.toNat j)))],[(o,.row rt sz (ys.map enc) g m)],.v (.agg cs),[]⟩:=oea hx ho hN (fK enc H) hc
end
theorem pE{β:Type}{G:α×β->Prop}(h:∀a b,G (a,b)):∀x,G x:=λ(a,b)=>h a b
theorem hJ(k:Nat)(F:FSt α):HJ k F:=⟨⟩
theorem hC(k:Nat)(F:FSt α):HC k F:=⟨⟩
theorem hB(k:Nat)(F:FSt α):HB k F:=⟨⟩
theorem hL(k:Nat)(F:FSt α):HL k F:=⟨⟩
theorem hb(d n:Nat):HJ d (λ(v:Bool) sl ob nx=>⟨(n,tB v)::(d,.any)::sl,ob,nx⟩):=⟨⟩
theorem hl(d n:Nat):HL d (λ(v:Int) sl ob nx=>⟨(n,tI v)::sl,ob,nx⟩):=⟨⟩
theorem hm(d n m:Nat):HL d (λ(v:Int×Int) sl ob nx=>⟨(n,tI v.1)::(m,tI v.2)::sl,ob,nx⟩):=⟨⟩
theorem he(d n m:Nat):HB d (λ(v:Int) sl ob nx=>⟨(n,tI v)::(m,.any)::sl,ob,nx⟩):=⟨⟩
theorem hc(d n:Nat):HC d (λ(v:Bool) sl ob nx=>⟨(n,tB v)::sl,ob,nx⟩):=⟨⟩
theorem hi(d n:Nat):HC d (λ(v:Int) sl ob nx=>⟨(n,tI v)::sl,ob,nx⟩):=⟨⟩
section
variable{P:Program}{N:Nat}{d:Tmp}{ty:TypeId}{ps:String}{af:Array Edge}{gd:Option (Nat×Bool)}{x y:Operand}{sl:Lab}{ob:Laa}{nx:Nat}{α:Type}{enc:α->List D}{ops:Array Oper}{lz:List (Nat×Oper)}{dn seg:List Nat}{ys:List Inx}{base:St}{p:Nat}{K:St->Prop}{R:Prop}{AQ:Exit->St->Prop}
theorem zS{o k:Nat}{vt:TypeId}{cs cs' ns:List C}{v:V}[ht:TyN P t n](hr:R)(hx:opT sl x= .v (.c (.p o k)):=by exact rfl)(hy:opT sl y= .v v:=by exact rfl)(ho:go ob o=ς (.var vt cs):=by exact rfl)(hv:vcs v=ς ns:=by exact rfl)(hn:fW ns.length n=true:=by exact rfl)(hst:ns.all C.sto=true:=by exact rfl)(hs:mI k ns cs=ς cs':=by exact rfl)(hq:abD N (100000+p)=true:=by exact rfl)(w:R->DZ P N ops lz dn (seg++[p]) (ys++[⟨⟨100000+p,[(x,.v (.c (.p o k))),(y,.v v)],[(o,.var vt cs)],.any,[]⟩,[(o,.var vt cs')],ξ⟩]) base ⟨(100000+p,.any)::sl,(o,.var vt cs')::ob,nx⟩ K:=by exact wJ):
 DZ P N ops ((p,⟨ξ,.store t x y,ty,ps,af,ξ⟩)::lz) dn seg ys base ⟨sl,ob,nx⟩ K:=wA (spx (100000+p) hq hx hy ho hv hn hst hs) hr rfl w
theorem iZs(h:DZ P N ops ((p,⟨ξ,.store t x y,ty,ps,af,ξ⟩)::lz) dn seg ys base st K):DZ P N ops ((p,⟨ξ,.store t x y,ty,ps,af,ξ⟩)::lz) dn seg ys base st K:=h
theorem awoW{o:Oper}{a b c:St}(h:AWO P N o a b)(k:cO N b c):AWO P N o a c:=λcx E ac w hR=>Oper.wp_mono (λ_ _ ⟨E',h'⟩=>k cx E' _ _ h') (h cx E ac w hR)
theorem cpF{o:Nat}{ys zs:List α}{gy gg:Bool}{c:C}[dz P t e sz by_](hd:nlt d N=true:=by exact rfl)(hx:opT sl x= .v (.c (.w o n)):=by exact rfl)(ho:go ob o=ς (.row e sz (ys.map enc) g ζ):=by exact rfl)(hy:opT sl y= .v (.c c):=by exact rfl)(hs:Src ob c (zs.map enc) gy:=by first|exact .d|exact .nil|exact .w rfl (by first|rfl|exact lm _|simp)|exact .wn rfl (by first|rfl|exact lm _|simp))(henc:∀a,(enc a).length=sz:=by exact λ_=>rfl)(hn:ys.length=n:=by first|rfl|simp)(hg:(g&&gy)=gg:=by exact rfl):
 AWO P N ⟨ς d,.call ⟨.builtin .copy,#[x,y],#[t,t]⟩,ty,ps,af,gd⟩ ⟨sl,ob,nx⟩ ⟨(d,.any)::sl,(o,.row e sz ((cpL ys zs).map enc) gg ζ)::ob,nx⟩:=cpT rfl henc hn hs hd hx hy ho hg
theorem cpFf{o:Nat}{ys zs:List α}{gy:Bool}{c:C}[dz P t e sz by_](hd:nlt d N=true:=by exact rfl)(hx:opT sl x= .v (.c (.w o n)):=by exact rfl)(ho:go ob o=ς (.row e sz (ys.map enc) g ζ):=by exact rfl)(hy:opT sl y= .v (.c c):=by exact rfl)(hs:Src ob c (zs.map enc) gy:=by first|exact .d|exact .nil|exact .w rfl (by first|rfl|exact lm _|simp)|exact .wn rfl (by first|rfl|exact lm _|simp))(henc:∀a,(enc a).length=sz:=by exact λ_=>rfl)(hf:∀a,uK (enc a)=true:=by exact λ_=>rfl)(hn:ys.length=n:=by first|rfl|simp):
 AWO P N ⟨ς d,.call ⟨.builtin .copy,#[x,y],#[t,t]⟩,ty,ps,af,gd⟩ ⟨sl,ob,nx⟩ ⟨(d,.any)::sl,(o,.row e sz ((cpL ys zs).map enc) ζ ζ)::(o,.row e sz ((cpL ys zs).map enc) (g&&gy) ζ)::ob,nx⟩:=awoW (cpT rfl henc hn hs hd hx hy ho rfl) (wM (bX _ _ _) hf)
class ElT(P:Program)(e:TypeId)(α:outParam Type)(enc:outParam (α->List D))(za:outParam α):Prop
theorem mkF{nx':Nat}{zd:List D}{g':Bool}{k k':IntKind}{n c:Int}{za:α}(H:jh by_ n c=ζ)[dz P t e sz by_][ElT P e α enc za][TyE P e zd](hz:enc za=zd:=by exact rfl)(hx:opT sl x= .v (.c (.d g (.i k n))):=by exact rfl)(hy:opT sl y= .v (.c (.d g' (.i k' c))):=by exact rfl)(hN:nlt d N=true:=by exact rfl)(hq:nxt nx=ς nx':=by exact rfl):
 NS1 P N ⟨ς d,.makeSlice t x y,ty,ps,af,gd⟩ sl ob nx nx' d (.v (.c (.w nx (aal n.toNat za).length))) (.row e sz ((aal n.toNat za).map enc) ζ ζ) ⟨d,[(x,.v (.c (.d g (.i k n)))),(y,.v (.c (.d g' (.i k' c))))],[],.v (.c (.w nx (aal n.toNat za).length)),[(nx,.row e sz ((aal n.toNat za).map enc) ζ ζ)]⟩:=mkT H hz hx hy hN hq
theorem cdhF{t:Nat}{g2:Bool}{xs:List α}{h:Int}{hi:Operand}(H:d6 xs 0 h=ζ)[ht:dz P t e sz by_](hx:opT sl x= .v (.c (.d g (.l (xs.map enc)))):=by exact rfl)(hh:opT sl hi= .v (.c (.d g2 (.i .i64 h))):=by exact rfl)(hN:nlt d N=true:=by exact rfl)(henc:∀a,(enc a).length=sz:=by exact λ_=>rfl):
 NS0 P N ⟨ς d,.slice t x ξ (ς hi) ξ,ty,ps,af,gd⟩ sl ob nx d (.v (.c (.d g (.l ((xs.take h.toNat).map enc))))) ⟨d,[(x,.v (.c (.d g (.l (xs.map enc))))),(hi,.v (.c (.d g2 (.i .i64 h))))],[],.v (.c (.d g (.l ((xs.take h.toNat).map enc)))),[]⟩:=cdhT H henc hx hh hN
theorem cdlF{t:Nat}{g2:Bool}{xs:List α}{l:Int}{lo:Operand}(H:d6 xs l xs.length=ζ)[ht:dz P t e sz by_](hx:opT sl x= .v (.c (.d g (.l (xs.map enc)))):=by exact rfl)(hl:opT sl lo= .v (.c (.d g2 (.i .i64 l))):=by exact rfl)(hN:nlt d N=true:=by exact rfl)(henc:∀a,(enc a).length=sz:=by exact λ_=>rfl):
 NS0 P N ⟨ς d,.slice t x (ς lo) ξ ξ,ty,ps,af,gd⟩ sl ob nx d (.v (.c (.d g (.l ((xs.drop l.toNat).map enc))))) ⟨d,[(x,.v (.c (.d g (.l (xs.map enc))))),(lo,.v (.c (.d g2 (.i .i64 l))))],[],.v (.c (.d g (.l ((xs.drop l.toNat).map enc)))),[]⟩:=cdlT H henc hx hl hN
structure HZ(k:Nat):Prop
theorem hz(k:Nat):HZ k:=⟨⟩
theorem iHZ{c:Array Oper}(J:HZ id)(h:AWC P N (.region id c ζ) st AQ):AWC P N (.region id c ζ) st AQ:=h
theorem aq{b:Bool}{x:Option α}{r:α}(H:(bif b then x else ξ)=ς r)(k:b=ζ->x=ς r->G):G:=k (rq H).1 (rq H).2
end
section
variable{P:Program}{N:Nat}{ops:Array Oper}{l:List Oper}{o:Oper}{st:St}{K:St->Prop}{AQ:Exit->St->Prop}{is:List Inf}{KK:List Inf->St->Prop}{lz:List (Nat×Oper)}{dn seg:List Nat}{ys:List Inx}{base:St}{q j d:Nat}{b:Bool}{G:Prop}
theorem iR(h:AWR P N ops (o::l) st K):AWR P N ops (o::l) st K:=h
theorem iD(h:DR P N ops (o::l) is st KK):DR P N ops (o::l) is st KK:=h
theorem iZ(h:DZ P N ops ((q,o)::lz) dn seg ys base st K):DZ P N ops ((q,o)::lz) dn seg ys base st K:=h
theorem rU(hg:o.guard=ς (j,b))(h:AWR P N ops (o::l) st K):AWR P N ops (o::l) st K:=h
theorem dU(hg:o.guard=ς (j,b))(h:DR P N ops (o::l) is st KK):DR P N ops (o::l) is st KK:=h
theorem zU(hg:o.guard=ς (j,b))(h:DZ P N ops ((q,o)::lz) dn seg ys base st K):DZ P N ops ((q,o)::lz) dn seg ys base st K:=h
section
variable{dd:Option Tmp}{cl:Call}{ty t1:TypeId}{x1 x2:Operand}{ps:String}{af:Array Edge}{gd:Option (Nat×Bool)}
end
theorem cL{c:Code}(h:AWC P N (.loop c) st AQ):AWC P N (.loop c) st AQ:=h
theorem cK{c:Operand}{X Y:Code}(h:AWC P N (.cond c X Y) st AQ):AWC P N (.cond c X Y) st AQ:=h
theorem cR{a:Nat}{c:Array Oper}(h:AWC P N (.region a c ζ) st AQ):AWC P N (.region a c ζ) st AQ:=h
theorem iW(h:cO N st s):cO N st s:=h
theorem iP{rs:List ResultVar}{res:List RV}(h:vW N P rs res .ret st):vW N P rs res .ret st:=h
theorem iE{rs:List ResultVar}{res:List RV}(h:vW N P rs res .normal st):vW N P rs res .normal st:=h
end
inductive Pl where
 |s (k:Nat)
 |a (k j:Nat)
 |v (o j:Nat)
inductive Fx where
 |fz (o:Nat)
 |fn (o:Nat)
 |tn (o:Nat)
 |sw (p q:Nat)
 |rn (p q:Nat)
 |cs (p:Pl)
 |nn (p:Pl) (t z:Nat) (g:Bool)
 |ls (p:Pl)
 |gf (o:Nat)
def rgN(tob:Laa)(q:Nat)(p:Pl):Fx:=match go tob q with
 |some (.rown t z _ (.b g))=>.nn p t z g
 |_=>.nn p 0 0 ζ
def fxW(ob:Laa)(o:Nat)(pl:Pl):Option Fx:=bif rsv o then ξ else match go ob o with
 |some (.row _ _ _ (.b _) ζ)=>ς (.fz o)
 |_=>ς (.cs pl)
def fxL(p q:Nat):Option Fx:=bif fW p q then ξ else ς (bif rsv p then .rn p q else .sw q p)
def fxC(ob tob:Laa)(pl:Pl):C->C->Option Fx
 | .d _ (.l _),b=>match b with
  | .w o _=>fxW ob o pl
  | .wn o _=>bif rsv o then ξ else ς (.fn o)
  | .nil=>ς (.ls pl)
  |_=>ξ
 | .wn q _,b=>match b with
  | .w o _=>ς (.tn o)
  | .wn o _=>fxL q o
  | .nil=>ς (rgN tob q pl)
  |_=>ξ
 | .w q _,b=>match b with
  | .w o _=>fxL q o
  |_=>ξ
 | .p q _,b=>match b with
  | .p o _=>bif rsv q||rsv o then ξ else fxL q o
  |_=>ξ
 |_,_=>ξ
def fxs(f:Nat->C->C->Option Fx):Nat->List C->List C->Option Fx
 |j,a::as,b::bs=>match f j a b with
  |some x=>ς x
  |none=>fxs f (j+1) as bs
 |_,_,_=>ξ
def fxS(ob tob:Laa)(sl:Lab):Lab->Option Fx
 |[]=>ξ
 |(k,t)::r=>match(match t,gt sl k with
  | .v (.c a),.v (.c b)=>fxC ob tob (.s k) a b
  | .v (.agg as),.v (.agg bs)=>fxs (λj=>fxC ob tob (.a k j)) 0 as bs
  |_,_=>ξ) with
  |some x=>ς x
  |none=>fxS ob tob sl r
def fxO(ob tob:Laa):Laa->Option Fx
 |[]=>ξ
 |(o,y)::r=>match(match y,go ob o with
  | .var _ as,ς (.var _ bs)=>fxs (λj=>fxC ob tob (.v o j)) 0 as bs
  | .row _ _ _ η ζ,ς (.row _ _ _ ζ ζ)=>ς (.gf o)
  |_,_=>ξ) with
  |some x=>ς x
  |none=>fxO ob tob r
def fx(sl:Lab)(ob:Laa)(tsl:Lab)(tob:Laa):Option Fx:=match fxS ob tob sl tsl with
 |some x=>ς x
 |none=>fxO ob tob tob
def app(sl:Lab)(ob:Laa)(nx:Nat):Fx->Option (St×Lac)
 | .fz o=>match go ob o,rsv o with
  |some (.row t z e (.b g) ζ),η=>ς (⟨sl,(o,.row t z e g η)::ob,nx⟩,[])
  |_,_=>ξ
 | .cs p=>match p with
  | .v o _=>match go ob o with
   |some (.var t cs)=>match Qn ob cs with
    |some (cs',e)=>ς (⟨sl,(o,.var t cs')::ob,nx⟩,e)
    |none=>ξ
   |_=>ξ
  | .s k| .a k _=>match vfz ob (gt sl k) with
   |some (t',e)=>ς (⟨(k,t')::sl,ob,nx⟩,e)
   |none=>ξ
 | .fn o=>match go ob o,rsv o with
  |some (.rown t z e (.b g)),η=>match UD o (.l e) g e.length sl,yF o (.l e) g e.length ob with
   |some (sl',e1),ς (ob',e2)=>ς (⟨sl',ob',nx⟩,e1++e2)
   |_,_=>ξ
  |_,_=>ξ
 | .tn o=>match go ob o with
  |some (.row _ _ _ (.b _) ζ)=>match pZ (J5 o) sl,nL (J5 o) (RI o) ob with
   |some sl',ς ob'=>ς (⟨sl',ob',nx⟩,[])
   |_,_=>ξ
  |_=>ξ
 | .sw p q=>bif rsv p||rsv q||!(nlt p nx&&nlt q nx) then ξ else ς (⟨swS p q sl,swO p q ob,nx⟩,[])
 | .rn p q=>bif rsp p||rsv q||fW p q||!nlt p nx then ξ else match pZ (Gc p q) sl,EO p q ob with
  |some sl',ς ob'=>ς (⟨sl',ob',nx⟩,[])
  |_,_=>ξ
 | .nn p t z g=>bif Al nx sl&&tZ nx ob then match nxt nx with
  |some n=>match p with
   | .s k=>match gt sl k with
    | .v (.c .nil)=>ς (⟨(k,.v (.c (.wn nx 0)))::sl,(nx,.rown t z [] g)::ob,n⟩,[])
    |_=>ξ
   | .a k j=>match gt sl k with
    | .v (.agg cs)=>match Gf j (.wn nx 0) cs with
     |some cs'=>ς (⟨(k,.v (.agg cs'))::sl,(nx,.rown t z [] g)::ob,n⟩,[])
     |none=>ξ
    |_=>ξ
   | .v o j=>match go ob o with
    |some (.var vt cs)=>match Gf j (.wn nx 0) cs with
     |some cs'=>ς (⟨sl,(o,.var vt cs')::(nx,.rown t z [] g)::ob,n⟩,[])
     |none=>ξ
    |_=>ξ
  |none=>ξ
  else ξ
 | .ls p=>match p with
  | .s k=>ς (⟨(k,nlT (gt sl k))::sl,ob,nx⟩,[])
  | .a k j=>match gt sl k with
   | .v (.agg cs)=>match Gf j (.d ζ (.l [])) cs with
    |some cs'=>ς (⟨(k,.v (.agg cs'))::sl,ob,nx⟩,[])
    |none=>ξ
   |_=>ξ
  | .v o j=>match go ob o with
   |some (.var t cs)=>match Gf j (.d ζ (.l [])) cs with
    |some cs'=>ς (⟨sl,(o,.var t cs')::ob,nx⟩,[])
    |none=>ξ
   |_=>ξ
 | .gf o=>match go ob o with
  |some (.row t z e ζ ζ)=>ς (⟨sl,(o,.row t z e η ζ)::ob,nx⟩,[])
  |_=>ξ
theorem wV{ob:Laa}{x:Fx}{e:Lac}(h:app sl ob nx x=ς (st,e))(he:Eqs e):cO N ⟨sl,ob,nx⟩ st:=by
 cases x with
 |fz o=>
  simp only[app] at h
  split at h
  .rename_i h1 h2;cases h;exact wN h1 h2
  cases h
 |cs p=>
  cases p with
  |v o j=>
   simp only[app] at h
   split at h
   .rename_i h1
    split at h
    .rename_i h2;cases h;exact nO h1 h2 he
    cases h
   cases h
  |s k=>
   simp only[app] at h
   split at h
   .rename_i h2;cases h;exact oo rfl h2 he
   cases h
  |a k j=>
   simp only[app] at h
   split at h
   .rename_i h2;cases h;exact oo rfl h2 he
   cases h
 |fn o=>
  simp only[app] at h
  split at h
  .rename_i h1 h2
   split at h
   .rename_i h3 h4;cases h
    obtain⟨k1,k2⟩:=dE he
    exact eD o h2 h1 h3 h4 k1 k2
   cases h
  cases h
 |tn o=>
  simp only[app] at h
  split at h
  .rename_i h1
   split at h
   .rename_i h3 h4;cases h;exact ez o h1 h3 h4
   cases h
  cases h
 |sw p q=>
  simp only[app] at h
  cases hp:rsv p<;>cases hq:rsv q<;>cases h1:nlt p nx<;>cases h2:nlt q nx<;>simp only[hp,hq,h1,h2,Bool.or_true,Bool.or_false,Bool.and_true,Bool.and_false,Bool.not_true,Bool.not_false,cond_true,cond_false] at h<;>first|(cases h;exact PQ hp hq h1 h2)|cases h
 |rn p q=>
  simp only[app] at h
  cases hp:rsp p<;>cases hq:rsv q<;>cases h1:fW p q<;>cases h2:nlt p nx<;>simp only[hp,hq,h1,h2,Bool.or_true,Bool.or_false,Bool.not_true,Bool.not_false,cond_true,cond_false] at h<;>try cases h
  split at h
  .rename_i h3 h4;cases h;exact Jo p q hp hq h1 h2 h3 h4
  cases h
 |nn p t z g=>
  simp only[app] at h
  cases hs:Al nx sl<;>cases hb:tZ nx ob<;>simp only[hs,hb,Bool.and_true,Bool.and_false,cond_true,cond_false] at h<;>try cases h
  split at h
  .rename_i hq
   cases p with
   |s k=>
    simp only at h
    split at h
    .rename_i hk;cases h;exact aap t z g hk hs hb hq
    cases h
   |a k j=>
    simp only at h
    split at h
    .rename_i hk
     split at h
     .rename_i hj;cases h;exact aao t z g hk hj hs hb hq
     cases h
    cases h
   |v o j=>
    simp only at h
    split at h
    .rename_i hk
     split at h
     .rename_i hj;cases h;exact An t z g hk hj hs hb hq
     cases h
    cases h
  cases h
 |ls p=>
  cases p with
  |s k=>simp only[app] at h;cases h;exact aan rfl
  |v o j=>
   simp only[app] at h
   split at h
   .rename_i h1
    split at h
    .rename_i h2;cases h;exact s7 h1 h2
    cases h
   cases h
  |a k j=>
   simp only[app] at h
   split at h
   .rename_i h1
    split at h
    .rename_i h2;cases h;exact V5 h1 h2
    cases h
   cases h
 |gf o=>
  simp only[app] at h
  split at h
  .rename_i h1;cases h;exact weak_g h1
  cases h
theorem fxF{ob:Laa}{x:Fx}{M:St}{e:Lac}(h:fx sl ob (fS [] M.sl) (fO [] M.ob)=ς x)(ha:app sl ob nx x=ς (st,e))(he:Eqs e)(w:cO N st M):cO N ⟨sl,ob,nx⟩ M:=aK (wV ha he) w
theorem fxU{ob:Laa}{M:St}(h:abD nx M.nx=ζ)(w:cO N ⟨sl,ob,M.nx⟩ M):cO N ⟨sl,ob,nx⟩ M:=aK (A8 h) w
def CsE:List C->List C->Prop
 |[],[]=>True
 |a::as,b::bs=>a=b/\CsE as bs
 |_,_=>False
theorem Qd:∀{as bs:List C},CsE as bs->as=bs
 |[],[],_=>rfl
 |_::_,_::_,h=>by rw[h.1,Qd h.2]
 |[],_::_,h=>h.elim
 |_::_,[],h=>h.elim
theorem vE{ob:Laa}{o t:Nat}{cs cs':List C}(h:go ob o=ς (.var t cs))(e:CsE cs cs'):go ob o=ς (.var t cs'):=Qd e▸h
theorem aE'{k:Nat}{cs cs':List C}(h:gt sl k= .v (.agg cs))(e:CsE cs cs'):gt sl k= .v (.agg cs'):=Qd e▸h
def wnL:Lac->Lab->Laa->Option (Lab×Laa×Lac)
 |[],sl,ob=>ς (sl,ob,[])
 |(o,n)::r,sl,ob=>match Ao o n sl,J7 o n ob with
  |some sl',ς ob'=>match wnL r sl' ob' with
   |some (a,b,e)=>ς (a,b,(RS o n sl++PT o n ob)++e)
   |none=>ξ
  |_,_=>ξ
theorem DY{N nx:Nat}:∀{L:Lac} {sl sl':Lab} {ob ob':Laa} {e:Lac},wnL L sl ob=ς (sl',ob',e)->Eqs e->cO N ⟨sl,ob,nx⟩ ⟨sl',ob',nx⟩
 |[],sl,sl',ob,ob',e,h,he=>by cases h;exact mu _
 |(o,n)::r,sl,sl',ob,ob',e,h,he=>by
  simp only[wnL] at h
  split at h
  .rename_i h1 h2
   split at h
   .rename_i h3;cases h
    obtain⟨k1,k2⟩:=dE he
    obtain⟨k3,k4⟩:=dE k1
    exact aK (PR h1 h2 k3 k4) (DY h3 k2)
   cases h
  cases h
def outVs:T->List V
 | .v v=>[v]
 | .tup vs=>vs
 | .any=>[]
def vCs:V->List C
 | .c c=>[c]
 | .agg cs=>cs
def tgR(sl:Lab)(ob:Laa):Nat->List ResultVar->List V->Option (Lab×Laa)
 |_,[],[]=>ς ([],[])
 |n,.tmp k::rs,v::vs=>match tgR sl ob n rs vs with
  |some (a,b)=>ς ((k,.v v)::a,b)
  |none=>ξ
 |n,.cell p _::rs,v::vs=>match gt sl p with
  | .v (.c (.p o _))=>match go ob o,tgR sl ob (n+1) rs vs with
   |some (.var t _),ς (a,b)=>ς ((p,.v (.c (.p n 0)))::a,(n,.var t (vCs v))::b)
   |_,_=>ξ
  |_=>ξ
 |_,_,_=>ξ
theorem fvR{rs:List ResultVar}{ys nw:Laa}{out:T}{vs:List V}{tsl:Lab}{ob tob:Laa}(ho:outVs out=vs)(hm:tgR sl ob 250 rs vs=ς (tsl,tob))(h0:Vs vs=out)(w:cO N ⟨sl,ob,nx⟩ ⟨tsl,ys++(nw++tob),300⟩)(hr:jN P ⟨tsl,ys++(nw++tob),300⟩ rs vs)(hy:LoA (ys++(nw++tob)) ys)(hn:LoA (ys++(nw++tob)) nw):tf N P rs ys out nw .ret ⟨sl,ob,nx⟩:=⟨_,vs,w,hr,h0,hy,hn⟩
theorem fvE{rs:List ResultVar}{ys nw:Laa}{out:T}{vs:List V}{tsl:Lab}{ob tob:Laa}(ho:outVs out=vs)(hm:tgR sl ob 250 rs vs=ς (tsl,tob))(h0:Vs vs=out)(w:cO N ⟨sl,ob,nx⟩ ⟨tsl,ys++(nw++tob),300⟩)(hr:jN P ⟨tsl,ys++(nw++tob),300⟩ rs vs)(hy:LoA (ys++(nw++tob)) ys)(hn:LoA (ys++(nw++tob)) nw):tf N P rs ys out nw .normal ⟨sl,ob,nx⟩:=⟨_,vs,w,hr,h0,hy,hn⟩
def mkI:List T->List T->Lac
 | .v (.c a)::as,.v (.c b)::bs=>match a,b with
  | .p a _,.p b _=>(a,b)::mkI as bs
  | .w a _,.w b _=>(a,b)::mkI as bs
  |_,_=>mkI as bs
 |_::as,_::bs=>mkI as bs
 |_,_=>[]
def labW:C->Option Nat
 | .w o _=>ς o
 | .wn o _=>ς o
 |_=>ξ
def zpW:List C->List C->Lac
 |a::as,b::bs=>match labW a,labW b with
  |some a,ς b=>(a,b)::zpW as bs
  |_,_=>zpW as bs
 |_,_=>[]
def mkJ(xs ob:Laa):Lac->Lac
 |[]=>[]
 |(a,b)::r=>match go xs a,go ob b with
  |some (.var _ cs),ς (.var _ ds)=>(a,b)::(zpW cs ds++mkJ xs ob r)
  |_,_=>(a,b)::mkJ xs ob r
def ordM(m:Lac):Laa->Option Lac
 |[]=>ς []
 |(l,_)::r=>match cf m l,ordM m r with
  |some o,ς q=>ς ((l,o)::q)
  |_,_=>ξ
def mkM(xs ob:Laa)(as ts:List T):Option Lac:=ordM (mkJ xs ob (mkI as ts)) xs
def tnV(ob:Laa)(b:Nat):Nat->List C->List C->Option Fx
 |j,.d _ (.l _)::as,.w o _::bs=>match fxW ob o (.v b j) with
  |some x=>ς x
  |none=>tnV ob b (j+1) as bs
 |j,_::as,_::bs=>tnV ob b (j+1) as bs
 |_,_,_=>ξ
def tnL(xs ob:Laa):Lac->Option Fx
 |[]=>ξ
 |(a,b)::r=>match(match go xs a,go ob b with
  |some (.rown _ _ _ _),ς (.row _ _ _ _ ζ)=>ς (Fx.tn b)
  |some (.var _ cs),ς (.var _ ds)=>tnV ob b 0 cs ds
  |_,_=>ξ) with
  |some x=>ς x
  |none=>tnL xs ob r
def lnC(m:Lac):List C->Lac
 |[]=>[]
 | .w a n::cs| .wn a n::cs=>match cf m a with
  |some b=>(b,n)::lnC m cs
  |none=>lnC m cs
 |_::cs=>lnC m cs
def lnX(m:Lac):Laa->Lac
 |[]=>[]
 |(_,.var _ cs)::r=>lnC m cs++lnX m r
 |_::r=>lnX m r
section
variable{P:Program}{N:Nat}{d:Tmp}{ty:TypeId}{ps:String}{af:Array Edge}{gd:Option (Nat×Bool)}{f:FuncId}{args:List Operand}{tys:Array TypeId}{sl sl':Lab}{ob ob' ob1 ob2:Laa}{nx:Nat}{ts ts':List T}{xs ys ys' nw nw':Laa}{out out':T}{p:Prop}{m e:Lac}
variable{ops:Array Oper}{l:List Oper}{K:St->Prop}{x:Fx}{st st0:St}
theorem cvN(q:p)[i:FCV P p f xs ts' ys out nw](ht:pH sl args=ς ts)(hM:mkM xs ob ts' ts=ς m)(h:tnL xs ob m=ς x)(ha:app sl ob nx x=ς (st,e))(he:Eqs e)(w:AWR P N ops (⟨ς d,.call ⟨.value (.func f),args.toArray,tys⟩,ty,ps,af,gd⟩::l) st K):AWR P N ops (⟨ς d,.call ⟨.value (.func f),args.toArray,tys⟩,ty,ps,af,gd⟩::l) ⟨sl,ob,nx⟩ K:=cd (wV ha he) w
variable{α:Type}{enc:α->List D}{us:List α}{j:Int}{a:α}{y z:Operand}{t1:TypeId}{o n e sz:Nat}{g:Bool}
end
theorem wg{st':St}(h1:LeS st.sl st'.nx (fS [] st'.sl):=by repeat (first|exact θ|refine⟨rfl,rfl,?_⟩|refine⟨wn rfl (by first|rfl|simp),rfl,?_⟩|refine⟨wnn rfl (by first|rfl|simp),rfl,?_⟩|refine⟨aE' rfl (by repeat (first|exact θ|refine⟨rfl,?_⟩|refine⟨congrArg (C.w _) (by simp),?_⟩|refine⟨congrArg (C.wn _) (by simp),?_⟩)),rfl,?_⟩))(h2:LeO st.ob st'.nx (fO [] st'.ob):=by repeat (first|exact θ|refine⟨rfl,⟨rfl,rfl⟩,?_⟩|refine⟨vE rfl (by repeat (first|exact θ|refine⟨rfl,?_⟩|refine⟨congrArg (C.w _) (by simp),?_⟩|refine⟨congrArg (C.wn _) (by simp),?_⟩)),⟨rfl,rfl⟩,?_⟩)):cO N st st':=aam (M7 h1 h2)
def Um(ys:List α)(i:Nat)(a:α):List α:=ys.set i a
structure Tag{α:Type}(ys:List α)(i:Nat):Prop where
theorem Tag.eq{ys:List α}{i:Nat}(t:Tag ys i)(a:α):ys.set i a=Um ys i a:=rfl
section
variable{P:Program}{N:Nat}{ty t:TypeId}{ps:String}{af:Array Edge}{gd:Option (Nat×Bool)}{x y:Operand}{sl:Lab}{ob:Laa}{nx:Nat}{α:Type}{enc:α->List D}{ops:Array Oper}{l:List Oper}{K:St->Prop}
theorem rSt(h:AWR P N ops (⟨ξ,.store t x y,ty,ps,af,gd⟩::l) st K):AWR P N ops (⟨ξ,.store t x y,ty,ps,af,gd⟩::l) st K:=h
theorem rSo{o:Nat}{rt:TypeId}{ys:List α}{a:α}(hx:opT sl x= .v (.c (.e o sz i.toNat j)))(ho:go ob o=ς (.row rt sz (ys.map enc) g ζ))(H:ix ys i=ς a)(w:Tag ys i.toNat->AWR P N ops (⟨ξ,.store t x y,ty,ps,af,gd⟩::l) ⟨sl,ob,nx⟩ K):AWR P N ops (⟨ξ,.store t x y,ty,ps,af,gd⟩::l) ⟨sl,ob,nx⟩ K:=w ⟨⟩
theorem soM{o:Nat}{rt:TypeId}{ys v:List α}{a a':α}{ns:List D}{g' gg:Bool}{u:V}[TyN P t n](e:Um ys i.toNat a'=v)(H:ix ys i=ς a:=by assumption)(hx:opT sl x= .v (.c (.e o sz i.toNat j)):=by exact rfl)(hy:opT sl y= .v u:=by exact rfl)(ho:go ob o=ς (.row rt sz (ys.map enc) g ζ):=by exact rfl)(hv:vD u=ς (ns,g'):=by exact rfl)(hn:fW ns.length n=true:=by exact rfl)(hs:mI j ns (enc a)=ς (enc a'):=by exact rfl)(hg:(g&&g')=gg:=by exact rfl):
 AWO P N ⟨ξ,.store t x y,ty,ps,af,gd⟩ ⟨sl,ob,nx⟩ ⟨sl,(o,.row rt sz ((ys.set i.toNat a').map enc) gg ζ)::ob,nx⟩:=soT H hx hy ho hv hn hs hg
variable{d:Tmp}
theorem oenF{o:Nat}{rt:TypeId}{ys:List α}{a:α}{c:C}[g9 P t](hx:opT sl x= .v (.c (.e o sz i.toNat j)):=by exact rfl)(ho:go ob o=ς (.rown rt sz (ys.map enc) g):=by exact rfl)(hN:nlt d N=true:=by exact rfl)(H:ix ys i=ς a:=by assumption)(hc:ld1 g j (enc a)=ς c:=by exact rfl):
 NS0 P N ⟨ς d,.load t x,ty,ps,af,gd⟩ sl ob nx d (.v (.c c)) ⟨d,[(x,.v (.c (.e o sz i.toNat j)))],[(o,.rown rt sz (ys.map enc) g)],.v (.c c),[]⟩:=oen hx ho hN (fK enc H) hc
theorem oeanF{o:Nat}{rt:TypeId}{ys:List α}{a:α}{cs:List C}[en P t n](hx:opT sl x= .v (.c (.e o sz i.toNat j)):=by exact rfl)(ho:go ob o=ς (.rown rt sz (ys.map enc) g):=by exact rfl)(hN:nlt d N=true:=by exact rfl)(H:ix ys i=ς a:=by assumption)(hc:HW g j n (enc a)=ς cs:=by exact rfl):
 NS0 P N ⟨ς d,.load t x,ty,ps,af,gd⟩ sl ob nx d (.v (.agg cs)) ⟨d,[(x,.v (.c (.e o sz i.toNat j)))],[(o,.rown rt sz (ys.map enc) g)],.v (.agg cs),[]⟩:=oean hx ho hN (fK enc H) hc
end
section
variable{P:Program}{N:Nat}{rs:List ResultVar}{ys nw:Laa}{out:T}{st:St}
theorem iPv(h:tf N P rs ys out nw .ret st):tf N P rs ys out nw .ret st:=h
theorem iEv(h:tf N P rs ys out nw .normal st):tf N P rs ys out nw .normal st:=h
end
class FCW(P:Program)(p:Prop)(f:outParam FuncId)(x:outParam Ob)(as:outParam (List T))(y:outParam Ob)(res:outParam (List RV)):Prop where
 h:p->FnW P f x as y res
def p200:List T->List T->Option Nat
 | .v (.c (.p a _))::as,.v (.c (.p b _))::bs=>bif fW a 200 then ς b else p200 as bs
 |_::as,_::bs=>p200 as bs
 |_,_=>ξ
section
variable{P:Program}{N:Nat}{d:Tmp}{ty:TypeId}{ps:String}{af:Array Edge}{gd:Option (Nat×Bool)}{f:FuncId}{args:List Operand}{tys:Array TypeId}{sl:Lab}{ob ob':Laa}{nx o:Nat}{x0 x1 y:Ob}{ts ts':List T}{eqs:Lac}{res:List RV}{out:T}{nw:Laa}{n:Nat}{p:Prop}
theorem cwF(q:p)[i:FCW P p f x1 ts' y res](ht:pH sl args=ς ts:=by exact rfl)(h2:p200 ts' ts=ς o:=by exact rfl)(ho:go ob o=ς x0:=by exact rfl)(hl:x0.loc=x1:=by exact rfl)(hfx:x0.free=true:=by exact rfl)(hfy:y.free=true:=by exact rfl)(ha:Bv [] o ts=ς (ts',eqs):=by exact rfl)(he:Eqs eqs:=by repeat (first|exact θ|refine⟨by first|rfl|exact lm _|simp,?_⟩))(hi:BT nx res=ς (out,nw,n):=by exact rfl)(hw:EA nx nw n=true:=by exact rfl)(hN:nlt d N=true:=by exact rfl)(hob:apO nw ((o,y)::ob)=ς ob':=by exact rfl):
 AWO P N ⟨ς d,.call ⟨.value (.func f),args.toArray,tys⟩,ty,ps,af,gd⟩ ⟨sl,ob,nx⟩ ⟨(d,out)::sl,ob',n⟩:=cw (i.h q) ht ho hl hfx hfy ha he hi hw hN hob
theorem cwX(q:p)[i:FCW P p f x1 ts' y res](ht:pH sl args=ς ts:=by exact rfl)(h2:p200 ts' ts=ς o:=by exact rfl)(ho:go ob o=ς x0:=by exact rfl)(hl:x0.loc=x1:=by exact rfl)(hfx:x0.free=true:=by exact rfl)(hfy:y.free=true:=by exact rfl)(ha:Bv [] o ts=ς (ts',eqs):=by exact rfl)(he:Eqs eqs:=by repeat (first|exact θ|refine⟨by first|rfl|exact lm _|simp,?_⟩))(hi:BT nx res=ς (out,nw,n):=by exact rfl)(hw:EA nx nw n=true:=by exact rfl)(hN:nlt d N=true:=by exact rfl)(hob:apO nw ((o,y)::ob)=ς ob':=by exact rfl):
 NX P N ⟨ς d,.call ⟨.value (.func f),args.toArray,tys⟩,ty,ps,af,gd⟩ ⟨sl,ob,nx⟩ ⟨(d,out)::sl,ob',n⟩ ⟨⟨d,args.zip ts,[(o,x0)],out,nw⟩,[(o,y)],ξ⟩:=cwx (i.h q) ht ho hl hfx hfy ha he hi hw hN hob
end
section
variable{N:Nat}{P:Program}{rs:List ResultVar}{res:List RV}{e:Exit}{y:Ob}{sl:Lab}{ob:Laa}{nx o k:Nat}{st:St}
theorem iPw(h:yp N P rs res y .ret st):yp N P rs res y .ret st:=h
theorem iEw(h:yp N P rs res y .normal st):yp N P rs res y .normal st:=h
end
def prS:List Nat->Lab->Option Lab
 |_,[]=>ς []
 |ks,(k,t)::r=>match jg ks k||T.isAny t with
  |true=>prS (k::ks) r
  |false=>match prS (k::ks) r with
   |some r'=>ς ((k,t)::r')
   |none=>ξ
def prO:List Nat->Laa->Option Laa
 |_,[]=>ς []
 |ks,(k,x)::r=>match jg ks k with
  |true=>prO ks r
  |false=>match prO (k::ks) r with
   |some r'=>ς ((k,x)::r')
   |none=>ξ
theorem Ey{k:Nat}{ks:List Nat}:jg (j::ks) k=(fW j k||jg ks k):=by
 by_cases h:j=k<;>simp_all [jg,gQ]
theorem QY{k:Nat}:∀{sl sl':Lab} {ks:List Nat},prS ks sl=ς sl'->gt sl' k=bif jg ks k then .any else gt sl k
 |[],sl',ks,h=>by cases h;simp[gt]
 |(j,t)::r,sl',ks,h=>by
  simp only[prS] at h
  split at h
  .rename_i hm
   rw[QY h,Ey]
   by_cases e:j=k
   .subst e
    rw[da]
    cases h1:jg ks j with
    |true=>simp
    |false=>simp only[h1,Bool.false_or] at hm;rw[T.isAny_eq hm];simp
   rw[ck _ _ e,gQ e];rfl
  rename_i hm
  split at h
  .rename_i r' h1;cases h
   have h2:jg ks j=false:=by cases h3:jg ks j<;>simp_all
   by_cases e:j=k
   .subst e;rw[da,da,h2];rfl
   rw[ck _ _ e,ck _ _ e,QY h1,Ey,gQ e];rfl
  cases h
theorem QX{k:Nat}:∀{ob ob':Laa} {ks:List Nat},prO ks ob=ς ob'->go ob' k=bif jg ks k then ξ else go ob k
 |[],ob',ks,h=>by cases h;simp[go]
 |(j,x)::r,ob',ks,h=>by
  simp only[prO] at h
  split at h
  .rename_i hm
   rw[QX h]
   by_cases e:j=k
   .subst e;rw[hm];rfl
   rw[bg _ _ e]
  rename_i hm
  split at h
  .rename_i r' h1;cases h
   by_cases e:j=k
   .subst e;rw[bX,bX,hm];rfl
   rw[bg _ _ e,bg _ _ e,QX h1,Ey,gQ e];rfl
  cases h
theorem GP{sl':Lab}{ob:Laa}(h1:prS [] sl=ς sl')(h2:prO [] ob=ς ob'):cO N ⟨sl,ob,nx⟩ ⟨sl',ob',nx⟩:=λcx E a w h=>
 ⟨E,h.ok,h.dom,λo x ho=>h.obs o x (by have:=QX (k:=o) h2;rw[this] at ho;exact ho),λk=>by have:=QY (k:=k) h1;rw[this];exact h.sl k,h.dfr,h.size,h.td⟩
theorem fxP{sl':Lab}{ob:Laa}{M:St}(h1:prS [] sl=ς sl')(h2:prO [] ob=ς ob')(w:cO N ⟨sl',ob',nx⟩ M):cO N ⟨sl,ob,nx⟩ M:=aK (GP h1 h2) w
class EnT(P:Program)(e:TypeId)(α:outParam Type)(enc:outParam (α->List D)):Prop
def natOf:Int->Option Nat
 | .ofNat n=>ς n
 |_=>ξ
def PW(N:Nat)(s0:St)(args:List Operand)(s:St)(G:Prop):Prop:=cO N s0 s->G
section
variable{P:Program}{N:Nat}{d:Tmp}{ty t:TypeId}{ps:String}{af:Array Edge}{gd:Option (Nat×Bool)}{x y:Operand}{sl sl':Lab}{ob ob':Laa}{nx:Nat}{α:Type}{enc:α->List D}{ops:Array Oper}{l:List Oper}{K:St->Prop}{st0 st1 base:St}{lz:List (Nat×Oper)}{dn seg dn':List Nat}{ys:List Inx}{p:Nat}{R:Prop}
theorem ishF{op:BinOp}{t':TypeId}{g':Bool}{k k':IntKind}{a b r:Int}(hx:opT sl x= .v (.c (.d g (.i k a))))(hy:opT sl y= .v (.c (.d g' (.i k' b))))(hb:natOf b=ς n)(hN:nlt d N=ζ)(h:ZO op k a n=ς r):
 NS0 P N ⟨ς d,.binOp op t x y t',ty,ps,af,gd⟩ sl ob nx d (.v (.c (.d η (.i k r)))) ⟨d,[(x,.v (.c (.d g (.i k a)))),(y,.v (.c (.d g' (.i k' (n:Int)))))],[],.v (.c (.d η (.i k r))),[]⟩:=by
 cases b with
 |ofNat m=>cases hb;exact ishL hx hy hN h
 |negSucc m=>cases hb
theorem pwU{s0:St}{us:List α}{a:α}{o:Nat}(hx:opT sl x= .v (.c (.e o sz i.toNat j)))(ho:go ob o=ς (.rown e sz (us.map enc) g))(q:ix us i=ς a)(hs:pZ (M3 o) sl=ς sl')(hb:nL (M3 o) (V2 o) ob=ς ob')(w:PW N s0 [x,y] ⟨sl',ob',nx⟩ G):PW N s0 [x,y] ⟨sl,ob,nx⟩ G:=λk=>w (aK k (Jp o ho (Ya (enc:=enc) q) hs hb))
theorem pwS{s0:St}{us:List α}{a:α}{o rt:Nat}(hx:opT sl x= .v (.c (.e o sz i.toNat j)))(ho:go ob o=ς (.row rt sz (us.map enc) g ζ))(q:ix us i=ς a)(w:Tag us i.toNat->PW N s0 [x,y] ⟨sl,ob,nx⟩ G):PW N s0 [x,y] ⟨sl,ob,nx⟩ G:=w ⟨⟩
theorem zSt(h:PW N st0 [x,y] st0 (DZ P N ops ((p,⟨ξ,.store t x y,ty,ps,af,ξ⟩)::lz) dn seg ys base st0 K)):DZ P N ops ((p,⟨ξ,.store t x y,ty,ps,af,ξ⟩)::lz) dn seg ys base st0 K:=h (mu _)
theorem zPc{f:FuncId}{args:List Operand}{tys:Array TypeId}(h:PW N st0 args st0 (DZ P N ops ((p,⟨ς d,.call ⟨.value (.func f),args.toArray,tys⟩,ty,ps,af,ξ⟩)::lz) dn seg ys base st0 K)):DZ P N ops ((p,⟨ς d,.call ⟨.value (.func f),args.toArray,tys⟩,ty,ps,af,ξ⟩)::lz) dn seg ys base st0 K:=h (mu _)
theorem zBt{o:Oper}(hw:cO N s st0)(h:AWO P N o st0 st1)(hr:R)(hg:o.guard=none:=by exact rfl)(hs:Ab ops dn seg ys=true:=by kernel_rfl)(hkl:kls ys=[]:=by exact rfl)(hb:G1 ops (seg++dn) p=true:=by kernel_rfl)(hlo:p::(seg++dn)=dn':=by exact rfl)(w:R->DZ P N ops lz dn' [] [] st1 st1 K:=by exact wJ):
 DZ P N ops ((p,o)::lz) dn seg ys base s K:=zB hw (tj hg h) dH hr hs hkl hb hlo w
theorem aSu{us:List α}{a:α}{o:Nat}(hx:opT sl x= .v (.c (.e o sz i.toNat j)))(ho:go ob o=ς (.rown e sz (us.map enc) g))(q:ix us i=ς a)(hs:pZ (M3 o) sl=ς sl')(hb:nL (M3 o) (V2 o) ob=ς ob')(w:AWR P N ops (⟨ξ,.store t x y,ty,ps,af,gd⟩::l) ⟨sl',ob',nx⟩ K):AWR P N ops (⟨ξ,.store t x y,ty,ps,af,gd⟩::l) ⟨sl,ob,nx⟩ K:=cd (Jp o ho (Ya (enc:=enc) q) hs hb) w
theorem apE{o:Nat}{ys zs:List α}{gy gg:Bool}{c:C}{sl':Lab}(H:c8 by_ (ys++zs).length=ζ)[dz P t e sz by_][EnT P e α enc](hd:nlt d N=true:=by exact rfl)(hx:opT sl x= .v (.c (.w o n)):=by exact rfl)(ho:go ob o=ς (.row e sz (ys.map enc) g ζ):=by exact rfl)(hy:opT sl y= .v (.c c):=by exact rfl)(hn:ys.length=n:=by first|rfl|simp)(hs:Src ob c (zs.map enc) gy:=by first|exact .d|exact .nil|exact .w rfl (by first|rfl|exact lm _|simp)|exact .wn rfl (by first|rfl|exact lm _|simp)|exact PF (by assumption) rfl|exact Jf (by assumption) (by first|rfl|simp) rfl)(henc:∀a,(enc a).length=sz:=by exact λ_=>rfl)(hk:nX o sl=ς sl':=by exact rfl)(hkb:jE o ob=ς ob':=by exact rfl)(hg:(g&&gy)=gg:=by exact rfl)(hrv:rsp o=false:=by exact rfl):
 AWO P N ⟨ς d,.call ⟨.builtin .append,#[x,y],#[t,t]⟩,ty,ps,af,gd⟩ ⟨sl,ob,nx⟩ ⟨(d,.v (.c (.w o (ys++zs).length)))::sl',(o,.row e sz ((ys++zs).map enc) gg ζ)::ob',nx⟩:=apT H rfl henc hd hx hy hn hs ho hk hkb hg hrv
theorem apEf{o:Nat}{ys zs:List α}{gy:Bool}{c:C}{sl':Lab}(H:c8 by_ (ys++zs).length=ζ)[dz P t e sz by_][EnT P e α enc](hd:nlt d N=true:=by exact rfl)(hx:opT sl x= .v (.c (.w o n)):=by exact rfl)(ho:go ob o=ς (.row e sz (ys.map enc) g ζ):=by exact rfl)(hy:opT sl y= .v (.c c):=by exact rfl)(hn:ys.length=n:=by first|rfl|simp)(hs:Src ob c (zs.map enc) gy:=by first|exact .d|exact .nil|exact .w rfl (by first|rfl|exact lm _|simp)|exact .wn rfl (by first|rfl|exact lm _|simp)|exact PF (by assumption) rfl|exact Jf (by assumption) (by first|rfl|simp) rfl)(henc:∀a,(enc a).length=sz:=by exact λ_=>rfl)(hf:∀a,uK (enc a)=true:=by exact λ_=>rfl)(hk:nX o sl=ς sl':=by exact rfl)(hkb:jE o ob=ς ob':=by exact rfl)(hrv:rsp o=false:=by exact rfl):
 AWO P N ⟨ς d,.call ⟨.builtin .append,#[x,y],#[t,t]⟩,ty,ps,af,gd⟩ ⟨sl,ob,nx⟩ ⟨(d,.v (.c (.w o (ys++zs).length)))::sl',(o,.row e sz ((ys++zs).map enc) ζ ζ)::(o,.row e sz ((ys++zs).map enc) (g&&gy) ζ)::ob',nx⟩:=awoW (apT H rfl henc hd hx hy hn hs ho hk hkb rfl hrv) (wM (bX _ _ _) hf)
end
section
variable{P:Program}{N:Nat}{d:Tmp}{ty:TypeId}{ps:String}{af:Array Edge}{gd:Option (Nat×Bool)}{f:FuncId}{args:List Operand}{tys:Array TypeId}{sl sl':Lab}{ob ob' ob1 ob2:Laa}{nx:Nat}{ts ts':List T}{xs ys ys' nw nw':Laa}{out out':T}{p:Prop}{m e:Lac}
end
section
variable{P:Program}{N:Nat}{f:FuncId}{args:List Operand}{sl:Lab}{ob:Laa}{nx:Nat}{ts ts':List T}{xs ys nw:Laa}{out:T}{p G:Prop}{m:Lac}{x:Fx}{st s0:St}
theorem pwT{e:Lac}(q:p)[i:FCV P p f xs ts' ys out nw](ht:pH sl args=ς ts)(hM:mkM xs ob ts' ts=ς m)(h:tnL xs ob m=ς x)(ha:app sl ob nx x=ς (st,e))(he:Eqs e)(w:PW N s0 args st G):PW N s0 args ⟨sl,ob,nx⟩ G:=λk=>w (aK k (wV ha he))
variable{d:Tmp}{ty:TypeId}{ps:String}{af:Array Edge}{gd:Option (Nat×Bool)}{tys:Array TypeId}{ops:Array Oper}{l:List Oper}{K:St->Prop}{sl':Lab}{ob':Laa}{e:Lac}
theorem awP(h1:prS [] sl=ς sl')(h2:prO [] ob=ς ob')(w:AWR P N ops l ⟨sl',ob',nx⟩ K):AWR P N ops l ⟨sl,ob,nx⟩ K:=cd (GP h1 h2) w
theorem awL(q:p)[i:FCV P p f xs ts' ys out nw](ht:pH sl args=ς ts)(hM:mkM xs ob ts' ts=ς m)(hL:wnL (lnX m xs) sl ob=ς (sl',ob',e))(he:Eqs e)(w:AWR P N ops (⟨ς d,.call ⟨.value (.func f),args.toArray,tys⟩,ty,ps,af,gd⟩::l) ⟨sl',ob',nx⟩ K):AWR P N ops (⟨ς d,.call ⟨.value (.func f),args.toArray,tys⟩,ty,ps,af,gd⟩::l) ⟨sl,ob,nx⟩ K:=cd (DY hL he) w
theorem pwP(h1:prS [] sl=ς sl')(h2:prO [] ob=ς ob')(w:PW N s0 args ⟨sl',ob',nx⟩ G):PW N s0 args ⟨sl,ob,nx⟩ G:=λk=>w (aK k (GP h1 h2))
theorem pwL(q:p)[i:FCV P p f xs ts' ys out nw](ht:pH sl args=ς ts)(hM:mkM xs ob ts' ts=ς m)(hL:wnL (lnX m xs) sl ob=ς (sl',ob',e))(he:Eqs e)(w:PW N s0 args ⟨sl',ob',nx⟩ G):PW N s0 args ⟨sl,ob,nx⟩ G:=λk=>w (aK k (DY hL he))
end
def uC(o j:Nat)(cs:List C)(ob:Laa):Laa:=match go ob o with
 |some (.var t ds)=>(o,.var t (ds.take j++(cs++ds.drop (j+cs.length))))::ob
 |_=>ob
def fxT(ob:Laa)(k:Nat):List C->Option Fx
 |[]=>ξ
 | .w o _::cs=>bif rsv o then fxT ob k cs else match go ob o with
  |some (.row _ _ _ (.b _) ζ)=>ς (.fz o)
  |_=>ς (.cs (.s k))
 | .wn o _::cs=>bif rsv o then fxT ob k cs else ς (.fn o)
 |_::cs=>fxT ob k cs
def fxA(sl:Lab)(ob:Laa):List Operand->Option Fx
 |[]=>ξ
 | .tmp k::r=>match fxT ob k (W4 (gt sl k)) with
  |some x=>ς x
  |none=>fxA sl ob r
 |_::r=>fxA sl ob r
def lnR:List C->List RC->Lac
 | .w o _::cs,.own _ _ _ n::rs=>(o,n)::lnR cs rs
 |_::cs,_::rs=>lnR cs rs
 |_,_=>[]
def lnRs(sl:Lab)(ob:Laa):List ResultVar->List RV->Lac
 |r::rs,v::vs=>lnR (VD sl ob r).1 (rcsV v)++lnRs sl ob rs vs
 |_,_=>[]
section
variable{P:Program}{N:Nat}{d:Tmp}{ty t:TypeId}{ps:String}{af:Array Edge}{gd:Option (Nat×Bool)}{f:FuncId}{args:List Operand}{tys:Array TypeId}{sl sl':Lab}{ob ob' ob1 ob2:Laa}{nx:Nat}{ts ts':List T}{xs ys ys' nw nw':Laa}{out out':T}{p G:Prop}{m e:Lac}{x y:Operand}{fxx:Fx}{st s0:St}{ops:Array Oper}{l:List Oper}{K:St->Prop}{rs:List ResultVar}{res:List RV}{ex:Exit}{z:Ob}
theorem aZx(h:fxA sl ob args=ς fxx)(ha:app sl ob nx fxx=ς (st,e))(he:Eqs e)(w:AWR P N ops (⟨ς d,.call ⟨.value (.func f),args.toArray,tys⟩,ty,ps,af,gd⟩::l) st K):AWR P N ops (⟨ς d,.call ⟨.value (.func f),args.toArray,tys⟩,ty,ps,af,gd⟩::l) ⟨sl,ob,nx⟩ K:=cd (wV ha he) w
theorem aSx(h:fxA sl ob [y]=ς fxx)(ha:app sl ob nx fxx=ς (st,e))(he:Eqs e)(w:AWR P N ops (⟨ξ,.store t x y,ty,ps,af,gd⟩::l) st K):AWR P N ops (⟨ξ,.store t x y,ty,ps,af,gd⟩::l) ⟨sl,ob,nx⟩ K:=cd (wV ha he) w
theorem pwX(h:fxA sl ob args=ς fxx)(ha:app sl ob nx fxx=ς (st,e))(he:Eqs e)(w:PW N s0 args st G):PW N s0 args ⟨sl,ob,nx⟩ G:=λk=>w (aK k (wV ha he))
theorem pW{sl2:Lab}(h1:prS [] sl=ς sl')(h2:prO [] ob=ς ob')(hL:wnL (lnRs sl' ob' rs res) sl' ob'=ς (sl2,ob1,e))(he:Eqs e)(w:vW N P rs res ex ⟨sl2,ob1,nx⟩):vW N P rs res ex ⟨sl,ob,nx⟩:=NA (aK (GP h1 h2) (DY hL he)) w
end
def fxQ(ob:Laa)(pl:Nat->Pl):Nat->List C->List RC->Option Fx
 |j,.w o _::cs,r::rs=>match r with
  | .d _=>match go ob o with
   |some (.row _ _ _ (.b _) ζ)=>ς (.fz o)
   |_=>ς (.cs (pl j))
  |_=>fxQ ob pl (j+1) cs rs
 |j,.nil::cs,r::rs=>match r with
  | .d _=>ς (.ls (pl j))
  |_=>fxQ ob pl (j+1) cs rs
 |j,_::cs,_::rs=>fxQ ob pl (j+1) cs rs
 |_,_,_=>ξ
def fxR(sl:Lab)(ob:Laa):List ResultVar->List RV->Option Fx
 |r::rs,v::vs=>match fxQ ob (λj=>bif(VD sl ob r).2.2 then(match v with
  | .c _=>.s (VD sl ob r).2.1
  | .agg _=>.a (VD sl ob r).2.1 j) else .v (VD sl ob r).2.1 j) 0 (VD sl ob r).1 (rcsV v) with
  |some x=>ς x
  |none=>fxR sl ob rs vs
 |_,_=>ξ
def gIn(N:Nat)(ops:Array Oper)(sl:Lab)(g:Option (Nat×Bool))(x:Inf):Option Inf:=match g with
 |none=>ς x
 |some (j,b)=>match(ops[j]?).bind (·.dst) with
  |none=>ξ
  |some dj=>match gt sl dj,nlt dj N with
   | .v (.c (.d η (.b c))),ζ=>bif c==b then ς {x with needs:=(.tmp dj,tB b)::x.needs} else ξ
   |_,_=>ξ
theorem LK{ops:Array Oper}{g:Option (Nat×Bool)}{x x':Inf}(h:gIn N ops sl g x=ς x'):(g=ξ/\x'=x)\/∃j b dj,g=ς (j,b)/\(ops[j]?).bind (·.dst)=ς dj/\nlt dj N=ζ/\gt sl dj=tB b/\x'={x with needs:=(.tmp dj,tB b)::x.needs}:=by
 unfold gIn at h
 split at h
 .cases h;exact .inl ⟨rfl,rfl⟩
 split at h
 .cases h
 split at h
 .rename_i j b q dj hj q1 q2 c h1 h2
  cases hc:c==b with
  |false=>rw[hc] at h;cases h
  |true=>rw[hc] at h;cases h;have:=eq_of_beq hc;subst this;exact .inr ⟨_,_,_,rfl,hj,h2,h1,rfl⟩
 cases h
section
variable{P:Program}{N:Nat}{d:Tmp}{ty t:TypeId}{ps:String}{af:Array Edge}{gd:Option (Nat×Bool)}{f:FuncId}{args:List Operand}{tys:Array TypeId}{sl sl':Lab}{ob ob' ob1 ob2:Laa}{nx:Nat}{ts ts':List T}{xs ys ys' nw nw':Laa}{out out':T}{p G:Prop}{m e:Lac}{st st' s0:St}{ops:Array Oper}{l:List Oper}{K:St->Prop}{rs:List ResultVar}{res:List RV}{ex:Exit}{z:Ob}{up:Bool}{fxx:Fx}{o:Oper}{x x':Inf}{R:Prop}{is:List Inf}{KK:List Inf->St->Prop}{lz:List (Nat×Oper)}{dn seg:List Nat}{zs:List Inx}{base:St}{q:Nat}
theorem nU(h:NS P N o st st' x)(hr:R)(hg:gIn N ops st.sl o.guard x=ς x':=by exact rfl)(w:R->AWR P N ops l st' K:=by exact wJ):AWR P N ops (o::l) st K:=by
 rcases LK hg with⟨h1,_⟩|⟨j,b,dj,h1,h2,h3,h4,_⟩
 .exact Bn h1 h (w hr)
 exact Lv h1 h2 h3 h4 h (w hr)
theorem dN(h:NS P N o st st' x)(hr:R)(hg:gIn N ops st.sl o.guard x=ς x':=by exact rfl)(w:R->DR P N ops l (is++[x']) st' KK:=by exact wJ):DR P N ops (o::l) is st KK:=by
 rcases LK hg with⟨h1,e⟩|⟨j,b,dj,h1,h2,h3,h4,e⟩<;>subst e
 .exact dr_n h1 h (w hr)
 exact Xp h1 h2 h3 h4 h (w hr)
theorem zN(h:NS P N o st st' x)(hr:R)(hg:gIn N ops st.sl o.guard x=ς x':=by exact rfl)(w:R->DZ P N ops lz dn (seg++[q]) (zs++[⟨x',[],ξ⟩]) base st' K:=by exact wJ):DZ P N ops ((q,o)::lz) dn seg zs base st K:=by
 rcases LK hg with⟨h1,e⟩|⟨j,b,dj,h1,h2,h3,h4,e⟩<;>subst e
 .exact Bb h1 h (w hr)
 exact Xs h1 h2 h3 h4 h (w hr)
theorem pX(h:fxR sl ob rs res=ς fxx)(ha:app sl ob nx fxx=ς (st,e))(he:Eqs e)(w:vW N P rs res ex st):vW N P rs res ex ⟨sl,ob,nx⟩:=NA (wV ha he) w
theorem rX(h:fxR sl ob rs res=ς fxx)(ha:app sl ob nx fxx=ς (st,e))(he:Eqs e)(w:yp N P rs res z ex st):yp N P rs res z ex ⟨sl,ob,nx⟩:=clo_pw (wV ha he) w
theorem cvB(up:Bool)(q:p)[i:FCV P p f xs ts' ys out nw](ht:pH sl args=ς ts:=by exact rfl)(hM:mkM xs ob ts' ts=ς m:=by exact rfl)(ha:tU (agC up ob (inv m)) ts=ς ts':=by exact rfl)(hx:Dq (inv m) ob m=ς xs:=by exact rfl)(hm:mOK m (nlM nw nx) nx (nlN nw nx) ys=true:=by exact rfl)(hs:pZ (kvC (inv m)) sl=ς sl':=by exact rfl)(hb:nL (kvC (inv m)) (λ_ x=>ς x) ob=ς ob':=by exact rfl)(hy:wz (m++nlM nw nx) ys=ς ys':=by exact rfl)(hw:wz (m++nlM nw nx) nw=ς nw':=by exact rfl)(ho:xP (rlC (m++nlM nw nx)) out=ς out':=by exact rfl)(hsl:Al nx sl=true:=by exact rfl)(hol:tZ nx ob=true:=by exact rfl)(hN:nlt d N=true:=by exact rfl)(h1:apO ys' ob'=ς ob1:=by exact rfl)(h2:apO nw' ob1=ς ob2:=by exact rfl):
 AWO P N ⟨ς d,.call ⟨.value (.func f),args.toArray,tys⟩,ty,ps,af,gd⟩ ⟨sl,ob,nx⟩ ⟨(d,out')::sl',ob2,nlN nw nx⟩:=by
 rw[ti h2,ti h1]
 exact Tr (i.h q) ht ha hx hm hs hb hy hw ho hsl hol hN
end
class FCF(P:Program)(p:Prop)(f:outParam FuncId)(as:outParam (List AV))(rs:outParam (List RV)):Prop where
 h:p->Fn P f as rs
section
variable{P:Program}{N:Nat}{d:Tmp}{ty t:TypeId}{ps:String}{af:Array Edge}{gd:Option (Nat×Bool)}{f:FuncId}{args:List Operand}{tys:Array TypeId}{sl:Lab}{ob ob':Laa}{nx n:Nat}{ts:List T}{nw nob:Laa}{out:T}{p:Prop}{e:Lac}{st:St}{ops:Array Oper}{l:List Oper}{K:St->Prop}{res:List RV}{fxx:Fx}{len:Nat}{parts:List (Nat×Operand)}{avs:List AV}{eqs:Lac}
theorem aBx(h:fxA sl ob (parts.map (·.2))=ς fxx)(ha:app sl ob nx fxx=ς (st,e))(he:Eqs e)(w:AWR P N ops (⟨ς d,.buildSlice t len parts.toArray,ty,ps,af,gd⟩::l) st K):AWR P N ops (⟨ς d,.buildSlice t len parts.toArray,ty,ps,af,gd⟩::l) ⟨sl,ob,nx⟩ K:=cd (wV ha he) w
structure HX(d:Tmp):Prop where
theorem hx(d:Tmp):HX d:=⟨⟩
theorem caZ(J:HX d)(q:p)[i:FC P p f avs res](hz:Ho res:=by repeat (first|exact θ|refine⟨?_,?_⟩|exact lm _|rfl))(ht:pH sl args=ς ts:=by exact rfl)(hp:t8 ob (C8 ts)=ς nob:=by exact rfl)(ha:rQ nob ts=ς (avs,eqs):=by exact rfl)(he:Eqs eqs:=by repeat (first|exact θ|refine⟨by first|rfl|exact lm _|simp,?_⟩))(hi:BT nx (res.map RV.frz)=ς (out,nw,n):=by exact rfl)(hw:EA nx nw n=true:=by exact rfl)(hN:nlt d N=true:=by exact rfl)(hob:apO nw ob=ς ob':=by exact rfl):
 NS P N ⟨ς d,.call ⟨.value (.func f),args.toArray,tys⟩,ty,ps,af,gd⟩ ⟨sl,ob,nx⟩ ⟨(d,out)::sl,ob',n⟩ ⟨d,args.zip ts,nob,out,nw⟩:=ca ht hp ha ((i.h q).frzs hz) he hi hw hN hob
theorem caY(J:HX d)(q:p)[i:FCF P p f avs res](ht:pH sl args=ς ts:=by exact rfl)(hp:t8 ob (C8 ts)=ς nob:=by exact rfl)(ha:rQ nob ts=ς (avs,eqs):=by exact rfl)(he:Eqs eqs:=by repeat (first|exact θ|refine⟨by first|rfl|exact lm _|simp,?_⟩))(hi:BT nx res=ς (out,nw,n):=by exact rfl)(hw:EA nx nw n=true:=by exact rfl)(hN:nlt d N=true:=by exact rfl)(hob:apO nw ob=ς ob':=by exact rfl):
 NS P N ⟨ς d,.call ⟨.value (.func f),args.toArray,tys⟩,ty,ps,af,gd⟩ ⟨sl,ob,nx⟩ ⟨(d,out)::sl,ob',n⟩ ⟨d,args.zip ts,nob,out,nw⟩:=ca ht hp ha (i.h q) he hi hw hN hob
end
theorem zBa{ops:Array Oper}{lz:List (Nat×Oper)}{dn seg dn':List Nat}{ys:List Inx}{base st1:St}{K:St->Prop}{o:Oper}{p:Nat}{R:Prop}(h:AWO P N o s st1)(hr:R)(hb:G1 ops (seg++dn) p=true:=by exact rfl)(hg:o.guard=none:=by exact rfl)(hs:Ab ops dn seg ys=true:=by kernel_rfl)(hkl:kls ys=[]:=by exact rfl)(hlo:p::(seg++dn)=dn':=by exact rfl)(w:R->DZ P N ops lz dn' [] [] st1 st1 K:=by exact wJ):DZ P N ops ((p,o)::lz) dn seg ys base s K:=zB (mu _) (tj hg h) dH hr hs hkl hb hlo w
section
variable{P:Program}{N:Nat}{st st':St}{ops:Array Oper}{l:List Oper}{K:St->Prop}{o:Oper}{R:Prop}{is:List Inf}{KK:List Inf->St->Prop}{lz:List (Nat×Oper)}{dn seg:List Nat}{ys:List Inx}{base:St}{q j:Nat}{b:Bool}
def gNo(N:Nat)(ops:Array Oper)(sl:Lab)(g:Option (Nat×Bool)):Bool:=(gIn N ops sl g ⟨0,[],[],.any,[]⟩).isSome
theorem sU(h:AWO P N o st st')(hr:R)(hg:gNo N ops st.sl o.guard=true:=by exact rfl)(w:R->AWR P N ops l st' K:=by exact wJ):AWR P N ops (o::l) st K:=by
 obtain⟨x,hx⟩:=Option.isSome_iff_exists.1 hg
 rcases LK hx with⟨h1,_⟩|⟨j,b,dj,h1,h2,h3,h4,_⟩
 .exact qK h1 h (w hr)
 exact Bm h1 h2 (bV h3) h4 h (w hr)
end
section
variable{P:Program}{N:Nat}{d:Tmp}{ty t:TypeId}{ps:String}{af:Array Edge}{gd:Option (Nat×Bool)}{x y:Operand}{sl sl':Lab}{ob ob':Laa}{nx:Nat}{α:Type}{enc:α->List D}{e sz by_ o n:Nat}{ys zs:List α}{g gy gg:Bool}{c:C}
theorem apTe[dz P t e sz by_][EnT P e α enc](H:c8 by_ (ys++zs).length=ζ)(hne:zs≠[]:=by first|exact List.cons_ne_nil _ _|simp)(hd:nlt d N=true:=by exact rfl)(hx:opT sl x= .v (.c (.wn o n)):=by exact rfl)(ho:go ob o=ς (.rown e sz (ys.map enc) g):=by exact rfl)(hy:opT sl y= .v (.c c):=by exact rfl)(hn:ys.length=n:=by first|rfl|simp)(hs:Src ob c (zs.map enc) gy:=by first|exact .d|exact .nil|exact .w rfl (by first|rfl|exact lm _|simp)|exact .wn rfl (by first|rfl|exact lm _|simp))(henc:∀a,(enc a).length=sz:=by exact λ_=>rfl)(hk:nX o sl=ς sl':=by exact rfl)(hkb:jE o ob=ς ob':=by exact rfl)(hg:(g&&gy)=gg:=by exact rfl)(hrv:rsp o=false:=by exact rfl)(hnv:rsv nx=false:=by exact rfl)(hol:nlt o nx=true:=by exact rfl):
 AWO P N ⟨ς d,.call ⟨.builtin .append,#[x,y],#[t,t]⟩,ty,ps,af,gd⟩ ⟨sl,ob,nx⟩ ⟨(d,.v (.c (.w o (ys++zs).length)))::sl',(o,.row e sz ((ys++zs).map enc) gg ζ)::ob',nx⟩:=Up H hne rfl henc hn hs hd hx hy ho hk hkb hg hrv hnv hol
theorem cpS{l:Int}[dz P t e sz by_][EnT P e α enc](hd:nlt d N=true:=by exact rfl)(hx:opT sl x= .v (.c (.s o sz l.toNat (n-l.toNat))):=by exact rfl)(ho:go ob o=ς (.row e sz (ys.map enc) g ζ):=by exact rfl)(H:d6 ys l ys.length=true:=by assumption)(hy:opT sl y= .v (.c c):=by exact rfl)(hn:ys.length=n:=by first|rfl|simp)(hs:Src ob c (zs.map enc) gy:=by first|exact .d|exact .w rfl (by first|rfl|exact lm _|simp)|exact Jf (by assumption) (by first|rfl|simp) rfl)(henc:∀a,(enc a).length=sz:=by exact λ_=>rfl)(hg:(g&&gy)=gg:=by exact rfl):
 AWO P N ⟨ς d,.call ⟨.builtin .copy,#[x,y],#[t,t]⟩,ty,ps,af,gd⟩ ⟨sl,ob,nx⟩ ⟨(d,.any)::sl,(o,.row e sz ((cpD ys l.toNat zs).map enc) gg ζ)::ob,nx⟩:=cpsT H rfl henc hd hx hy hn hs ho hg
end
section
variable{p G:Prop}
theorem eqs(h:p:=by repeat (first|exact θ|refine⟨by first|rfl|exact lm _|simp,?_⟩)):p:=h
theorem rvs(h:p:=by repeat' (first|exact .nil|apply jN.cons|exact .tmp rfl|exact .cell rfl rfl rfl|exact .cell1 rfl rfl)):p:=h
theorem los(h:p:=by repeat (first|exact θ|refine⟨rfl,?_⟩)):p:=h
theorem wl(h:p:=by((try refine fxU rfl ?_);refine fxP rfl rfl ?_;(repeat refine fxF rfl rfl eqs ?_);exact wg)):p:=h
theorem nq(q:p)(h:p->G:=by(intro q;first|exact caF q|exact OK (by exact rfl) (caF q)|exact xdF q|exact xwT q|exact xwnT q)):G:=h q
theorem nh(q:p)(h:p->G:=by(intro h;first|exact mkF h|exact ir rfl rfl rfl (ne0 h)|exact iq rfl rfl rfl (ne0 h)|exact cdhF h|exact cdlF h|exact ishT h rfl rfl rfl rfl|exact cwhT h (by first|rfl|simp) rfl rfl rfl rfl|exact Ux h (by first|rfl|simp) rfl rfl rfl rfl)):G:=h q
theorem n0(h:G:=by first|exact oeaF|exact oeF|exact oeanF|exact oenF|exact ir rfl rfl rfl (by decide)|exact iq rfl rfl rfl (by decide)|exact ishF rfl rfl rfl rfl rfl):G:=h
theorem aw(q:p)(h:p->G:=by(intro q;first|exact cwF q|exact cvB ζ q|exact cvU q|exact cvB η q)):G:=h q
end
structure HA(id p q:Nat)(o1 o2:List Nat){α:Type}(F:FSt α):Prop
theorem hA(id p q:Nat)(o1 o2:List Nat)(F:FSt α):HA id p q o1 o2 F:=⟨⟩
theorem ja{p q:Nat}{o1 o2:List Nat}{β:Type}{x:Option α}{f:α->Option β}{y:β}{F:FSt α}{AQ:Exit->St->Prop}{ob:Laa}{ll:List Oper}{r1 r2:List (Nat×Oper)}(H:x.bind f=ς y)(J:HA id p q o1 o2 F)[c:Clo N AQ](w1:∀v,x=ς v->DZ P N (mz ll p q).toArray r1 [] [] [] ⟨sl,ob,nx⟩ ⟨sl,ob,nx⟩ (λs=>cO N s (F v sl ob nx)))(w2:∀v,x=ς v->DZ P N (mz ll q p).toArray r2 [] [] [] ⟨sl,ob,nx⟩ ⟨sl,ob,nx⟩ (λs=>cO N s (F v sl ob nx)))(w3:∀v,f v=ς y->AQ .normal (F v sl ob nx))(hpq:fW p q=false:=by exact rfl)(hm:P.follows .mixedOrders=true:=by exact Try.follows)(e1:LD (mz ll p q).toArray o1=true:=by kernel_rfl)(c1:Ql (mz ll p q).length o1=true:=by kernel_rfl)(h1:Is (mz ll p q) o1=ς r1:=by exact rfl)(e2:LD (mz ll q p).toArray o2=true:=by kernel_rfl)(c2:Ql (mz ll q p).length o2=true:=by kernel_rfl)(h2:Is (mz ll q p) o2=ς r2:=by exact rfl):AWC P N (.region id ll.toArray ζ) ⟨sl,ob,nx⟩ AQ:=by
 obtain⟨v,k1,k2⟩:=aeN.1 H
 exact R7 _ hm (Kc p q hpq (Lt o1 e1 c1 h1 (w1 v k1)) (Lt o2 e2 c2 h2 (w2 v k1))) (w3 v k2)
theorem go0{p:Prop}(h:p->G:=by
 intro H
 refine wI ?_
 repeat' (first
 |(refine iR ?_;first
 |(refine aa H ?_;intro x q H;first|refine nU (nq q) ?_|((repeat refine cvN q rfl rfl rfl rfl eqs ?_);refine sU (aw q) ?_))
 |refine aZx rfl rfl eqs ?_
 |(refine aa H ?_;intro x q H;refine awP rfl rfl ?_;refine awL q rfl rfl rfl eqs ?_;(repeat refine cvN q rfl rfl rfl rfl eqs ?_);refine sU (aw q) ?_)
 |(refine aq H ?_;intro h H;first|refine nU (nh h) ?_|refine sU (apEf h) ?_|refine sU (apE h) ?_|refine sU (apTe h) ?_)
 |(refine aBx rfl rfl eqs ?_;(repeat refine aBx rfl rfl eqs ?_);refine wI ?_)
 |refine nU n0 ?_|refine sU cpFf ?_|refine sU cpF ?_|refine sU cpS ?_
 |(refine rSt ?_;first|refine aSu rfl rfl (by assumption) rfl rfl ?_|refine aSx rfl rfl eqs ?_|(refine rSo rfl rfl (by assumption) ?_;intro tg;rw[tg.eq] at H;generalize hv:Um _ _ _=v at H;refine sU (soM hv) ?_;subst hv;simp only[Um] at H))
 |(refine rU rfl ?_;first|(refine jr H rfl rfl (by assumption) ?_ ?_<;>((first|(refine pE ?_;intro _;(repeat (refine pE ?_;intro _));intro v H;(try dsimp only))|intro v H);refine wI ?_))|(refine gC H ?_ ?_<;>intro H)))
 |(refine cK ?_;first|(refine jc H (by assumption) ?_ ?_<;>((first|(refine pE ?_;intro _;(repeat (refine pE ?_;intro _));intro v H;(try dsimp only))|intro v H);refine wI ?_))|(refine cC H ?_ ?_<;>intro H))
 |(refine cL ?_;first|(refine jb H (by assumption) ?_ ?_<;>((first|(refine pE ?_;intro _;(repeat (refine pE ?_;intro _));intro v H;(try dsimp only))|intro v H);refine wI ?_))|(refine il H (by assumption) wl ?_;((first|(refine pE ?_;intro _;(repeat (refine pE ?_;intro _));intro v o H;(try dsimp only))|intro v o H);refine wI ?_)))
 |(refine cR ?_;first|(refine iHZ (by assumption) ?_;refine zR ?_)|(refine ja H (by assumption) ?_ ?_ ?_<;>((first|(refine pE ?_;intro _;(repeat (refine pE ?_;intro _));intro v H;(try dsimp only))|intro v H);refine wI ?_))|refine dI ?_)
 |(refine are H ?_;intro H;refine wI ?_)
 |(refine arr H ?_;intro H;refine wI ?_)
 |(refine iD ?_;first
 |(refine aa H ?_;intro x q H;first|refine dN (nq q) ?_|refine dN (caY (by assumption) q) ?_)
 |(refine aq H ?_;intro h H;refine dN (nh h) ?_)
 |refine dN n0 ?_
 |(refine dU rfl ?_;first|(refine jd H rfl rfl (by assumption) ?_ ?_<;>((first|(refine pE ?_;intro _;(repeat (refine pE ?_;intro _));intro v H;(try dsimp only))|intro v H);refine wI ?_))|(refine dC H ?_ ?_<;>intro H)))
 |(refine iZ ?_;first
 |(refine iZs ?_;first|refine zS ?_|(refine zSt ?_;(repeat (first|refine pwU rfl rfl (by assumption) rfl rfl ?_|refine pwX rfl rfl eqs ?_));refine pwS rfl rfl (by assumption) ?_;intro tg;intro sw;rw[tg.eq] at H;generalize hv:Um _ _ _=v at H;refine zBt sw (soM hv) ?_;subst hv;simp only[Um] at H))
 |(refine aa H ?_;intro x q H;first|refine zN (caZ (by assumption) q) ?_|refine zN (caY (by assumption) q) ?_|refine zN (nq q) ?_|refine wA (cwX q) ?_|(refine zPc ?_;(repeat (first|refine pwT q rfl rfl rfl rfl eqs ?_|refine pwX rfl rfl eqs ?_));intro sw;refine zBt sw (aw q) ?_)|(refine zPc ?_;(repeat (first|refine pwT q rfl rfl rfl rfl eqs ?_|refine pwX rfl rfl eqs ?_));refine pwP rfl rfl ?_;refine pwL q rfl rfl rfl eqs ?_;(repeat (first|refine pwT q rfl rfl rfl rfl eqs ?_|refine pwX rfl rfl eqs ?_));intro sw;refine zBt sw (aw q) ?_))
 |(refine aq H ?_;intro h H;first|refine zN (nh h) ?_|refine zBa (apEf h) ?_|refine zBa (apE h) ?_|refine zBa (apTe h) ?_)
 |refine zBa cpFf ?_|refine zBa cpF ?_|refine zBa cpS ?_
 |refine zN n0 ?_
 |(refine zU rfl ?_;first|(refine jz H rfl rfl (by assumption) ?_ ?_<;>((first|(refine pE ?_;intro _;(repeat (refine pE ?_;intro _));intro v H;(try dsimp only))|intro v H);refine wI ?_))|(refine zC H ?_ ?_<;>intro H)))
 |(refine sgd H ?_;cases H;first|(refine iP ?_;(repeat refine pX rfl rfl eqs ?_);refine pW rfl rfl rfl eqs ?_;exact iw)|(refine iE ?_;(repeat refine pX rfl rfl eqs ?_);refine pW rfl rfl rfl eqs ?_;exact abp)|(refine iPv ?_;refine fvR rfl rfl rfl wl rvs los los)|(refine iEv ?_;refine fvE rfl rfl rfl wl rvs los los)|(refine iPw ?_;(repeat refine rX rfl rfl eqs ?_);exact XG)|(refine iEw ?_;(repeat refine rX rfl rfl eqs ?_);exact XE)|(refine iW ?_;exact wl)|(refine yH ?_;exact wl)|(refine HS (λhq=>?_);cases hq;refine wI ?_;refine iW ?_;exact wl)))):p->G:=h
theorem gG{f:FuncId}{fn:Func}{c:Code}{rs:List ResultVar}{sl0:Lab}{args:List AV}{res:List RV}{p A B C D E F H I J K L M O Q S U W Q1 Q2 Q3 Q4 Q5 Q6 Q7 Q8:Prop}(hf:P.funcs[f]?=ς fn)(hN:fn.ntmps=N)(hA:A:=by exact θ)(hB:B:=by exact θ)(hC:C:=by exact θ)(hD:D:=by exact θ)(hE:E:=by exact θ)(hF:F:=by exact θ)(hG:G:=by exact θ)(hH:H:=by exact θ)(hI:I:=by exact θ)(hJ:J:=by exact θ)(hK:K:=by exact θ)(hL:L:=by exact θ)(hM:M:=by exact θ)(hO:O:=by exact θ)(hQ:Q:=by exact θ)(hS:S:=by exact θ)(hU:U:=by exact θ)(hW:W:=by exact θ)(hQ1:Q1:=by exact θ)(hQ2:Q2:=by exact θ)(hQ3:Q3:=by exact θ)(hQ4:Q4:=by exact θ)(hQ5:Q5:=by exact θ)(hQ6:Q6:=by exact θ)(hQ7:Q7:=by exact θ)(hQ8:Q8:=by exact θ)(hb:fn.body=ς c:=by exact rfl)(hnm:(fn.name== "runtime.NumGoroutine")=false:=by kernel_rfl)(hrs:fn.results.toList=rs:=by exact rfl)(ha:abD args.length N=true:=by exact rfl)(hs:Np 0 args=ς sl0:=by exact rfl)(w:A->B->C->D->E->F->G->H->I->J->K->L->M->O->Q->S->U->W->Q1->Q2->Q3->Q4->Q5->Q6->Q7->Q8->p->AWC P N c ⟨sl0,[],0⟩ (vW N P rs res):=by
 intros _ _ _ _ _ _ _ _ _ _ _ _ _ _ _ _ _ _ _ _ _ _ _ _ _ _
 exact go0):FC P p f args res:=⟨λq=>fn_in hf hb hnm hN hrs ha hs (w hA hB hC hD hE hF hG hH hI hJ hK hL hM hO hQ hS hU hW hQ1 hQ2 hQ3 hQ4 hQ5 hQ6 hQ7 hQ8 q)⟩
theorem gV{f:FuncId}{fn:Func}{c:Code}{rs:List ResultVar}{sl0:Lab}{xs ys nw:Laa}{args:List T}{out:T}{p A B C D E F H I J K L M O Q S U W Q1 Q2 Q3 Q4 Q5 Q6 Q7 Q8:Prop}(hf:P.funcs[f]?=ς fn)(hN:fn.ntmps=N)(hA:A:=by exact θ)(hB:B:=by exact θ)(hC:C:=by exact θ)(hD:D:=by exact θ)(hE:E:=by exact θ)(hF:F:=by exact θ)(hG:G:=by exact θ)(hH:H:=by exact θ)(hI:I:=by exact θ)(hJ:J:=by exact θ)(hK:K:=by exact θ)(hL:L:=by exact θ)(hM:M:=by exact θ)(hO:O:=by exact θ)(hQ:Q:=by exact θ)(hS:S:=by exact θ)(hU:U:=by exact θ)(hW:W:=by exact θ)(hQ1:Q1:=by exact θ)(hQ2:Q2:=by exact θ)(hQ3:Q3:=by exact θ)(hQ4:Q4:=by exact θ)(hQ5:Q5:=by exact θ)(hQ6:Q6:=by exact θ)(hQ7:Q7:=by exact θ)(hQ8:Q8:=by exact θ)(hb:fn.body=ς c:=by exact rfl)(hnm:(fn.name== "runtime.NumGoroutine")=false:=by kernel_rfl)(hrs:fn.results.toList=rs:=by exact rfl)(ha:abD args.length N=true:=by exact rfl)(hs:Cy 0 args=sl0:=by exact rfl)(w:A->B->C->D->E->F->G->H->I->J->K->L->M->O->Q->S->U->W->Q1->Q2->Q3->Q4->Q5->Q6->Q7->Q8->p->AWC P N c ⟨sl0,xs,210⟩ (tf N P rs ys out nw):=by
 intros _ _ _ _ _ _ _ _ _ _ _ _ _ _ _ _ _ _ _ _ _ _ _ _ _ _
 exact go0):FCV P p f xs args ys out nw:=⟨λq=>XJ hf hb hnm hN hrs ha hs (w hA hB hC hD hE hF hG hH hI hJ hK hL hM hO hQ hS hU hW hQ1 hQ2 hQ3 hQ4 hQ5 hQ6 hQ7 hQ8 q)⟩
open Go.RowKit
def shF(P:Program)(sh:TypeId->Option (List Sh)):Nat->List Field->Option (List Sh)
 |_,[]=>ς []
 |o,f::fs=>match sh f.type with
  |some s1=>bif fW f.offset o&&fW (P.cellsOf f.type) s1.length then(match shF P sh (o+s1.length) fs with
   |some s2=>ς (s1++s2)
   |none=>ξ) else ξ
  |none=>ξ
def shO(P:Program):Nat->TypeId->Option (List Sh)
 |0,_=>ξ
 |n+1,t=>match P.underlying t with
  |some (.int k)=>ς [.i k]
  |some .bool=>ς [.b]
  |some .string=>ς [.str]
  |some (.slice e)=>match shO P n e with
   |some ss=>bif fW (P.cellsOf e) ss.length&&abD 1 ss.length then ς [.l ss] else ξ
   |none=>ξ
  |some (.struct fs)=>match shF P (shO P n) 0 fs.toList with
   |some ss=>bif fW (P.cellsOf t) ss.length then ς ss else ξ
   |none=>ξ
  |_=>ξ
theorem ZN{P:Program}{sh:TypeId->Option (List Sh)}(h:∀t ss,sh t=ς ss->tc P t ss):∀{fs:List Field} {o:Nat} {ss:List Sh},shF P sh o fs=ς ss->HasFs P o fs ss
 |[],o,ss,e=>by cases e;exact .nil
 |f::fs,o,ss,e=>by
  rw[shF] at e
  split at e
  .rename_i s1 h1
   cases hb:fW f.offset o&&fW (P.cellsOf f.type) s1.length<;>rw[hb] at e
   .cases e
   simp only[Bool.and_eq_true] at hb
   simp only[cond_true] at e
   split at e
   .rename_i s2 h2
    cases e
    exact .cons (aat hb.1) (h _ _ h1) (aat hb.2) (ZN h h2)
   cases e
  cases e
theorem Rt{P:Program}:∀{n:Nat} {t:TypeId} {ss:List Sh},shO P n t=ς ss->tc P t ss
 |0,t,ss,e=>by cases e
 |n+1,t,ss,e=>by
  rw[shO] at e
  split at e
  .rename_i h;cases e;exact .int h
  .rename_i h;cases e;exact .bool h
  .rename_i h;cases e;exact .string h
  .rename_i e' h
   split at e
   .rename_i s1 h1
    cases hb:fW (P.cellsOf e') s1.length&&abD 1 s1.length<;>rw[hb] at e
    .cases e
    simp only[Bool.and_eq_true] at hb
    cases e
    exact .slice h (Rt h1) (aat hb.1) (adp hb.2)
   cases e
  .rename_i fs h
   split at e
   .rename_i s1 h1
    cases hb:fW (P.cellsOf t) s1.length<;>rw[hb] at e
    .cases e
    cases e
    exact .struct h (ZN (λ_ _=>Rt) h1) (aat hb)
   cases e
  cases e
end Go.AM
namespace Go
def zX(N h:Nat):Nat:=Nat.mod (Nat.shiftRight N (10*h)) 1024
def ranked(P:Program)(N:Nat):Bool:=P.funcs.toList.zipIdx.all λy=>(P.leadsTo y.1).all λh=>abD (zX N h+1) (zX N y.2)
theorem KV{P:Program}{N:Nat}(h:ranked P N=ζ){g:Nat}{fn:Func}(hg:P.funcs[g]?=ς fn):∀x∈P.leadsTo fn,zX N x<zX N g:=by
 intro x hx
 unfold ranked at h
 rw[aa4] at h
 have h1:=h (fn,g) (by rw[List.mem_zipIdx_iff_getElem?];simpa using hg)
 rw[aa4] at h1
 exact adp (h1 x hx)
theorem vz{P:Program}{N r:Nat}(h:ranked P N=ζ):∀(fuel:Nat) (todo seen:List FuncId),(∀x∈todo,zX N x<=r)->(∀x∈seen,zX N x<=r)->∀x∈P.closureVia fuel todo seen,zX N x<=r
 |0,todo,seen,h1,h2,x,hx=>h2 x (by simpa [Program.closureVia] using hx)
 |n+1,[],seen,h1,h2,x,hx=>h2 x (by simpa [Program.closureVia] using hx)
 |n+1,f::todo,seen,h1,h2,x,hx=>by
  rw[Program.closureVia] at hx
  split at hx
  .exact vz h n todo seen (λy hy=>h1 y (by simp[hy])) h2 x hx
  refine vz h n _ (f::seen) (λy hy=>?_) (λy hy=>?_) x hx
  .rcases List.mem_append.1 hy with hy|hy
   .cases e:P.funcs[f]? with
    |none=>rw[e] at hy;simp at hy
    |some fn=>
     rw[e] at hy
     have:=KV h e y (by simpa using hy)
     have:=h1 f (by simp)
     omega
   exact h1 y (by simp[hy])
  rcases List.mem_cons.1 hy with rfl|hy
  .exact h1 _ (by simp)
  exact h2 y hy
theorem recurses_of{P:Program}{N:Nat}(h:ranked P N=ζ)(f:FuncId):P.recurses f=P.unfollowed f:=by
 unfold Program.recurses
 rw[show((P.closure f).any λg=>((P.funcs[g]?).elim [] P.leadsTo).any λh=>(P.closure h).contains g)=η from ?_]
 .simp
 rw[aeO]
 intro g hg
 rw[Bool.not_eq_true,aeO]
 intro x hx
 rw[Bool.not_eq_true]
 cases hc:(P.closure x).contains g with
 |false=>rfl
 |true=>
  have hm:g∈P.closure x:=by simpa using hc
  have h1:=vz h (r:=zX N x) _ [x] [] (by simp) (by simp) g hm
  cases e:P.funcs[g]? with
  |none=>rw[e] at hx;simp at hx
  |some fn=>
   rw[e] at hx
   have:=KV h e x (by simpa using hx)
   omega
def UN(P:Program)(l:List FuncId):List String:=
 l.filterMap λg=>(P.funcs[g]?).bind λfn=>if fn.ours||fn.body.isNone||fn.name== "runtime.NumGoroutine" then ς fn.name else ξ
def M4(P:Program)(l:List FuncId):Bool:=
 l.any λg=>(P.funcs[g]?).any λfn=>match fn.body with|some c=>c.unfollowed|none=>entryCalls fn
def PP(P:Program)(l:List FuncId):List String:=
 (((l.flatMap λg=>((P.funcs[g]?).bind (·.body)).elim [] Code.globalsNamed).eraseDups).filterMap (λg=>(P.globals[g]?).map (·.name))++
  l.filterMap λg=>(P.funcs[g]?).bind λfn=>if fn.body.isNone then entryReads.lookup fn.name else ξ).eraseDups
theorem inPlace_is{P:Program}{f:FuncId}{l:List FuncId}(h:P.closure f=l):P.inPlace f=UN P l:=by unfold Program.inPlace;rw[h];rfl
theorem unfollowed_is{P:Program}{f:FuncId}{l:List FuncId}(h:P.closure f=l):P.unfollowed f=M4 P l:=by unfold Program.unfollowed;rw[h];rfl
theorem varsNamed_is{P:Program}{f:FuncId}{l:List FuncId}(h:P.closure f=l):P.varsNamed f=PP P l:=by unfold Program.varsNamed;rw[h];rfl
end Go
