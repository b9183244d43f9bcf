/- A part. -/
import Derived.Test.YtljhooecmjejiaaGreatE5
set_option linter.unusedVariables false
set_option linter.unusedSimpArgs false
open Nat renaming eq_of_beq_eq_true→To,beq→d0,lt_of_lt_of_le→Uc,le_refl→Tt,le_trans→U0,lt_succ_of_lt→U8,ne_of_lt→U9,zero_le→Ud
open Bool renaming and_eq_true→hV,not_eq_true'→Ue,or_eq_false_iff→Ua,or_eq_true→T8
open List renaming mem_cons→Tq,getElem?_map→U6,getElem?_eq_some_iff→Tm,mem_append→TW,length_map→Us,getElem?_set→U7,mem_map→Ur,map_append→UK,all_cons→TF,length_append→Ut,nodup_append→U4,cons_append→TD,all_eq_true→TX
namespace Go.AM
open Go.RowKit
def de:List (Nat×Nat)→Nat→Option Nat
 |[],_=>none
 |(a,b)::r,n=>match d0 a n with
  |true=>some b
  |false=>de r n
def inv:List (Nat×Nat)→List (Nat×Nat)
 |[]=>[]
 |(a,b)::r=>(b,a)::inv r
theorem dN {a b:Nat}:∀{m:List (Nat×Nat)},de m a=some b→(a,b)∈m
 |(x,y)::r,h=>by
  simp only[de] at h
  split at h
  ·rename_i hb;have:=To hb;subst this;cases h;exact .head _
  ·exact .tail _ (dN h)
theorem gF {a b:Nat}:∀{m:List (Nat×Nat)},(m.map (·.1)).Nodup→(a,b)∈m→de m a=some b
 |(x,y)::r,hn,h=>by
  simp only[de]
  simp only[List.map_cons,List.nodup_cons] at hn
  rcases Tq.1 h with e|h
  ·cases e;simp
  ·have hne:x≠a:=fun e=>hn.1 (by subst e;exact Ur.2 ⟨_,h,rfl⟩)
   rw[pW hne];exact gF hn.2 h
theorem nq {a b:Nat}:∀{m:List (Nat×Nat)},(b,a)∈inv m↔(a,b)∈m
 |[]=>by simp[inv]
 |(x,y)::r=>by
  simp only[inv,Tq,Prod.mk.injEq,nq (m:=r)]
  constructor
  ·rintro(⟨h1,h2⟩|h)
   ·exact .inl ⟨h2,h1⟩
   ·exact .inr h
  ·rintro(⟨h1,h2⟩|h)
   ·exact .inl ⟨h2,h1⟩
   ·exact .inr h
theorem s8:∀(m:List (Nat×Nat)),(inv m).map (·.1)=m.map (·.2)
 |[]=>rfl
 |(x,y)::r=>by simp[inv,s8 r]
def rlC (m:List (Nat×Nat)):C→Option C
 | .d g x=>some (.d g x)
 | .nil=>some .nil
 | .any=>some .any
 | .fn f=>some (.fn f)
 | .w l n=>match de m l with
  |some k=>some (.w k n)
  |none=>none
 | .wn l n=>match de m l with
  |some k=>some (.wn k n)
  |none=>none
 | .p l j=>match de m l with
  |some k=>some (.p k j)
  |none=>none
 |_=>none
def rlB (ob:List (Nat×Ob)) (m:List (Nat×Nat)):C→Option C
 | .d g x=>some (.d g x)
 | .nil=>some .nil
 | .any=>some .any
 | .fn f=>some (.fn f)
 | .w l n=>match de m l,go ob l with
  |some k,some (.row ..)=>some (.w k n)
  |_,_=>none
 | .wn l n=>match de m l,go ob l with
  |some k,some (.rown ..)=>some (.wn k n)
  |_,_=>none
 | .p l j=>match de m l,go ob l with
  |some k,some (.var ..)=>some (.p k j)
  |_,_=>none
 |_=>none
def agC (up:Bool) (ob:List (Nat×Ob)) (m:List (Nat×Nat)):C→Option C
 | .d g x=>some (.d (up&&g) x)
 | .nil=>some (.d up (.l []))
 |c=>rlB ob m c
def rY (f:C→Option C):List T→Option (List T)
 |[]=>some []
 |c::cs=>match wO f c,rY f cs with
  |some x,some xs=>some (x::xs)
  |_,_=>none
def Cm (f:C→Option C):Ob→Option Ob
 | .var t cs=>match mq f cs with
  |some cs'=>some (.var t cs')
  |none=>none
 | .row t sz els g true=>some (.row t sz els g true)
 | .row _ _ _ _ false=>none
 | .rown t sz els g=>some (.rown t sz els g)
 | .abs _ _=>none
def wW (mi:List (Nat×Nat)) (ob:List (Nat×Ob)):List (Nat×Nat)→Option (List (Nat×Ob))
 |[]=>some []
 |(k,o)::r=>match go ob o with
  |some x=>match Cm (rlB ob mi) x,wW mi ob r with
   |some y,some ys=>some ((k,y)::ys)
   |_,_=>none
  |none=>none
def sb (m:List (Nat×Nat)):List (Nat×Ob)→Option (List (Nat×Ob))
 |[]=>some []
 |(k,x)::r=>match de m k,Cm (rlC m) x,sb m r with
  |some o,some y,some ys=>some ((o,y)::ys)
  |_,_,_=>none
def kvC (mi:List (Nat×Nat)):C→Option C
 | .w l n=>match de mi l with
  |some _=>some .any
  |none=>some (.w l n)
 | .wn l n=>match de mi l with
  |some _=>some .any
  |none=>some (.wn l n)
 | .s l a b c=>match de mi l with
  |some _=>some .any
  |none=>some (.s l a b c)
 | .e l a b c=>match de mi l with
  |some _=>some .any
  |none=>some (.e l a b c)
 | .p l j=>match de mi l with
  |some k=>match rsp k with
   |true=>some (.p l j)
   |false=>some .any
  |none=>some (.p l j)
 |c=>some c
def Nl (ys:List (Nat×Ob)) (k:Nat):Bool:=match go ys k with
 |some (.var ..)=>true
 |_=>false
def Jq (nx:Nat):List (Nat×Nat)→Nat→Bool
 |[],n=>d0 n nx
 |(k,o)::r,n=>((d0 o nx&&!rsv nx)&&!rsv k)&&Jq (nx+1) r n
def mOK (m nl:List (Nat×Nat)) (nx n:Nat) (ys:List (Nat×Ob)):Bool:=
 ((lG ((m++nl).map (·.1))&&lG ((m++nl).map (·.2)))&&(m.all (fun p=>rsv p.1&&nlt p.2 nx)&&Jq nx nl n))&&
  ((m.all (fun p=>rsp p.1||rsv p.2)||m.all (fun p=>rsp p.1||!rsv p.2))&&m.all (fun p=>(!rsp p.2||rsp p.1)&&((!rsp p.1||Nl ys p.1)&&(go ys p.1).isSome)))
theorem FQ:∀{nl:List (Nat×Nat)} {nx n:Nat},Jq nx nl n=true→nx≤n∧∀k o,(k,o)∈nl→nx≤o∧o<n∧rsv o=false∧rsv k=false
 |[],nx,n,h=>by have:=To h;subst this;exact⟨Tt _,by simp⟩
 |(k,o)::r,nx,n,h=>by
  simp only[Jq,hV,Ue] at h
  obtain⟨⟨⟨h1,h2⟩,h3⟩,h4⟩:=h
  have:=To h1
  subst this
  obtain⟨k1,k2⟩:=FQ h4
  refine⟨by omega,fun k' o' hm=>?_⟩
  rcases Tq.1 hm with e|hm
  ·cases e;exact⟨Tt _,by omega,h2,h3⟩
  ·have:=k2 k' o' hm;exact⟨by omega,this.2.1,this.2.2⟩
theorem AS {f:C→Option C} {E E':Env} {w w':World} (hf:∀c c' u,f c=some c'→cvC E w c u→cvC E' w' c' u) {a:Act}:∀{ts ts':List T} {args:List Operand},rY f ts=some ts'→ts.length=args.length→(∀x t,(x,t)∈args.zip ts→cvT E w t (a.eval x))→TV E' w' ts' (args.map a.eval)
 |[],ts',args,h,hl,hn=>by
  simp[rY] at h;subst h
  cases args with
  |nil=>trivial
  |cons _ _=>simp at hl
 |t::ts,ts',args,h,hl,hn=>by
  simp only[rY] at h
  split at h
  ·rename_i h1 h2
   simp at h;subst h
   cases args with
   |nil=>simp at hl
   |cons y args=>exact⟨wP hf h1 (hn y t (by simp)),AS hf h2 (by simpa using hl) (fun x t hm=>hn x t (by simp[hm]))⟩
  ·cases h
theorem GT {mi:List (Nat×Nat)} {ob:List (Nat×Ob)}:∀{m:List (Nat×Nat)} {xs:List (Nat×Ob)} {l:Nat} {x:Ob},wW mi ob m=some xs→go xs l=some x→∃o x0,de m l=some o∧go ob o=some x0∧Cm (rlB ob mi) x0=some x
 |[],xs,l,x,h,hg=>by simp[wW] at h;subst h;cases hg
 |(k,o)::r,xs,l,x,h,hg=>by
  simp only[wW] at h
  split at h
  ·rename_i x0 h0
   split at h
   ·rename_i y ys h1 h2
    simp at h;subst h
    by_cases e:k=l
    ·subst e;rw[cg] at hg;cases hg;exact⟨o,x0,by simp[de],h0,h1⟩
    ·rw[bA _ _ e] at hg
     obtain⟨o',x',a1,a2,a3⟩:=GT h2 hg
     exact⟨o',x',by simp only[de,pW e];exact a1,a2,a3⟩
   ·cases h
  ·cases h
theorem C9 {mi:List (Nat×Nat)} {ob:List (Nat×Ob)}:∀{m:List (Nat×Nat)} {xs:List (Nat×Ob)} {k o:Nat},wW mi ob m=some xs→(k,o)∈m→∃x0 x,go ob o=some x0∧Cm (rlB ob mi) x0=some x
 |(k',o')::r,xs,k,o,h,hm=>by
  simp only[wW] at h
  split at h
  ·rename_i x0 h0
   split at h
   ·rename_i y ys h1 h2
    rcases Tq.1 hm with e|hm
    ·cases e;exact⟨x0,y,h0,h1⟩
    ·exact C9 h2 hm
   ·cases h
  ·cases h
theorem A8 {m:List (Nat×Nat)} (hinj:∀a a' b,de m a=some b→de m a'=some b→a=a'):∀{ys ys':List (Nat×Ob)} {o:Nat} {y':Ob},sb m ys=some ys'→go ys' o=some y'→∃k y,de m k=some o∧go ys k=some y∧Cm (rlC m) y=some y'
 |[],ys',o,y',h,hg=>by simp[sb] at h;subst h;cases hg
 |(k,x)::r,ys',o,y',h,hg=>by
  simp only[sb] at h
  split at h
  ·rename_i o1 y1 ys1 h1 h2 h3
   simp at h;subst h
   by_cases e:o1=o
   ·subst e;rw[cg] at hg;cases hg;exact⟨k,x,h1,cg _ _ _,h2⟩
   ·rw[bA _ _ e] at hg
    obtain⟨k',y,a1,a2,a3⟩:=A8 hinj h3 hg
    have hne:k≠k':=fun e'=>by subst e';rw[h1] at a1;cases a1;exact e rfl
    exact⟨k',y,a1,by rw[bA _ _ hne];exact a2,a3⟩
  ·cases h
theorem Nh {a b:List (Nat×Ob)} {o:Nat} {x:Ob} (h:go (a++b) o=some x):go a o=some x∨(go a o=none∧go b o=some x):=by
 induction a with
 |nil=>exact .inr ⟨rfl,h⟩
 |cons p r ih=>
  obtain⟨k,v⟩:=p
  by_cases e:k=o
  ·subst e;rw[TD,cg] at h;rw[cg];exact .inl h
  ·rw[TD,bA _ _ e] at h;rw[bA _ _ e];exact ih h
theorem A9 {m:List (Nat×Nat)}:∀{ys ys':List (Nat×Ob)} {k:Nat} {y:Ob},sb m ys=some ys'→go ys k=some y→∃o,de m k=some o∧go ys' o≠none
 |(k',x)::r,ys',k,y,h,hg=>by
  simp only[sb] at h
  split at h
  ·rename_i o1 y1 ys1 h1 h2 h3
   simp at h;subst h
   by_cases e:k'=k
   ·subst e;exact⟨o1,h1,by rw[cg];simp⟩
   ·rw[bA _ _ e] at hg
    obtain⟨o,a1,a2⟩:=A9 h3 hg
    refine⟨o,a1,?_⟩
    by_cases e2:o1=o
    ·subst e2;rw[cg];simp
    ·rw[bA _ _ e2];exact a2
  ·cases h
theorem w9 {E E':Env} {w:World} {f:C→Option C} {l o:Nat} {x y:Ob} (h:Cm f x=some y) (hf:∀c c' u,f c=some c'→cvC E w c u→cvC E' w c' u) (hr:∀b c,¬(E.n l∧∃t sz els g,x= .rown t sz els g)→E.r l=some (b,c)→E'.r o=some (b,c)) (hn:E'.n o↔E.n l)
 (hH:∀g b,E.H g b→E'.H g b) (hF:∀b c,¬(E.n l∧∃t sz els g,x= .rown t sz els g)→E.r l=some (b,c)→¬E.F b→¬E'.F b) (hx:cy E w l x):cy E' w o y:=by
 cases x with
 |var t cs=>
  simp only[Cm] at h
  split at h
  ·rename_i h1;cases h
   obtain⟨b,c,arr,k1,k2,k3,k4⟩:=hx
   have hno:¬(E.n l∧∃t' sz els g,Ob.var t cs= .rown t' sz els g):=fun⟨_,_,_,_,_,h⟩=>by cases h
   exact⟨b,c,arr,hr b c hno k1,k2,qr hf h1 k3,hF b c hno k1 k4⟩
  ·cases h
 |row t sz els g mm=>
  cases mm with
  |false=>cases h
  |true=>
   cases h
   obtain⟨b,c,arr,k1,k2,k3,k4,k5,k6,k7,k8,_⟩:=hx
   have hno:¬(E.n l∧∃t' sz' els' g',Ob.row t sz els g true= .rown t' sz' els' g'):=fun⟨_,_,_,_,_,h⟩=>by cases h
   exact⟨b,c,arr,hr b c hno k1,k2,k3,k4,k5,k6,cm (fun _ _=>rfl) (hH g) rfl _ _ k7,fun _=>hF b c hno k1 (k8 rfl),fun h=>by cases h⟩
 |rown t sz els g=>
  cases h
  rcases hx with⟨h1,h2⟩|⟨h1,b,c,arr,k1,k2,k3,k4,k5,k6,k7,k8⟩
  ·exact .inl ⟨hn.2 h1,h2⟩
  ·exact .inr ⟨fun k=>h1 (hn.1 k),b,c,arr,hr b c (fun k=>h1 k.1) k1,k2,k3,k4,k5,k6,cm (fun _ _=>rfl) (hH g) rfl _ _ k7,hF b c (fun k=>h1 k.1) k1 k8⟩
 |abs j z=>cases h
def ltF (n:Nat) (f:C→Option C) (c:C):Option C:=bif c.lt n then f c else some .any
theorem GC {n:Nat} {f:C→Option C}:∀{cs:List C},cs.all (C.lt n)=true→mq (ltF n f) cs=mq f cs
 |[],_=>rfl
 |c::cs,h=>by
  simp only[TF,hV] at h
  simp only[mq,GC h.2,ltF,h.1,cond_true]
theorem JZ {n:Nat} {f:C→Option C} {v:V} (h:v.lt n=true):Eo (ltF n f) v=Eo f v:=by
 cases v with
 |c c=>have h:c.lt n=true:=h;simp only[Eo,ltF,h,cond_true]
 |agg cs=>simp only[Eo,GC (n:=n) (cs:=cs) h]
theorem GD {n:Nat} {f:C→Option C}:∀{cs:List V},cs.all (V.lt n)=true→yL (ltF n f) cs=yL f cs
 |[],_=>rfl
 |c::cs,h=>by
  simp only[TF,hV] at h
  simp only[yL,GD h.2,JZ h.1]
theorem Qd {n:Nat} {f:C→Option C} {t:T} (h:t.lt n=true):wO (ltF n f) t=wO f t:=by
 cases t with
 |v v=>simp only[wO,JZ (n:=n) (v:=v) h]
 |tup vs=>simp only[wO,GD (n:=n) (cs:=vs) h]
 |any=>rfl
theorem JY {n:Nat} {f:C→Option C}:∀{sl:List (Nat×T)},CA n sl=true→ya (ltF n f) sl=ya f sl
 |[],_=>rfl
 |(k,t)::r,h=>by
  simp only[CA,hV] at h
  simp only[ya,Qd h.1,JY h.2]
open Classical in
theorem Kd {up:Bool} {P:Program} {N:Nat} {d:Tmp} {ty:TypeId} {ps:String} {af:Array Edge} {gd:Option (Nat×Bool)} {f:FuncId} {args:List Operand} {tys:Array TypeId} {sl sl':List (Nat×T)} {ob ob':List (Nat×Ob)} {nx n:Nat} {ts ts':List T} {xs ys ys' nw nw':List (Nat×Ob)} {out out':T} {m nl:List (Nat×Nat)}
 (hF:FnV P f xs ts' ys out nw) (ht:yc sl args=some ts) (ha:rY (agC up ob (inv m)) ts=some ts') (hx:wW (inv m) ob m=some xs) (hm:mOK m nl nx n ys=true) (hs:ya (kvC (inv m)) sl=some sl') (hb:vC (kvC (inv m)) (fun _ x=>some x) ob=some ob')
 (hy:sb (m++nl) ys=some ys') (hw:sb (m++nl) nw=some nw') (ho:wO (rlC (m++nl)) out=some out') (hsl:CA nx sl=true) (hol:yM nx ob=true) (hN:nlt d N=true):
 AWO P N ⟨some d,.call ⟨.value (.func f),args.toArray,tys⟩,ty,ps,af,gd⟩ ⟨sl,ob,nx⟩ ⟨(d,out')::sl',nw'++(ys'++ob'),n⟩:=by
 intro cx E a w hR
 have ok:=hR.ok
 obtain⟨t1,t2⟩:=o7 ht
 simp only[mOK,hV,TX,T8,Ue] at hm
 obtain⟨⟨⟨hk1,hk2⟩,hm1,hc⟩,hu,hm2⟩:=hm
 have nd1:=ij hk1
 have nd2:=ij hk2
 obtain⟨hnn,hcu⟩:=FQ hc
 have ndm1:(m.map (·.1)).Nodup:=by rw[UK] at nd1;exact(U4.1 nd1).1
 have ndm2:(m.map (·.2)).Nodup:=by rw[UK] at nd2;exact(U4.1 nd2).1
 have inv_of:∀{k o},de m k=some o→de (inv m) o=some k:=fun h=>gF (by rw[s8];exact ndm2) (nq.2 (dN h))
 have of_inv:∀{k o},de (inv m) o=some k→de m k=some o:=fun h=>gF ndm1 (nq.1 (dN h))
 have inv_of':∀{k o},de (m++nl) k=some o→de (inv (m++nl)) o=some k:=fun h=>gF (by rw[s8];exact nd2) (nq.2 (dN h))
 have of_inv':∀{k o},de (inv (m++nl)) o=some k→de (m++nl) k=some o:=fun h=>gF nd1 (nq.1 (dN h))
 have look_m:∀{k o},de m k=some o→de (m++nl) k=some o:=fun h=>gF nd1 (TW.2 (.inl (dN h)))
 have split:∀{k o},de (m++nl) k=some o→de m k=some o∨(k,o)∈nl:=fun h=>(TW.1 (dN h)).imp (gF ndm1) id
 have linj:∀a a' b,de m a=some b→de m a'=some b→a=a':=fun a a' b h h'=>by have h:=inv_of h;have h':=inv_of h';rw[h] at h';cases h';rfl
 have linj':∀a a' b,de (m++nl) a=some b→de (m++nl) a'=some b→a=a':=fun a a' b h h'=>by have h:=inv_of' h;have h':=inv_of' h';rw[h] at h';cases h';rfl
 have mrs:∀{k o},de m k=some o→rsv k=true∧o<nx:=fun h=>⟨(hm1 _ (dN h)).1,cK (hm1 _ (dN h)).2⟩
 have pick:∀{k o},de m k=some o→∃x0 x,go ob o=some x0∧Cm (rlB ob (inv m)) x0=some x:=fun h=>C9 hx (dN h)
 let nilL:Nat→Prop:=fun o=>E.n o∧∃t sz els g,go ob o=some (.rown t sz els g)
 let Ec:Env:={r:=fun l=>match de m l with|some o=>if nilL o then none else E.r o|none=>none,F:=E.F,G:=E.G,n:=fun l=>∃o,de m l=some o∧E.n o}
 have hEc:∀l p,Ec.r l=some p→∃o,de m l=some o∧¬nilL o∧E.r o=some p:=by
  intro l p h
  have h:(match de m l with|some o=>if nilL o then none else E.r o|none=>none)=some p:=h
  split at h
  ·rename_i o h1
   split at h
   ·cases h
   ·exact⟨o,h1,by assumption,h⟩
  ·cases h
 have hEc2:∀{l o p},de m l=some o→¬nilL o→E.r o=some p→Ec.r l=some p:=by
  intro l o p h1 h2 h3
  show(match de m l with|some o=>if nilL o then none else E.r o|none=>none)=some p
  rw[h1];simp only[h2,if_false];exact h3
 have hEn:∀{l o},de m l=some o→(Ec.n l↔E.n o):=fun h=>⟨fun⟨o',h1,h2⟩=>by rw[h] at h1;cases h1;exact h2,fun h2=>⟨_,h,h2⟩⟩
 have nF:∀{l o b c},de m l=some o→¬nilL o→E.r o=some (b,c)→¬E.F b:=by
  intro l o b c h1 h2 h3
  obtain⟨x0,x,a1,a2⟩:=pick h1
  have hx0:=hR.obs o x0 a1
  cases x0 with
  |var t cs=>obtain⟨b',c',arr,k1,k2,k3,k4⟩:=hx0;rw[h3] at k1;cases k1;exact k4
  |row t sz els g mm=>
   cases mm with
   |false=>cases a2
   |true=>obtain⟨b',c',arr,k1,k2,k3,k4,k5,k6,k7,k8,_⟩:=hx0;rw[h3] at k1;cases k1;exact k8 rfl
  |rown t sz els g=>
   rcases hx0 with⟨k0,_⟩|⟨_,b',c',arr,k1,k2,k3,k4,k5,k6,k7,k8⟩
   ·exact absurd ⟨k0,_,_,_,_,a1⟩ h2
   ·rw[h3] at k1;cases k1;exact k8
  |abs j z=>cases a2
 have hVI:VIn Ec w:=⟨ok.fb,ok.gf,fun l b c h=>by
  obtain⟨o,h1,h2,h3⟩:=hEc l _ h
  exact⟨(ok.rb o b c h3).1,(mrs h1).1,nF h1 h2 h3⟩,fun l l' b c c' h h'=>by
  obtain⟨o,h1,h2,h3⟩:=hEc l _ h
  obtain⟨o',h1',h2',h3'⟩:=hEc l' _ h'
  have:=ok.inj _ _ _ _ _ h3 h3'
  subst this
  exact linj _ _ _ h1 h1',fun _ _ h=>h,fun _ h=>h⟩
 have hcB:∀c c' u,rlB ob (inv m) c=some c'→cvC E w c u→cvC Ec w c' u:=by
  intro c c' u h hc
  cases c with
  |w l n=>
   simp only[rlB] at h
   split at h
   ·rename_i k _ _ _ _ _ h1 h2;cases h
    obtain⟨b,c,h3,h4⟩:=hc
    exact⟨b,c,hEc2 (of_inv h1) (fun⟨_,_,_,_,_,h⟩=>by rw[h2] at h;cases h) h3,h4⟩
   ·cases h
  |wn l n=>
   simp only[rlB] at h
   split at h
   ·rename_i k _ _ _ _ h1 h2;cases h
    rcases hc with⟨h3,h4⟩|⟨h3,b,c,h4,h5⟩
    ·exact .inl ⟨(hEn (of_inv h1)).2 h3,h4⟩
    ·exact .inr ⟨fun h=>h3 ((hEn (of_inv h1)).1 h),b,c,hEc2 (of_inv h1) (fun h=>h3 h.1) h4,h5⟩
   ·cases h
  |p l n=>
   simp only[rlB] at h
   split at h
   ·rename_i k _ _ h1 h2;cases h
    obtain⟨b,c,h3,h4⟩:=hc
    exact⟨b,c,hEc2 (of_inv h1) (fun⟨_,_,_,_,_,h⟩=>by rw[h2] at h;cases h) h3,h4⟩
   ·cases h
  |d g x=>simp only[rlB] at h;cases h;cases g<;>exact hc
  |nil=>simp only[rlB] at h;cases h;exact hc
  |any=>simp only[rlB] at h;cases h;trivial
  |fn f=>simp only[rlB] at h;cases h;exact hc
  |_=>simp only[rlB] at h;cases h
 have hcA:∀c c' u,agC up ob (inv m) c=some c'→cvC E w c u→cvC Ec w c' u:=by
  intro c c' u h hc
  cases c with
  |d g x=>simp only[agC] at h;cases h;exact cj (fun _ _=>rfl) (fun b hb=>by cases g<;>cases up<;>first|exact hb|exact ok.gf b hb) x u hc
  |nil=>simp only[agC] at h;cases h;exact⟨none,0,hc,Tt _,.inl rfl⟩
  |_=>simp only[agC] at h;exact hcB _ _ _ h hc
 have hX:∀l x,go xs l=some x→cy Ec w l x:=by
  intro l x h
  obtain⟨o,x0,a1,a2,a3⟩:=GT hx h
  exact w9 a3 hcB (fun b c h1 h2=>hEc2 a1 (fun⟨k1,t,sz,els,g,k2⟩=>h1 ⟨k1,t,sz,els,g,by rw[a2] at k2;cases k2;rfl⟩) h2) (hEn a1) (fun g b h=>by cases g<;>exact h) (fun b c h1 h2 h3=>h3) (hR.obs o x0 a2)
 have hA:=AS (a:=a) hcA ha t1 (fun x t hm=>by have:=hR.op x;rwa [Lk.mem t2 x t hm] at this)
 have hc:=hF.calls Ec w (args.map a.eval).toArray hVI ok.tabs (fun k hk l c h=>by
  obtain⟨o,_,_,h3⟩:=hEc l _ h;exact ok.ntab h3 k hk rfl) hX (by simpa using hA)
 have hent:=hF.enters (args.map a.eval).toArray w
 unfold Oper.wp
 have hrun:(execOp a.eval ⟨some d,.call ⟨.value (.func f),args.toArray,tys⟩,ty,ps,af,gd⟩).run P w= .ok (.enter f (args.map a.eval).toArray) w:=by
  simp only[execOp,resolve,Act.eval,Deferred.ofValue,Sem.run_bind,Sem.run_pure,Result.andThen_ok,invoke]
  simpa using hent
 rw[hrun,Oper.upon_enter]
 refine hc.mono ?_
 rintro e w' ⟨v,E',rfl,vo,hv,hY,hNW⟩
 have hsz:=vo.past.size
 let E2:Env:={r:=fun l=>match de (inv (m++nl)) l with|some k=>E'.r k|none=>E.r l,F:=E'.F,G:=E'.G,T:=E.T,Z:=E.Z,n:=fun l=>match de (inv (m++nl)) l with|some k=>E'.n k|none=>E.n l}
 have e2r:∀{k o},de (m++nl) k=some o→E2.r o=E'.r k:=fun h=>by show(match de (inv (m++nl)) _ with|some k=>E'.r k|none=>E.r _)=_;rw[inv_of' h]
 have e2n:∀{k o},de (m++nl) k=some o→(E2.n o↔E'.n k):=fun h=>by show(match de (inv (m++nl)) _ with|some k=>E'.n k|none=>E.n _)↔_;rw[inv_of' h]
 have e2r0:∀{o},de (inv (m++nl)) o=none→E2.r o=E.r o:=fun h=>by show(match de (inv (m++nl)) _ with|some k=>E'.r k|none=>E.r _)=_;rw[h]
 have e2n0:∀{o},de (inv (m++nl)) o=none→(E2.n o↔E.n o):=fun h=>by show(match de (inv (m++nl)) _ with|some k=>E'.n k|none=>E.n _)↔_;rw[h]
 have e2c:∀l b c,E2.r l=some (b,c)→(∃k,de (m++nl) k=some l∧E'.r k=some (b,c))∨(de (inv (m++nl)) l=none∧E.r l=some (b,c)):=by
  intro l b c h
  cases h1:de (inv (m++nl)) l with
  |some k=>exact .inl ⟨k,of_inv' h1,by rw[←e2r (of_inv' h1)];exact h⟩
  |none=>exact .inr ⟨rfl,by rw[←e2r0 h1];exact h⟩
 have oldB:∀{k b c},E'.r k=some (b,c)→w.heap.size≤b∨∃l o c',de m l=some o∧¬nilL o∧E.r o=some (b,c')∧rsv k=true:=by
  intro k b c h
  rcases(vo.rb k b c h).2 with h|⟨⟨l,c',h⟩,h2⟩
  ·exact .inl h
  ·obtain⟨o,h3,h4,h5⟩:=hEc l _ h;exact .inr ⟨l,o,c',h3,h4,h5,h2⟩
 have none_of:∀{o},(∀k,de m k≠some o)→o<nx→de (inv (m++nl)) o=none:=by
  intro o h1 h2
  cases h:de (inv (m++nl)) o with
  |none=>rfl
  |some k=>
   rcases split (of_inv' h) with h3|h3
   ·exact absurd h3 (h1 k)
   ·have:=(hcu _ _ h3).1;omega
 have hnot:∀{o},de (inv (m++nl)) o=none→∀k,de m k≠some o:=fun h k h1=>by rw[inv_of' (look_m h1)] at h;cases h
 have hheap:∀k,k<w.heap.size→(∀l o c,de m l=some o→¬nilL o→E.r o≠some (k,c))→w'.heap[k]?=w.heap[k]?:=fun k hk h=>vo.past.block k hk (fun⟨l,c,h1⟩=>by
  obtain⟨o,h2,h3,h4⟩:=hEc l _ h1;exact h l o c h2 h3 h4)
 have hFh:∀b,E.F b→w'.heap[b]?=w.heap[b]?:=fun b hb=>hheap b (ok.fb b hb) (fun l o c h1 h2 h3=>nF h1 h2 h3 hb)
 have hHh:∀g b,E.H g b→w'.heap[b]?=w.heap[b]?:=fun g b hb=>hFh b (by cases g;exact hb;exact ok.gf b hb)
 have hTh:∀l b,E.T l b→w'.heap[b]?=w.heap[b]?:=fun l b hb=>hheap b (ok.sf.tb l b hb).1.1 (fun _ o c _ _ h=>(ok.sf.tb l b hb).2.2.1 o c h)
 have hZh:∀b,cx.Z b→w'.heap[b]?=w.heap[b]?:=fun b hb=>hheap b (ok.sf.zc b hb).1.2.1 (fun _ o c _ _ h=>(ok.sf.zc b hb).2.2.1 o c h)
 have okE:cQ cx E2 w':=by
  refine⟨vo.fb,vo.gf,fun b h=>?_,fun l b c h=>?_,fun l l' b c c' h h'=>?_,by rw[vo.past.os];exact ok.os,by rw[vo.past.tape];exact ok.tape,by rw[vo.past.output];exact ok.output,U0 ok.size hsz,fun b h hW=>?_,fun l x hv h=>?_,fun b h=>?_,fun b h h'=>?_,⟨fun l b h=>?_,ok.sf.tt,fun b h=>?_,fun b h=>?_,ok.sf.ze⟩⟩
  ·rcases vo.g0 b h with h|h
   ·exact .inl (U0 ok.size h)
   ·exact ok.gn b h
  ·rcases e2c l b c h with⟨k,h1,h2⟩|⟨h1,h2⟩
   ·refine⟨(vo.rb k b c h2).1,?_⟩
    rcases oldB h2 with h3|⟨l',o',c',h3,h4,h5,h6⟩
    ·exact .inl (U0 ok.size h3)
    ·rcases split h1 with h7|h7
     ·rcases(ok.rb o' b c' h5).2 with h8|⟨h8,h9⟩
      ·exact .inl h8
      ·refine .inr ⟨h8,?_⟩
       cases hp:rsp k with
       |true=>
        have h10:=vo.pin k _ hp h2
        obtain⟨o2,h11,_,h13⟩:=hEc k _ h10
        rw[h7] at h11;cases h11
        have:=ok.inj _ _ _ _ _ h13 h5
        rw[this];exact h9
       |false=>
        rcases hu with hu|hu
        ·rcases hu _ (dN h7) with h10|h10
         ·simp only at h10;rw[hp] at h10;cases h10
         ·exact h10
        ·rcases hu _ (dN h3) with h10|h10
         ·have h11:rsp l'=true:=h10
          have h12:=inv_of h3
          exfalso
          have hy2:(go ys l').isSome=true:=(hm2 _ (dN h3)).2.2
          have hv2:Nl ys l'=true:=((hm2 _ (dN h3)).2.1).resolve_left (by simp[h11])
          unfold Nl at hv2
          split at hv2
          ·rename_i t cs hg
           obtain⟨b1,c1,arr,q1,_⟩:=hY _ _ hg
           have q2:=vo.pin l' _ h11 q1
           obtain⟨o2,q3,_,q4⟩:=hEc l' _ q2
           rw[h3] at q3;cases q3
           rw[h5] at q4;cases q4
           have:=vo.inj _ _ _ _ _ q1 h2
           subst this
           rw[h11] at hp;cases hp
          ·cases hv2
         ·simp only at h10;rw[h9] at h10;cases h10
     ·exfalso
      have:=(hcu _ _ h7).2.2.2
      rw[this] at h6;cases h6
   ·have:=ok.rb l b c h2;exact⟨Uc this.1 hsz,this.2⟩
  ·rcases e2c l b c h with⟨k,h1,h2⟩|⟨h1,h2⟩<;>rcases e2c l' b c' h' with⟨k',h1',h2'⟩|⟨h1',h2'⟩
   ·have:=vo.inj _ _ _ _ _ h2 h2'
    subst this
    rw[h1] at h1';cases h1';rfl
   ·exfalso
    rcases oldB h2 with h3|⟨l2,o2,c2,h3,h4,h5,_⟩
    ·have:=(ok.rb _ _ _ h2').1;omega
    ·have:=ok.inj _ _ _ _ _ h5 h2'
     subst this
     exact hnot h1' _ h3
   ·exfalso
    rcases oldB h2' with h3|⟨l2,o2,c2,h3,h4,h5,_⟩
    ·have:=(ok.rb _ _ _ h2).1;omega
    ·have:=ok.inj _ _ _ _ _ h5 h2
     subst this
     exact hnot h1 _ h3
   ·exact ok.inj _ _ _ _ _ h2 h2'
  ·rw[hheap b (Uc h ok.size) (fun l o c h1 h2 h3=>by
    rcases(ok.rb o b c h3).2 with h4|h4
    ·omega
    ·exact hW h4.1)]
   exact ok.block b h hW
  ·obtain⟨b,c⟩:=x
   rcases e2c l b c h with⟨k,h1,h2⟩|⟨_,h2⟩
   ·rcases split h1 with h7|h7
    ·have hk:rsp k=true:=((hm2 _ (dN h7)).1).resolve_left (by simp[hv])
     obtain⟨o2,q3,_,q4⟩:=hEc k _ (vo.pin k _ hk h2)
     rw[h7] at q3;cases q3
     exact ok.pin l _ hv q4
    ·have:=(hcu _ _ h7).2.2.1
     have h9:=EJ hv
     rw[this] at h9;cases h9
   ·exact ok.pin l _ hv h2
  ·rcases vo.f0 b h with h|h
   ·exact ok.ff b h
   ·exact .inr (U0 ok.size h.1)
  ·rcases vo.f0 b h with h|h
   ·exact(ok.gc b h h').of_eq (hFh b h)
   ·exact h.2
  ·obtain⟨k1,k2,k3,k4⟩:=ok.sf.tb l b h
   refine⟨⟨by omega,k1.2⟩,fun hf=>?_,fun o c ho=>?_,k4.of_eq (hTh l b h)⟩
   ·rcases vo.f0 b hf with hf|hf
    ·exact k2 hf
    ·omega
   ·rcases e2c o b c ho with⟨k,_,h2⟩|⟨_,h2⟩
    ·rcases oldB h2 with h3|⟨l2,o2,c2,h3,h4,h5,_⟩
     ·omega
     ·exact k3 _ _ h5
    ·exact k3 _ _ h2
  ·obtain⟨k1,k2,k3,k4⟩:=ok.sf.zc b h
   refine⟨⟨k1.1,by omega,k1.2.2⟩,fun hf=>?_,fun o c ho=>?_,k4.of_eq (hZh b h)⟩
   ·rcases vo.f0 b hf with hf|hf
    ·exact k2 hf
    ·omega
   ·rcases e2c o b c ho with⟨k,_,h2⟩|⟨_,h2⟩
    ·rcases oldB h2 with h3|⟨l2,o2,c2,h3,h4,h5,_⟩
     ·omega
     ·exact k3 _ _ h5
    ·exact k3 _ _ h2
  ·exact(ok.sf.zs b h).trans (.of_eq (hZh b h))
 have hHm:∀g b,E.H g b→E2.H g b:=fun g b h=>by cases g;exact vo.F b h;exact vo.G b h
 have hkv:∀c c' u,c.lt nx=true→kvC (inv m) c=some c'→cvC E w c u→cvC E2 w' c' u:=by
  intro c c' u hl h hc
  have hnone:∀{l},de (inv m) l=none→l<nx→de (inv (m++nl)) l=none:=fun h1 h2=>none_of (fun k h3=>by rw[inv_of h3] at h1;cases h1) h2
  cases c with
  |d g x=>simp only[kvC] at h;cases h;exact cj (hHh g) (hHm g) x u hc
  |w l n=>
   simp only[kvC] at h
   split at h
   ·cases h;trivial
   ·rename_i h1;cases h
    obtain⟨b,c,h3,h4⟩:=hc
    exact⟨b,c,by rw[e2r0 (hnone h1 (cK hl))];exact h3,h4⟩
  |wn l n=>
   simp only[kvC] at h
   split at h
   ·cases h;trivial
   ·rename_i h1;cases h
    have h2:=hnone h1 (cK hl)
    rcases hc with⟨h3,h4⟩|⟨h3,b,c,h4,h5⟩
    ·exact .inl ⟨(e2n0 h2).2 h3,h4⟩
    ·exact .inr ⟨fun h=>h3 ((e2n0 h2).1 h),b,c,by rw[e2r0 h2];exact h4,h5⟩
  |s l a1 a2 a3=>
   simp only[kvC] at h
   split at h
   ·cases h;trivial
   ·rename_i h1;cases h
    obtain⟨A,c,b,k,h3,h4⟩:=hc
    exact⟨A,c,b,k,by rw[e2r0 (hnone h1 (cK hl))];exact h3,h4⟩
  |e l a1 a2 a3=>
   simp only[kvC] at h
   split at h
   ·cases h;trivial
   ·rename_i h1;cases h
    obtain⟨b,c,h3,h4⟩:=hc
    exact⟨b,c,by rw[e2r0 (hnone h1 (cK hl))];exact h3,h4⟩
  |p l j=>
   simp only[kvC] at h
   split at h
   ·rename_i k h1
    split at h
    ·rename_i hp
     cases h
     obtain⟨b,c,h3,h4⟩:=hc
     have h5:=of_inv h1
     have hv2:Nl ys k=true:=((hm2 _ (dN h5)).2.1).resolve_left (by simp[hp])
     unfold Nl at hv2
     split at hv2
     ·rename_i t cs hg
      obtain⟨b1,c1,arr,q1,_⟩:=hY _ _ hg
      obtain⟨o2,q3,_,q4⟩:=hEc k _ (vo.pin k _ hp q1)
      rw[h5] at q3;cases q3
      rw[h3] at q4;cases q4
      exact⟨b,c,by rw[e2r (look_m h5)];exact q1,h4⟩
     ·cases hv2
    ·cases h;trivial
   ·rename_i h1;cases h
    obtain⟨b,c,h3,h4⟩:=hc
    exact⟨b,c,by rw[e2r0 (hnone h1 (cK hl))];exact h3,h4⟩
  |q g y j=>
   simp only[kvC] at h;cases h
   obtain⟨b,k,h1,h2,h3⟩:=hc
   exact⟨b,k,h1,hHm g b h2,rdL_mono (hHh g) (hHm g) y b k h2 h3⟩
  |fn f=>simp only[kvC] at h;cases h;exact hc
  |nil=>simp only[kvC] at h;cases h;exact hc
  |any=>simp only[kvC] at h;cases h;trivial
  |r l x=>simp only[kvC] at h;cases h;exact cj (fun b hb=>hTh l b hb) (fun b hb=>hb) x u hc
  |z x=>simp only[kvC] at h;cases h;exact qx (fun b hb=>.of_eq (hZh b (ok.sf.ze b hb))) (fun b hb=>hb) x u hc
  |zq x j=>
   simp only[kvC] at h;cases h
   obtain⟨b,k,h1,h2,h3⟩:=hc
   exact⟨b,k,h1,h2,rsL_mono (fun b hb=>.of_eq (hZh b (ok.sf.ze b hb))) (fun b hb=>hb) x b k h2 h3⟩
 have hrl:∀c c' u,rlC (m++nl) c=some c'→cvC E' w' c u→cvC E2 w' c' u:=by
  intro c c' u h hc
  cases c with
  |w l n=>
   simp only[rlC] at h
   split at h
   ·rename_i k h1;cases h
    obtain⟨b,c,h3,h4⟩:=hc
    exact⟨b,c,by rw[e2r h1];exact h3,h4⟩
   ·cases h
  |wn l n=>
   simp only[rlC] at h
   split at h
   ·rename_i k h1;cases h
    rcases hc with⟨h3,h4⟩|⟨h3,b,c,h4,h5⟩
    ·exact .inl ⟨(e2n h1).2 h3,h4⟩
    ·exact .inr ⟨fun h=>h3 ((e2n h1).1 h),b,c,by rw[e2r h1];exact h4,h5⟩
   ·cases h
  |p l n=>
   simp only[rlC] at h
   split at h
   ·rename_i k h1;cases h
    obtain⟨b,c,h3,h4⟩:=hc
    exact⟨b,c,by rw[e2r h1];exact h3,h4⟩
   ·cases h
  |d g x=>simp only[rlC] at h;cases h;cases g<;>exact hc
  |nil=>simp only[rlC] at h;cases h;exact hc
  |any=>simp only[rlC] at h;cases h;trivial
  |fn f=>simp only[rlC] at h;cases h;exact hc
  |_=>simp only[rlC] at h;cases h
 have hrel:∀{k o:Nat} {y y':Ob},de (m++nl) k=some o→Cm (rlC (m++nl)) y=some y'→cy E' w' k y→cy E2 w' o y':=fun h1 h2 h3=>
  w9 h2 hrl (fun b c _ h=>by rw[e2r h1];exact h) (e2n h1) (fun g b h=>by cases g<;>exact h) (fun b c _ _ h=>h) h3
 refine⟨E2,okE,fun l x h=>?_,fun l y hl=>?_,fun k=>?_,hR.dfr,by simpa [Act.put] using hR.size,fun l b h=>Uc (hR.td l b h) hnn⟩
 ·obtain⟨b,c⟩:=x
  rcases e2c l b c h with⟨k,h1,_⟩|⟨_,h2⟩
  ·rcases split h1 with h3|h3
   ·exact Uc (mrs h3).2 hnn
   ·exact(hcu _ _ h3).2.1
  ·exact Uc (hR.dom l _ h2) hnn
 ·rcases Nh hl with h|⟨_,h⟩
  ·obtain⟨k,y0,h1,h2,h3⟩:=A8 linj' hw h
   exact hrel h1 h3 (hNW _ _ h2)
  ·rcases Nh h with h|⟨h0,h⟩
   ·obtain⟨k,y0,h1,h2,h3⟩:=A8 linj' hy h
    exact hrel h1 h3 (hY _ _ h2)
   ·
     have hnm:∀k,de m k≠some l:=fun k h1=>by
      have h2:=(hm2 _ (dN h1)).2.2
      cases h3:go ys k with
      |none=>rw[h3] at h2;cases h2
      |some y0=>
       obtain⟨o,h4,h5⟩:=A9 hy h3
       rw[look_m h1] at h4;cases h4
       exact h5 h0
     have hno:∀b c,E.r l=some (b,c)→w'.heap[b]?=w.heap[b]?:=fun b c hr=>hheap b (ok.rb l b c hr).1 (fun l' o' c' h1 _ h3=>by
      have:=ok.inj _ _ _ _ _ hr h3
      subst this
      exact hnm _ h1)
     have hFn:∀b c,E.r l=some (b,c)→¬E.F b→¬E2.F b:=fun b c hr hn hf=>(vo.f0 b hf).elim hn (fun h=>by have:=(ok.rb l b c hr).1;omega)
     rcases rh hb h with⟨t,cs,cs',g1,g2,rfl⟩|⟨x0,g1,g2,g3⟩
     ·obtain⟨hln,hxl⟩:=ti hol g1
      have e1:=e2r0 (none_of hnm hln)
      obtain⟨b,c,arr,k1,k2,k3,k4⟩:=hR.obs l _ g1
      refine⟨b,c,arr,by rw[e1];exact k1,(hno b c k1).trans k2,?_,hFn b c k1 k4⟩
      have key:∀(cs cs':List C) (us:List Value),cs.all (C.lt nx)=true→mq (kvC (inv m)) cs=some cs'→CV E w cs us→CV E2 w' cs' us:=by
       intro cs
       induction cs with
       |nil=>intro cs' us _ h hc;simp[mq] at h;subst h;cases us with
        |nil=>trivial
        |cons _ _=>exact hc.elim
       |cons c cs ih=>
        intro cs' us hl h hc
        simp only[TF,hV] at hl
        cases us with
        |nil=>exact hc.elim
        |cons u us=>
         simp only[mq] at h
         split at h
         ·rename_i h1 h2;simp at h;subst h;exact⟨hkv _ _ _ hl.1 h1 hc.1,ih _ _ hl.2 h2 hc.2⟩
         ·cases h
      exact key _ _ _ hxl g2 k3
     ·cases g3
      obtain⟨hln,hxl⟩:=ti hol g1
      have e1:=e2r0 (none_of hnm hln)
      have e3:=e2n0 (none_of hnm hln)
      have hx0:=hR.obs l _ g1
      cases y with
      |var t cs=>exact absurd rfl (g2 t cs)
      |row t sz els g mm=>
       obtain⟨b,c,arr,k1,k2,k3,k4,k5,k6,k7,k8,k9⟩:=hx0
       exact⟨b,c,arr,by rw[e1];exact k1,(hno b c k1).trans k2,k3,k4,k5,k6,cm (hHh g) (hHm g) (hno b c k1) _ _ k7,fun hm=>hFn b c k1 (k8 hm),fun hm=>⟨hHm false b (k9 hm).1,fun hg=>hHm true b ((k9 hm).2 hg)⟩⟩
      |rown t sz els g=>
       rcases hx0 with⟨k1,k2⟩|⟨k0,b,c,arr,k1,k2,k3,k4,k5,k6,k7,k8⟩
       ·exact .inl ⟨e3.2 k1,k2⟩
       ·exact .inr ⟨fun h=>k0 (e3.1 h),b,c,arr,by rw[e1];exact k1,(hno b c k1).trans k2,k3,k4,k5,k6,cm (hHh g) (hHm g) (hno b c k1) _ _ k7,hFn b c k1 k8⟩
      |abs j z=>
       rcases hx0 with⟨k1,k2⟩|⟨k0,b,c,k1,k2,k3⟩
       ·exact .inl ⟨e3.2 k1,k2⟩
       ·exact .inr ⟨fun h=>k0 (e3.1 h),b,c,by rw[e1];exact k1,z.st _ _ _ _ _ _ k2 (fun k hk=>hk) (hno b c k1) (fun k hk=>hTh j k hk),hFn b c k1 k3⟩
 ·rw[fO (by rw[hR.size];exact cK hN)]
  by_cases hdk:d=k
  ·subst hdk;rw[dL,if_pos rfl];exact wP hrl ho hv
  ·rw[cR _ _ hdk,if_neg hdk]
   rw[←JY hsl] at hs
   refine wN (fun c c' u h hc=>?_) hs (hR.sl k)
   unfold ltF at h
   cases hl:c.lt nx with
   |true=>rw[hl] at h;exact hkv c c' u hl h hc
   |false=>rw[hl] at h;cases h;trivial
theorem cwv {P:Program} {N:Nat} {d:Tmp} {ty:TypeId} {ps:String} {af:Array Edge} {gd:Option (Nat×Bool)} {f:FuncId} {args:List Operand} {tys:Array TypeId} {sl sl':List (Nat×T)} {ob ob' ob1 ob2:List (Nat×Ob)} {nx:Nat} {ts ts':List T} {xs ys ys' nw nw':List (Nat×Ob)} {out out':T} (m nl:List (Nat×Nat)) (n:Nat)
 (hF:FnV P f xs ts' ys out nw) (ht:yc sl args=some ts:=by exact rfl) (ha:rY (agC false ob (inv m)) ts=some ts':=by exact rfl) (hx:wW (inv m) ob m=some xs:=by exact rfl) (hm:mOK m nl nx n ys=true:=by exact rfl) (hs:ya (kvC (inv m)) sl=some sl':=by exact rfl) (hb:vC (kvC (inv m)) (fun _ x=>some x) ob=some ob':=by exact rfl)
 (hy:sb (m++nl) ys=some ys':=by exact rfl) (hw:sb (m++nl) nw=some nw':=by exact rfl) (ho:wO (rlC (m++nl)) out=some out':=by exact rfl) (hsl:CA nx sl=true:=by exact rfl) (hol:yM nx ob=true:=by exact rfl) (hN:nlt d N=true:=by exact rfl) (h1:apO ys' ob'=some ob1:=by exact rfl) (h2:apO nw' ob1=some ob2:=by exact rfl):
 AWO P N ⟨some d,.call ⟨.value (.func f),args.toArray,tys⟩,ty,ps,af,gd⟩ ⟨sl,ob,nx⟩ ⟨(d,out')::sl',ob2,n⟩:=by
 rw[sJ h2,sJ h1]
 exact Kd hF ht ha hx hm hs hb hy hw ho hsl hol hN
theorem cwu {P:Program} {N:Nat} {d:Tmp} {ty:TypeId} {ps:String} {af:Array Edge} {gd:Option (Nat×Bool)} {f:FuncId} {args:List Operand} {tys:Array TypeId} {sl sl':List (Nat×T)} {ob ob' ob1 ob2:List (Nat×Ob)} {nx:Nat} {ts ts':List T} {xs ys ys' nw nw':List (Nat×Ob)} {out out':T} (m nl:List (Nat×Nat)) (n:Nat)
 (hF:FnV P f xs ts' ys out nw) (ht:yc sl args=some ts:=by exact rfl) (ha:rY (agC true ob (inv m)) ts=some ts':=by exact rfl) (hx:wW (inv m) ob m=some xs:=by exact rfl) (hm:mOK m nl nx n ys=true:=by exact rfl) (hs:ya (kvC (inv m)) sl=some sl':=by exact rfl) (hb:vC (kvC (inv m)) (fun _ x=>some x) ob=some ob':=by exact rfl)
 (hy:sb (m++nl) ys=some ys':=by exact rfl) (hw:sb (m++nl) nw=some nw':=by exact rfl) (ho:wO (rlC (m++nl)) out=some out':=by exact rfl) (hsl:CA nx sl=true:=by exact rfl) (hol:yM nx ob=true:=by exact rfl) (hN:nlt d N=true:=by exact rfl) (h1:apO ys' ob'=some ob1:=by exact rfl) (h2:apO nw' ob1=some ob2:=by exact rfl):
 AWO P N ⟨some d,.call ⟨.value (.func f),args.toArray,tys⟩,ty,ps,af,gd⟩ ⟨sl,ob,nx⟩ ⟨(d,out')::sl',ob2,n⟩:=by
 rw[sJ h2,sJ h1]
 exact Kd hF ht ha hx hm hs hb hy hw ho hsl hol hN
end Go.AM
namespace Go.AM
open Go.RowKit
section
variable {P:Program} {d:Option Tmp} {ty:TypeId} {ps:String} {af:Array Edge} {gd:Option (Nat×Bool)} {x y z:Operand}
theorem Ds {E:Env} {w:World} {o b k l h c sz n:Nat} (hr:E.r o=some (b,k)) (h1:l≤h) (h2:h≤n) (hlc:n≤c):cvC E w (.s o sz l (h-l)) (sliced (some ⟨b,0,none⟩) l h c sz):=by
 refine⟨_,_,b,k,hr,rfl,by omega,?_⟩
 by_cases hlh:h=l
 ·left;omega
 ·right
  rw[if_neg (by omega)]
  simp[Addr.add]
  try exact fun h=>h.symm
theorem Ip {t e sz by_:Nat} {g2:Bool} {o n:Nat} {els:List (List D)} {g m:Bool} {rt:TypeId} {h:Int} {hi:Operand} [ht:TySl P t e sz by_] (hn:els.length=n) (h0:0≤h) (h2:h≤n):
 AWN P ⟨d,.slice t x none (some hi) none,ty,ps,af,gd⟩ [(x,.v (.c (.w o n))),(hi,.v (.c (.d g2 (.i .i64 h))))] [(o,.row rt sz els g m)] (.v (.c (.s o sz 0 h.toNat))) []:=
 b7 fun E ac w hne hob=>by
  have k1:=hne x _ (.head _)
  have k3:=gB (hne hi _ (.tail _ (.head _)))
  obtain⟨b,c,hr,hu⟩:=k1
  obtain⟨b',c',arr,hr',_,_,hlc,_⟩:=hob o _ (.head _)
  rw[hr] at hr';cases hr'
  obtain⟨i,z,hi1,hi2,_⟩:=ht.i
  obtain⟨he,hu'⟩:=wv ht.u
  refine⟨sliced (some ⟨b,0,none⟩) 0 h.toNat c sz,?_,Ds (w:=w) (n:=n) hr (Ud _) (by omega) (by omega)⟩
  simp[execOp,hu,k3,run_sliceAt_slice w t _ _ _ _ hu',run_slice_h w t (some ⟨b,0,none⟩) n c hu' .i64 h h0 (by omega),he,ez hi1,hi2]
theorem Iq {t e sz by_:Nat} {g2:Bool} {o n:Nat} {els:List (List D)} {g m:Bool} {rt:TypeId} {l:Int} {lo:Operand} [ht:TySl P t e sz by_] (hn:els.length=n) (h0:0≤l) (h2:l≤n):
 AWN P ⟨d,.slice t x (some lo) none none,ty,ps,af,gd⟩ [(x,.v (.c (.w o n))),(lo,.v (.c (.d g2 (.i .i64 l))))] [(o,.row rt sz els g m)] (.v (.c (.s o sz l.toNat (n-l.toNat)))) []:=
 b7 fun E ac w hne hob=>by
  have k1:=hne x _ (.head _)
  have k3:=gB (hne lo _ (.tail _ (.head _)))
  obtain⟨b,c,hr,hu⟩:=k1
  obtain⟨b',c',arr,hr',_,_,hlc,_⟩:=hob o _ (.head _)
  rw[hr] at hr';cases hr'
  obtain⟨i,z,hi1,hi2,_⟩:=ht.i
  obtain⟨he,hu'⟩:=wv ht.u
  refine⟨sliced (some ⟨b,0,none⟩) l.toNat n c sz,?_,Ds (w:=w) (n:=n) hr (by omega) (Tt _) (by omega)⟩
  simp[execOp,hu,k3,run_sliceAt_slice w t _ _ _ _ hu',run_slice_l w t (some ⟨b,0,none⟩) n c hu' .i64 l h0 (by omega),he,ez hi1,hi2]
theorem Il {t:TypeId} {e sz by_:Nat} {g:Bool} {kd:IntKind} {o n:Nat} {i:Int} [ht:TySl P t e sz by_] (h0:0≤i) (h1:i<n):
 AWN P ⟨d,.indexAddr t x y,ty,ps,af,gd⟩ [(x,.v (.c (.wn o n))),(y,.v (.c (.d g (.i kd i))))] [] (.v (.c (.e o sz i.toNat 0))) []:=by
 intro cx E a w ok hn hb hf
 have h2:cvT E w (.v (.c (.w o n))) (a.eval x):=by
  rcases hn x _ (.head _) with⟨_,h,_⟩|⟨_,h⟩
  ·omega
  ·exact h
 exact CZ (P:=P) (d:=d) (ty:=ty) (ps:=ps) (af:=af) (gd:=gd) (g:=g) (kd:=kd) (t:=t) h0 h1 cx E a w ok (fun z u hm=>by
  simp at hm
  rcases hm with⟨rfl,rfl⟩|⟨rfl,rfl⟩
  ·exact h2
  ·exact hn _ _ (.tail _ (.head _))) (fun _ _ h=>by cases h) hf
theorem yO {E:Env} {w:World} {o:Nat} {rt:TypeId} {sz i:Nat} {els:List (List D)} {g:Bool} {el:List D} (he:els[i]?=some el) (h:cy E w o (.rown rt sz els g)):cy E w o (.row rt sz els g true):=by
 rcases h with⟨_,h⟩|⟨_,b,c,arr,k1,k2,k3,k4,k5,k6,k7,k8⟩
 ·subst h;simp at he
 ·exact⟨b,c,arr,k1,k2,k3,k4,k5,k6,k7,fun _=>k8,fun h=>by cases h⟩
theorem Lx {t:TypeId} {o sz i j:Nat} {rt:TypeId} {els:List (List D)} {g:Bool} {el:List D} {c:C} [ht:TySc P t] (he:els[i]?=some el) (hc:ld1 g j el=some c):
 AWN P ⟨d,.load t x,ty,ps,af,gd⟩ [(x,.v (.c (.e o sz i j)))] [(o,.rown rt sz els g)] (.v (.c c)) []:=by
 intro cx E a w ok hn hb hf
 exact C0 (P:=P) (m:=true) he hc cx E a w ok hn (fun l x h=>by simp at h;obtain⟨rfl,rfl⟩:=h;exact yO he (hb _ _ (.head _))) hf
theorem Cg {t:TypeId} {n:Nat} {o sz i j:Nat} {rt:TypeId} {els:List (List D)} {g:Bool} {el:List D} {cs:List C} [ht:TyAg P t n] (he:els[i]?=some el) (hj:Ek g j n el=some cs):
 AWN P ⟨d,.load t x,ty,ps,af,gd⟩ [(x,.v (.c (.e o sz i j)))] [(o,.rown rt sz els g)] (.v (.agg cs)) []:=by
 intro cx E a w ok hn hb hf
 exact u9 (P:=P) (m:=true) he hj cx E a w ok hn (fun l x h=>by simp at h;obtain⟨rfl,rfl⟩:=h;exact yO he (hb _ _ (.head _))) hf
end
section
variable {P:Program} {N:Nat} {d:Tmp} {ty:TypeId} {ps:String} {af:Array Edge} {gd:Option (Nat×Bool)} {x y z:Operand} {sl:List (Nat×T)} {ob:List (Nat×Ob)} {nx:Nat} {α:Type} {enc:α→List D}
theorem cwhT {t e sz by_:Nat} {g2:Bool} {o n:Nat} {ys:List α} {g m:Bool} {rt:TypeId} {h:Int} {hi:Operand} [ht:TySl P t e sz by_] (H:fL ys 0 h=true) (hn:ys.length=n) (hx:opT sl x= .v (.c (.w o n))) (ho:go ob o=some (.row rt sz (ys.map enc) g m)) (hh:opT sl hi= .v (.c (.d g2 (.i .i64 h)))) (hN:nlt d N=true):
 NS0 P N ⟨some d,.slice t x none (some hi) none,ty,ps,af,gd⟩ sl ob nx d (.v (.c (.s o sz 0 h.toNat))) ⟨d,[(x,.v (.c (.w o n))),(hi,.v (.c (.d g2 (.i .i64 h))))],[(o,.row rt sz (ys.map enc) g m)],.v (.c (.s o sz 0 h.toNat)),[]⟩:=by
 simp only[fL,decide_eq_true_eq] at H
 exact db (st:=⟨sl,ob,nx⟩) (Ip (by simpa using hn) H.2.1 (by omega)) rfl hN ⟨hx,hh,trivial⟩ ⟨ho,trivial⟩ rfl
theorem cwlT {t e sz by_:Nat} {g2:Bool} {o n:Nat} {ys:List α} {g m:Bool} {rt:TypeId} {l:Int} {lo:Operand} [ht:TySl P t e sz by_] (H:fL ys l ys.length=true) (hn:ys.length=n) (hx:opT sl x= .v (.c (.w o n))) (ho:go ob o=some (.row rt sz (ys.map enc) g m)) (hl:opT sl lo= .v (.c (.d g2 (.i .i64 l)))) (hN:nlt d N=true):
 NS0 P N ⟨some d,.slice t x (some lo) none none,ty,ps,af,gd⟩ sl ob nx d (.v (.c (.s o sz l.toNat (n-l.toNat)))) ⟨d,[(x,.v (.c (.w o n))),(lo,.v (.c (.d g2 (.i .i64 l))))],[(o,.row rt sz (ys.map enc) g m)],.v (.c (.s o sz l.toNat (n-l.toNat))),[]⟩:=by
 simp only[fL,decide_eq_true_eq] at H
 exact db (st:=⟨sl,ob,nx⟩) (Iq (by simpa using hn) H.1 (by omega)) rfl hN ⟨hx,hl,trivial⟩ ⟨ho,trivial⟩ rfl
theorem Rm {o sz:Nat} {t:TypeId} {ys:List α} {g m:Bool} {h:Int} (H:fL ys 0 h=true) (ho:go ob o=some (.row t sz (ys.map enc) g m)):Src ob (.s o sz 0 h.toNat) ((ys.take h.toNat).map enc) g:=by
 simp only[fL,decide_eq_true_eq] at H
 have:=Src.s (off:=0) (len:=h.toNat) ho (by simp;omega)
 rwa [List.drop_zero,←List.map_take] at this
theorem Rn {o sz n:Nat} {t:TypeId} {ys:List α} {g m:Bool} {l:Int} (H:fL ys l ys.length=true) (hn:ys.length=n) (ho:go ob o=some (.row t sz (ys.map enc) g m)):Src ob (.s o sz l.toNat (n-l.toNat)) ((ys.drop l.toNat).map enc) g:=by
 simp only[fL,decide_eq_true_eq] at H
 subst hn
 have:=Src.s (off:=l.toNat) (len:=ys.length-l.toNat) ho (by simp;omega)
 rwa [←List.map_drop,List.take_of_length_le (by simp)] at this
theorem mF {t:TypeId} {e sz by_:Nat} {g:Bool} {kd:IntKind} {o n:Nat} {i:Int} {ys:List α} {a:α} [TySl P t e sz by_] (H:ix ys i=some a) (hx:opT sl x= .v (.c (.wn o n)):=by exact rfl) (hy:opT sl y= .v (.c (.d g (.i kd i))):=by exact rfl) (hn:ys.length=n:=by first|rfl|simp) (hN:nlt d N=true:=by exact rfl):
 NS0 P N ⟨some d,.indexAddr t x y,ty,ps,af,gd⟩ sl ob nx d (.v (.c (.e o sz i.toNat 0))) ⟨d,[(x,.v (.c (.wn o n))),(y,.v (.c (.d g (.i kd i))))],[],.v (.c (.e o sz i.toNat 0)),[]⟩:=
 db (st:=⟨sl,ob,nx⟩) (Il (ixE H).1 (by have:=Nx H;omega)) rfl hN ⟨hx,hy,trivial⟩ trivial rfl
theorem oen {t:TypeId} {o sz i j:Nat} {rt:TypeId} {els:List (List D)} {g:Bool} {el:List D} {c:C} [TySc P t] (hx:opT sl x= .v (.c (.e o sz i j)):=by exact rfl) (ho:go ob o=some (.rown rt sz els g):=by exact rfl) (hN:nlt d N=true:=by exact rfl) (he:els[i]?=some el) (hc:ld1 g j el=some c:=by exact rfl):
 NS0 P N ⟨some d,.load t x,ty,ps,af,gd⟩ sl ob nx d (.v (.c c)) ⟨d,[(x,.v (.c (.e o sz i j)))],[(o,.rown rt sz els g)],.v (.c c),[]⟩:=db (st:=⟨sl,ob,nx⟩) (Lx he hc) rfl hN ⟨hx,trivial⟩ ⟨ho,trivial⟩ rfl
theorem ED {t:TypeId} {n:Nat} {o sz i j:Nat} {rt:TypeId} {els:List (List D)} {g:Bool} {el:List D} {cs:List C} [TyAg P t n] (hx:opT sl x= .v (.c (.e o sz i j)):=by exact rfl) (ho:go ob o=some (.rown rt sz els g):=by exact rfl) (hN:nlt d N=true:=by exact rfl) (he:els[i]?=some el) (hc:Ek g j n el=some cs:=by exact rfl):
 NS0 P N ⟨some d,.load t x,ty,ps,af,gd⟩ sl ob nx d (.v (.agg cs)) ⟨d,[(x,.v (.c (.e o sz i j)))],[(o,.rown rt sz els g)],.v (.agg cs),[]⟩:=db (st:=⟨sl,ob,nx⟩) (Cg he hc) rfl hN ⟨hx,trivial⟩ ⟨ho,trivial⟩ rfl
theorem tc {ys:List α} {i:Int} {a:α} (H:ix ys i=some a):ys.map enc≠[]:=by
 intro h
 have:=Nx H
 have h0:=(ixE H).1
 rw[List.map_eq_nil_iff] at h
 subst h
 simp at this;omega
end
theorem wnn {sl:List (Nat×T)} {k o n n':Nat} (h:gt sl k= .v (.c (.wn o n))) (hn:n=n'):gt sl k= .v (.c (.wn o n')):=hn▸h
def Nb (o:Nat) (x:D) (g:Bool) (k:Nat):C→Option (C×List (Nat×Nat))
 | .wn l n=>match d0 l o with
  |true=>some (.d g x,[(k,n)])
  |false=>some (.wn l n,[])
 |c=>some (c,[])
def CT (o:Nat) (x:D) (g:Bool) (k:Nat):List C→Option (List C×List (Nat×Nat))
 |[]=>some ([],[])
 |c::cs=>match Nb o x g k c,CT o x g k cs with
  |some (x,e),some (xs,es)=>some (x::xs,e++es)
  |_,_=>none
def Nf (o:Nat) (x:D) (g:Bool) (k:Nat):V→Option (V×List (Nat×Nat))
 | .c c=>match Nb o x g k c with
  |some (x,e)=>some (.c x,e)
  |none=>none
 | .agg cs=>match CT o x g k cs with
  |some (x,e)=>some (.agg x,e)
  |none=>none
def Gi (o:Nat) (x:D) (g:Bool) (k:Nat):List V→Option (List V×List (Nat×Nat))
 |[]=>some ([],[])
 |c::cs=>match Nf o x g k c,Gi o x g k cs with
  |some (x,e),some (xs,es)=>some (x::xs,e++es)
  |_,_=>none
def Nd (o:Nat) (x:D) (g:Bool) (k:Nat):T→Option (T×List (Nat×Nat))
 | .v v=>match Nf o x g k v with
  |some (x,e)=>some (.v x,e)
  |none=>none
 | .tup vs=>match Gi o x g k vs with
  |some (x,e)=>some (.tup x,e)
  |none=>none
 | .any=>some (.any,[])
def Nc (o:Nat) (x:D) (g:Bool) (k:Nat):List (Nat×T)→Option (List (Nat×T)×List (Nat×Nat))
 |[]=>some ([],[])
 |(j,t)::r=>match Nd o x g k t,Nc o x g k r with
  |some (x,e),some (xs,es)=>some ((j,x)::xs,e++es)
  |_,_=>none
def sX (o:Nat) (x:D) (g:Bool) (k:Nat):List (Nat×Ob)→Option (List (Nat×Ob)×List (Nat×Nat))
 |[]=>some ([],[])
 |(j,.var t cs)::r=>match d0 j o with
  |true=>none
  |false=>match CT o x g k cs,sX o x g k r with
   |some (x,e),some (xs,es)=>some ((j,.var t x)::xs,e++es)
   |_,_=>none
 |(j,.row t sz els gg m)::r=>match sX o x g k r with
  |some (xs,es)=>match d0 j o with
   |true=>some (xs,es)
   |false=>some ((j,.row t sz els gg m)::xs,es)
  |none=>none
 |(j,.rown t sz els gg)::r=>match sX o x g k r with
  |some (xs,es)=>match d0 j o with
   |true=>some (xs,es)
   |false=>some ((j,.rown t sz els gg)::xs,es)
  |none=>none
 |(j,.abs i y)::r=>match sX o x g k r with
  |some (xs,es)=>match d0 j o with
   |true=>some (xs,es)
   |false=>some ((j,.abs i y)::xs,es)
  |none=>none
section
variable {E E':Env} {w:World} {o k:Nat} {x:D} {g:Bool} (hd:∀u,cvC E w (.wn o k) u→cvC E' w (.d g x) u) (hk:iq E w E' w)
include hd hk
theorem JF {c c':C} {e:List (Nat×Nat)} {u:Value} (h:Nb o x g k c=some (c',e)) (he:Eqs e) (hc:cvC E w c u):cvC E' w c' u:=by
 cases c with
 |wn l n=>
  simp only[Nb] at h
  split at h
  ·rename_i hb
   have:=To hb
   subst this
   simp at h;obtain⟨rfl,rfl⟩:=h
   have hn:k=n:=he.1
   subst hn
   exact hd u hc
  ·simp at h;obtain⟨rfl,rfl⟩:=h;exact qg hk hc
 |_=>simp only[Nb,Option.some.injEq,Prod.mk.injEq] at h;obtain⟨rfl,rfl⟩:=h;exact qg hk hc
theorem AB:∀{cs cs':List C} {e:List (Nat×Nat)} {us:List Value},CT o x g k cs=some (cs',e)→Eqs e→CV E w cs us→CV E' w cs' us
 |[],cs',e,us,h,_,hc=>by
  simp[CT] at h;obtain⟨rfl,rfl⟩:=h
  cases us with
  |nil=>trivial
  |cons _ _=>exact hc.elim
 |c::cs,cs',e,us,h,he,hc=>by
  cases us with
  |nil=>exact hc.elim
  |cons u us=>
   simp only[CT] at h
   split at h
   ·rename_i h1 h2
    simp at h;obtain⟨rfl,rfl⟩:=h
    obtain⟨k1,k2⟩:=ea he
    exact⟨JF hd hk h1 k1 hc.1,AB h2 k2 hc.2⟩
   ·cases h
theorem JG {v v':V} {e:List (Nat×Nat)} {u:Value} (h:Nf o x g k v=some (v',e)) (he:Eqs e) (hv:cvV E w v u):cvV E' w v' u:=by
 cases v with
 |c c=>
  simp only[Nf] at h
  split at h
  ·rename_i h1;simp at h;obtain⟨rfl,rfl⟩:=h;exact JF hd hk h1 he hv
  ·cases h
 |agg cs=>
  simp only[Nf] at h
  split at h
  ·rename_i h1;simp at h;obtain⟨rfl,rfl⟩:=h;obtain⟨arr,hu,hc⟩:=hv;exact⟨arr,hu,AB hd hk h1 he hc⟩
  ·cases h
theorem Gj:∀{cs cs':List V} {e:List (Nat×Nat)} {us:List Value},Gi o x g k cs=some (cs',e)→Eqs e→VV E w cs us→VV E' w cs' us
 |[],cs',e,us,h,_,hc=>by
  simp[Gi] at h;obtain⟨rfl,rfl⟩:=h
  cases us with
  |nil=>trivial
  |cons _ _=>exact hc.elim
 |c::cs,cs',e,us,h,he,hc=>by
  cases us with
  |nil=>exact hc.elim
  |cons u us=>
   simp only[Gi] at h
   split at h
   ·rename_i h1 h2
    simp at h;obtain⟨rfl,rfl⟩:=h
    obtain⟨k1,k2⟩:=ea he
    exact⟨JG hd hk h1 k1 hc.1,Gj h2 k2 hc.2⟩
   ·cases h
theorem PY {v v':T} {e:List (Nat×Nat)} {u:Value} (h:Nd o x g k v=some (v',e)) (he:Eqs e) (hv:cvT E w v u):cvT E' w v' u:=by
 cases v with
 |v v=>
  simp only[Nd] at h
  split at h
  ·rename_i h1;simp at h;obtain⟨rfl,rfl⟩:=h;exact JG hd hk h1 he hv
  ·cases h
 |tup vs=>
  simp only[Nd] at h
  split at h
  ·rename_i h1;simp at h;obtain⟨rfl,rfl⟩:=h;obtain⟨arr,hu,hc⟩:=hv;exact⟨arr,hu,Gj hd hk h1 he hc⟩
  ·cases h
 |any=>simp[Nd] at h;obtain⟨rfl,rfl⟩:=h;trivial
theorem Eb {j:Nat} {u:Value}:∀{sl sl':List (Nat×T)} {e:List (Nat×Nat)},Nc o x g k sl=some (sl',e)→Eqs e→cvT E w (gt sl j) u→cvT E' w (gt sl' j) u
 |[],sl',e,h,_,_=>by simp[Nc] at h;obtain⟨rfl,rfl⟩:=h;trivial
 |(i,t)::r,sl',e,h,he,hc=>by
  simp only[Nc] at h
  split at h
  ·rename_i h1 h2
   simp at h;obtain⟨rfl,rfl⟩:=h
   obtain⟨k1,k2⟩:=ea he
   by_cases hj:i=j
   ·subst hj;rw[dL] at hc ⊢;exact PY hd hk h1 k1 hc
   ·rw[cR _ _ hj] at hc ⊢;exact Eb h2 k2 hc
  ·cases h
theorem ni {l:Nat} {y:Ob} (hlo:l≠o) (hF:∀b c,E.r l=some (b,c)→¬E.F b→¬E'.F b):∀{ob ob':List (Nat×Ob)} {e:List (Nat×Nat)},sX o x g k ob=some (ob',e)→Eqs e→go ob' l=some y→(∀y,go ob l=some y→cy E w l y)→cy E' w l y
 |[],ob',e,h,_,hy,_=>by simp[sX] at h;obtain⟨rfl,rfl⟩:=h;cases hy
 |(i,.var t cs)::r,ob',e,h,he,hy,hb=>by
  simp only[sX] at h
  split at h
  ·cases h
  ·split at h
   ·rename_i a1 a2
    simp at h;obtain⟨rfl,rfl⟩:=h
    obtain⟨k1,k2⟩:=ea he
    by_cases hi:i=l
    ·subst hi
     rw[cg] at hy;cases hy
     obtain⟨b,c,arr,q1,q2,q3,q4⟩:=hb _ (cg _ _ _)
     exact⟨b,c,arr,hk.r _ _ q1,q2,AB hd hk a1 k1 q3,hF b c q1 q4⟩
    ·rw[bA _ _ hi] at hy
     exact ni hlo hF a2 k2 hy (fun y hy=>hb y (by rw[bA _ _ hi];exact hy))
   ·cases h
 |(i,.row t sz els gg m)::r,ob',e,h,he,hy,hb=>by
  simp only[sX] at h
  split at h
  ·rename_i a2
   split at h
   ·rename_i hb2
    simp at h;obtain⟨rfl,rfl⟩:=h
    have hio:=To hb2
    exact ni hlo hF a2 he hy (fun y hy=>hb y (by rw[bA _ _ (fun e=>hlo (e.symm.trans hio))];exact hy))
   ·simp at h;obtain⟨rfl,rfl⟩:=h
    by_cases hi:i=l
    ·subst hi
     rw[cg] at hy;cases hy
     exact fg hk (fun _ _ _=>rfl) (fun b c hr=>hF b c hr) (hb _ (cg _ _ _))
    ·rw[bA _ _ hi] at hy
     exact ni hlo hF a2 he hy (fun y hy=>hb y (by rw[bA _ _ hi];exact hy))
  ·cases h
 |(i,.rown t sz els gg)::r,ob',e,h,he,hy,hb=>by
  simp only[sX] at h
  split at h
  ·rename_i a2
   split at h
   ·rename_i hb2
    simp at h;obtain⟨rfl,rfl⟩:=h
    have hio:=To hb2
    exact ni hlo hF a2 he hy (fun y hy=>hb y (by rw[bA _ _ (fun e=>hlo (e.symm.trans hio))];exact hy))
   ·simp at h;obtain⟨rfl,rfl⟩:=h
    by_cases hi:i=l
    ·subst hi
     rw[cg] at hy;cases hy
     exact fg hk (fun _ _ _=>rfl) (fun b c hr=>hF b c hr) (hb _ (cg _ _ _))
    ·rw[bA _ _ hi] at hy
     exact ni hlo hF a2 he hy (fun y hy=>hb y (by rw[bA _ _ hi];exact hy))
  ·cases h
 |(i,.abs _ _)::r,ob',e,h,he,hy,hb=>by
  simp only[sX] at h
  split at h
  ·rename_i a2
   split at h
   ·rename_i hb2
    simp at h;obtain⟨rfl,rfl⟩:=h
    have hio:=To hb2
    exact ni hlo hF a2 he hy (fun y hy=>hb y (by rw[bA _ _ (fun e=>hlo (e.symm.trans hio))];exact hy))
   ·simp at h;obtain⟨rfl,rfl⟩:=h
    by_cases hi:i=l
    ·subst hi
     rw[cg] at hy;cases hy
     exact fg hk (fun _ _ _=>rfl) (fun b c hr=>hF b c hr) (hb _ (cg _ _ _))
    ·rw[bA _ _ hi] at hy
     exact ni hlo hF a2 he hy (fun y hy=>hb y (by rw[bA _ _ hi];exact hy))
  ·cases h
end
theorem iX {o k:Nat} {x:D} {g:Bool}:∀{ob ob':List (Nat×Ob)} {e:List (Nat×Nat)},sX o x g k ob=some (ob',e)→go ob' o=none
 |[],ob',e,h=>by simp[sX] at h;obtain⟨rfl,rfl⟩:=h;rfl
 |(i,.var t cs)::r,ob',e,h=>by
  simp only[sX] at h
  split at h
  ·cases h
  ·rename_i hb
   split at h
   ·rename_i a1 a2
    simp at h;obtain⟨rfl,rfl⟩:=h
    rw[bA _ _ (gq hb)];exact iX a2
   ·cases h
 |(i,.row t sz els gg m)::r,ob',e,h=>by
  simp only[sX] at h
  split at h
  ·rename_i a2
   split at h
   ·simp at h;obtain⟨rfl,rfl⟩:=h;exact iX a2
   ·rename_i hb
    simp at h;obtain⟨rfl,rfl⟩:=h
    rw[bA _ _ (gq hb)];exact iX a2
  ·cases h
 |(i,.rown t sz els gg)::r,ob',e,h=>by
  simp only[sX] at h
  split at h
  ·rename_i a2
   split at h
   ·simp at h;obtain⟨rfl,rfl⟩:=h;exact iX a2
   ·rename_i hb
    simp at h;obtain⟨rfl,rfl⟩:=h
    rw[bA _ _ (gq hb)];exact iX a2
  ·cases h
 |(i,.abs _ _)::r,ob',e,h=>by
  simp only[sX] at h
  split at h
  ·rename_i a2
   split at h
   ·simp at h;obtain⟨rfl,rfl⟩:=h;exact iX a2
   ·rename_i hb
    simp at h;obtain⟨rfl,rfl⟩:=h
    rw[bA _ _ (gq hb)];exact iX a2
  ·cases h
theorem eo {N nx ty sz:Nat} {sl sl':List (Nat×T)} {ob ob':List (Nat×Ob)} {els:List (List D)} {g:Bool} {e1 e2:List (Nat×Nat)} (o:Nat) (hrv:rsv o=false:=by exact rfl) (ho:go ob o=some (.rown ty sz els g):=by exact rfl) (hs:Nc o (.l els) g els.length sl=some (sl',e1):=by exact rfl) (hb:sX o (.l els) g els.length ob=some (ob',e2):=by exact rfl) (h1:Eqs e1:=by repeat (first|exact trivial|refine⟨by first|rfl|simp,?_⟩)) (h2:Eqs e2:=by repeat (first|exact trivial|refine⟨by first|rfl|simp,?_⟩)):
 cZ N ⟨sl,ob,nx⟩ ⟨sl',ob',nx⟩:=by
 intro cx E a w hR
 rcases hR.obs o _ ho with⟨hE,hels⟩|⟨hE,b,c,arr,hr,hh,ha,hlc,hmx,hes,hrd,hF⟩
 ·have hk:iq E w E w:=⟨fun _ _ h=>h,fun _ _ h=>h,fun _ _ _=>rfl,fun _ _ h=>⟨h,rfl⟩,fun _ h=>⟨h,.refl _ _⟩,rfl⟩
  have hd:∀u,cvC E w (.wn o els.length) u→cvC E w (.d g (.l els)) u:=by
   intro u hu
   rcases hu with⟨_,_,rfl⟩|⟨hu,_⟩
   ·subst hels;show rdD _ _ _ _;rw[rdD];exact⟨none,0,rfl,Tt _,.inl rfl⟩
   ·exact absurd hE hu
  refine⟨E,hR.ok,hR.dom,fun l y hl=>?_,fun j=>Eb hd hk hs h1 (hR.sl j),hR.dfr,hR.size,hR.td⟩
  by_cases e:l=o
  ·subst e;rw[iX hb] at hl;cases hl
  ·exact ni hd hk e (fun _ _ _ h=>h) hb h2 hl (fun y hy=>hR.obs l y hy)
 ·obtain⟨hb1,hb2⟩:=hR.ok.rb o b c hr
  have hb3:cx.w0.heap.size≤b:=hb2.resolve_right (fun h=>by rw[hrv] at h;cases h.2)
  let E':Env:=⟨E.r,fun k=>E.F k∨k=b,fun k=>E.G k∨(g=true∧k=b),E.T,E.Z,E.n⟩
  have hH:∀g' k,E.H g' k→E'.H g' k:=fun g' k hk=>by cases g'<;>exact .inl hk
  have hk:iq E w E' w:=⟨fun _ _ h=>h,hH,fun _ _ _=>rfl,fun _ _ h=>⟨h,rfl⟩,fun _ h=>⟨h,.refl _ _⟩,rfl⟩
  have hd:∀u,cvC E w (.wn o els.length) u→cvC E' w (.d g (.l els)) u:=by
   intro u hu
   rcases hu with⟨hu,_⟩|⟨_,b',c',hr',rfl⟩
   ·exact absurd hu hE
   ·rw[hr] at hr';cases hr'
    show rdD _ _ _ _
    rw[rdD]
    refine⟨_,_,rfl,hlc,.inr ⟨b,0,rfl,?_,cm (fun _ _=>rfl) (hH g) rfl _ _ hrd⟩⟩
    cases g
    ·exact .inr rfl
    ·exact .inr ⟨rfl,rfl⟩
  refine⟨E',⟨?_,?_,?_,hR.ok.rb,hR.ok.inj,hR.ok.os,hR.ok.tape,hR.ok.output,hR.ok.size,hR.ok.block,hR.ok.pin,fun k hk=>hk.elim (hR.ok.ff k) (fun e=>.inr (e▸hb3)),fun k hk hk'=>hk.elim (fun h=>hR.ok.gc k h hk') (fun e=>e▸.mk hh),
   ⟨fun l k h=>?_,hR.ok.sf.tt,fun k h=>?_,hR.ok.sf.zs,hR.ok.sf.ze⟩⟩,hR.dom,fun l y hl=>?_,fun j=>Eb hd hk hs h1 (hR.sl j),hR.dfr,hR.size,hR.td⟩
  ·rintro k (h|rfl)
   ·exact hR.ok.fb k h
   ·exact hb1
  ·rintro k (h|⟨_,rfl⟩)
   ·exact .inl (hR.ok.gf k h)
   ·exact .inr rfl
  ·rintro k (h|⟨_,rfl⟩)
   ·exact hR.ok.gn k h
   ·exact .inl hb3
  ·obtain⟨h1,h2,h3,h4⟩:=hR.ok.sf.tb l k h
   exact⟨h1,fun hk=>hk.elim h2 (fun e=>by subst e;exact h3 o c hr),h3,h4⟩
  ·obtain⟨h1,h2,h3,h4⟩:=hR.ok.sf.zc k h
   exact⟨h1,fun hk=>hk.elim h2 (fun e=>by subst e;exact h3 o c hr),h3,h4⟩
  ·by_cases e:l=o
   ·subst e;rw[iX hb] at hl;cases hl
   ·exact ni hd hk e (fun b' c' hr' hn hn'=>hn'.elim hn (fun h=>by subst h;exact e (hR.ok.inj _ _ _ _ _ hr' hr))) hb h2 hl (fun y hy=>hR.obs l y hy)
end Go.AM
namespace Go.AM
open Go.RowKit
def RC.frz:RC→RC
 | .own _ _ els _=>.d (.l els)
 |r=>r
def RV.frz:RV→RV
 | .c r=>.c r.frz
 | .agg rs=>.agg (rs.map RC.frz)
def RC.full:RC→Prop
 | .own _ _ els n=>els.length=n
 |_=>True
def If:List RC→Prop
 |[]=>True
 |r::rs=>r.full∧If rs
def RV.full:RV→Prop
 | .c r=>r.full
 | .agg rs=>If rs
def Ea:List RV→Prop
 |[]=>True
 |r::rs=>r.full∧Ea rs
section
variable {w:World} {G G2:Nat→Prop} {base:Nat}
theorem Of (hG:∀b,G b→G2 b) {r:RC} {u:Value} {bs:List (Nat×Nat)} (h:rcR w G base r u bs) (hf:r.full) (hb:∀p∈bs,G2 p.1):
 rcR w G2 base r.frz u []∧∀p∈bs,base≤p.1∧p.1<w.heap.size∧gA w p.1:=by
 cases r with
 |d x=>obtain⟨rfl,h⟩:=h;exact⟨⟨rfl,cj (fun _ _=>rfl) hG _ _ h⟩,by simp⟩
 |nil=>obtain⟨rfl,h⟩:=h;exact⟨⟨rfl,h⟩,by simp⟩
 |own ty sz els n=>
  obtain⟨b,c,arr,rfl,rfl,hh,h1,h2,h3,h4,h5,h6,h7⟩:=h
  have hf:els.length=n:=hf
  refine⟨⟨rfl,some ⟨b,0,none⟩,c,by rw[hf],h2,.inr ⟨b,0,rfl,hb _ (.head _),cm (fun _ _=>rfl) hG rfl _ _ h5⟩⟩,fun p hp=>?_⟩
  obtain rfl:=List.mem_singleton.1 hp
  exact⟨h7,P6 hh,.mk hh⟩
theorem Kq (hG:∀b,G b→G2 b):∀{rs:List RC} {us:List Value} {bs:List (Nat×Nat)},Cl w G base rs us bs→If rs→(∀p∈bs,G2 p.1)→
 Cl w G2 base (rs.map RC.frz) us []∧∀p∈bs,base≤p.1∧p.1<w.heap.size∧gA w p.1
 |[],[],bs,h,_,_=>by have h:bs=[]:=h;subst h;exact⟨rfl,by simp⟩
 |r::rs,u::us,bs,⟨b1,b2,e,h1,h2⟩,hf,hb=>by
  subst e
  obtain⟨k1,k2⟩:=Of hG h1 hf.1 (fun p hp=>hb p (by simp[hp]))
  obtain⟨k3,k4⟩:=Kq hG h2 hf.2 (fun p hp=>hb p (by simp[hp]))
  exact⟨⟨[],[],rfl,k1,k3⟩,fun p hp=>(TW.1 hp).elim (k2 p) (k4 p)⟩
 |[],_::_,_,h,_,_=>h.elim
 |_::_,[],_,h,_,_=>h.elim
theorem Oq (hG:∀b,G b→G2 b) {r:RV} {u:Value} {bs:List (Nat×Nat)} (h:rvR w G base r u bs) (hf:r.full) (hb:∀p∈bs,G2 p.1):
 rvR w G2 base r.frz u []∧∀p∈bs,base≤p.1∧p.1<w.heap.size∧gA w p.1:=by
 cases r with
 |c r=>exact Of hG h hf hb
 |agg rs=>
  obtain⟨arr,rfl,h⟩:=h
  obtain⟨k1,k2⟩:=Kq hG h hf hb
  exact⟨⟨arr,rfl,k1⟩,k2⟩
theorem EM (hG:∀b,G b→G2 b):∀{rs:List RV} {us:List Value} {bs:List (Nat×Nat)},zk w G base rs us bs→Ea rs→(∀p∈bs,G2 p.1)→
 zk w G2 base (rs.map RV.frz) us []∧∀p∈bs,base≤p.1∧p.1<w.heap.size∧gA w p.1
 |[],[],bs,h,_,_=>by have h:bs=[]:=h;subst h;exact⟨rfl,by simp⟩
 |r::rs,u::us,bs,⟨b1,b2,e,h1,h2⟩,hf,hb=>by
  subst e
  obtain⟨k1,k2⟩:=Oq hG h1 hf.1 (fun p hp=>hb p (by simp[hp]))
  obtain⟨k3,k4⟩:=EM hG h2 hf.2 (fun p hp=>hb p (by simp[hp]))
  exact⟨⟨[],[],rfl,k1,k3⟩,fun p hp=>(TW.1 hp).elim (k2 p) (k4 p)⟩
 |[],_::_,_,h,_,_=>h.elim
 |_::_,[],_,h,_,_=>h.elim
theorem QB (hG:∀b,G b→G2 b) {rs:List RV} {u:Value} {bs:List (Nat×Nat)} (h:vJ w G base rs u bs) (hf:Ea rs) (hb:∀p∈bs,G2 p.1):
 vJ w G2 base (rs.map RV.frz) u []∧∀p∈bs,base≤p.1∧p.1<w.heap.size∧gA w p.1:=by
 cases rs with
 |nil=>obtain⟨arr,hu,h⟩:=h;obtain⟨k1,k2⟩:=EM hG h hf hb;exact⟨⟨arr,hu,k1⟩,k2⟩
 |cons r rs=>
  cases rs with
  |nil=>exact Oq hG h hf.1 hb
  |cons r2 rs=>obtain⟨arr,hu,h⟩:=h;obtain⟨k1,k2⟩:=EM hG h hf hb;exact⟨⟨arr,hu,k1⟩,k2⟩
end
theorem Fn.frzs {P:Program} {f:FuncId} {args:List AV} {res:List RV} (h:Fn P f args res) (hf:Ea res):Fn P f args (res.map RV.frz):=by
 refine⟨h.enters,fun F w vals hF ht hA=>(h.calls F w vals hF ht hA).mono ?_⟩
 rintro e w' ⟨v,G,bs,he,hp,hG,hr,_⟩
 obtain⟨k1,k2⟩:=QB (G2:=fun b=>G b∨∃p∈bs,p.1=b) (fun b h=>.inl h) hr hf (fun p hp=>.inr ⟨p,hp,rfl⟩)
 refine⟨v,_,[],he,hp,?_,k1,by simp⟩
 rintro b (hb|⟨p,hm,rfl⟩)
 ·exact hG b hb
 ·exact k2 p hm
theorem Pw {P:Program} {o:Oper} {needs:List (Operand×T)} {nob:List (Nat×Ob)} {q n e sz:Nat} {els:List (List D)} {g:Bool} {k:Nat} (hn:els.length=n)
 (h:AWK P o needs nob (.v (.c (.w q n))) [(q,.row e sz els g true)] [] (some k)):AWK P o needs nob (.v (.c (.d g (.l els)))) [(q,.row e sz els g false)] [] (some k):=by
 intro cx E a w ok hne hnob hfr
 obtain⟨hq1,hq2⟩:=hfr q _ (.head _)
 refine Oper.wp_mono ?_ (h cx E a w ok hne hnob (fun l x hm=>by simp at hm;obtain⟨rfl,_⟩:=hm;exact⟨hq1,hq2⟩))
 rintro a' w' ⟨v,E',k1,ok',k3,⟨b,c,hr,hv⟩,k5,k6,k7⟩
 obtain⟨b',c',arr,hr',hh,ha,hlc,hmx,hes,hrd,hFm,_⟩:=k5 q _ (.head _)
 rw[hr] at hr';cases hr'
 have hF:=hFm rfl
 obtain⟨hb1,hb2⟩:=ok'.rb q b c hr
 have hb3:cx.w0.heap.size≤b:=by
  rcases hb2 with h|h
  ·exact h
  ·rw[hq2] at h;cases h.2
 let E2:Env:=⟨E'.r,fun j=>E'.F j∨j=b,fun j=>E'.G j∨(g=true∧j=b),E'.T,E'.Z,E'.n⟩
 have hH:∀g' j,E'.H g' j→E2.H g' j:=fun g' j hj=>by cases g'<;>exact .inl hj
 have hold:∀l c',k≠l→E.r l≠some (b,c'):=fun l c' hkl hl=>by
  have h1:=k3.r l _ (by simpa using hkl) hl
  have:=ok'.inj _ _ _ _ _ h1 hr
  subst this
  rw[hq1] at hl;cases hl
 refine⟨v,E2,k1,⟨?_,?_,?_,ok'.rb,ok'.inj,ok'.os,ok'.tape,ok'.output,ok'.size,ok'.block,ok'.pin,fun j hj=>hj.elim (ok'.ff j) (fun e=>.inr (e▸hb3)),fun j hj hj'=>hj.elim (fun h=>ok'.gc j h hj') (fun e=>e▸.mk hh),
  ⟨fun l j h=>?_,ok'.sf.tt,fun j h=>?_,ok'.sf.zs,ok'.sf.ze⟩⟩,⟨k3.r,fun j hj=>.inl (k3.F j hj),fun j hj=>.inl (k3.G j hj),?_,k3.heap,k3.own,k3.ownk,k3.T,k3.Z,k3.n⟩,?_,fun l x hm=>?_,(fun _ _ h=>by cases h),fun l x hl=>?_⟩
 ·rintro j (h|rfl)
  ·exact ok'.fb j h
  ·exact hb1
 ·rintro j (h|⟨_,rfl⟩)
  ·exact .inl (ok'.gf j h)
  ·exact .inr rfl
 ·rintro j (h|⟨_,rfl⟩)
  ·exact ok'.gn j h
  ·exact .inl hb3
 ·obtain⟨h1,h2,h3,h4⟩:=ok'.sf.tb l j h
  exact⟨h1,fun hk=>hk.elim h2 (fun e=>by subst e;exact h3 q c hr),h3,h4⟩
 ·obtain⟨h1,h2,h3,h4⟩:=ok'.sf.zc j h
  exact⟨h1,fun hk=>hk.elim h2 (fun e=>by subst e;exact h3 q c hr),h3,h4⟩
 ·rintro j (h|rfl)
  ·exact k3.F' j h
  ·exact .inr (.inr (fun l c' hkl=>hold l c' (fun e=>hkl (by rw[e]))))
 ·refine⟨some ⟨b,0,none⟩,c,by rw[hv,hn],hlc,.inr ⟨b,0,rfl,?_,cm (fun _ _=>rfl) (hH g) rfl _ _ hrd⟩⟩
  cases g
  ·exact .inr rfl
  ·exact .inr ⟨rfl,rfl⟩
 ·simp at hm;obtain⟨rfl,rfl⟩:=hm
  exact⟨b,c,arr,hr,hh,ha,hlc,hmx,hes,cm (fun _ _=>rfl) (hH g) rfl _ _ hrd,(fun h=>by cases h),fun _=>⟨.inr rfl,fun hg=>.inr ⟨hg,rfl⟩⟩⟩
 ·rcases k7 l x hl with h|⟨ob,hm⟩
  ·exact .inl h
  ·simp at hm;obtain⟨rfl,_⟩:=hm;exact .inr ⟨_,.head _⟩
section
variable {P:Program} {N:Nat} {d:Tmp} {ty:TypeId} {ps:String} {af:Array Edge} {gd:Option (Nat×Bool)} {x y:Operand} {sl:List (Nat×T)} {ob:List (Nat×Ob)} {nx:Nat} {α:Type} {enc:α→List D}
theorem CF {t:TypeId} {e sz by_ o n nx':Nat} {ys zs:List α} {zd:List (List D)} {g gy:Bool} {c:C} {nob:List (Nat×Ob)} (ls:List Nat) [TySl P t e sz by_] (H:cM by_ (ys++zs).length=true) (hzd:zs.map enc=zd:=by exact rfl) (henc:∀a,(enc a).length=sz:=by exact fun _=>rfl) (hfl:∀a,rW (enc a)=true:=by exact fun _=>rfl)
 (hp:rZ ob ls=some nob:=by exact rfl) (hd:nlt d N=true:=by exact rfl) (hx:opT sl x= .v (.c (.w o n)):=by exact rfl) (hy:opT sl y= .v (.c c):=by exact rfl) (hn:ys.length=n:=by first|rfl|simp) (hs:Src nob c zd gy:=by first|exact .d|exact .nil|exact .w rfl (by first|rfl|exact lm _|simp)|exact .wn rfl (by first|rfl|exact lm _|simp)) (ho:go nob o=some (.row e sz (ys.map enc) g true):=by exact rfl) (hrv:rsv o=false:=by exact rfl) (hnx:nxt nx=some nx':=by exact rfl):
 NX P N ⟨some d,.call ⟨.builtin .append,#[x,y],#[t,t]⟩,ty,ps,af,gd⟩ ⟨sl,ob,nx⟩ ⟨(d,.v (.c (.d true (.l ((ys++zs).map enc)))))::sl,(nx,.row e sz ((ys++zs).map enc) true false)::ob,nx'⟩
  ⟨⟨d,[(x,.v (.c (.w o n))),(y,.v (.c c))],nob,.v (.c (.d true (.l ((ys++zs).map enc)))),[(nx,.row e sz ((ys++zs).map enc) true false)]⟩,[],some o⟩:=by
 obtain⟨h1,h2,h3,h4,h5,h6⟩:=B2 (P:=P) (N:=N) (t:=t) (x:=x) (y:=y) (enc:=enc) (d:=d) (ty:=ty) (ps:=ps) (af:=af) (gd:=gd) (sl:=sl) (ob:=ob) (nx:=nx) ls H hzd henc hfl hp hd hx hy hn hs ho hrv hnx
 exact⟨Pw (by simp) h1,.inl ⟨rfl,cK hd⟩,h3,h4,lH hnx,rfl⟩
end
theorem eP {N nx o j:Nat} {sl:List (Nat×T)} {ob:List (Nat×Ob)} {vt:TypeId} {cs cs':List C} (ho:go ob o=some (.var vt cs):=by exact rfl) (hj:LV j (.d true (.l [])) cs=some cs':=by exact rfl):cZ N ⟨sl,ob,nx⟩ ⟨sl,(o,.var vt cs')::ob,nx⟩:=by
 intro cx E a w hR
 refine⟨E,hR.ok,hR.dom,fun l x hl=>?_,hR.sl,hR.dfr,hR.size,hR.td⟩
 by_cases e:o=l
 ·subst e
  rw[cg] at hl;cases hl
  obtain⟨b,c,arr,h1,h2,h3,h4⟩:=hR.obs o _ ho
  exact⟨b,c,arr,h1,h2,EX (x:=.d true (.l [])) ⟨none,0,rfl,Tt _,.inl rfl⟩ hj h3 h3,h4⟩
 ·rw[bA _ _ e] at hl;exact hR.obs l x hl
section
variable {P:Program} {N:Nat} {ops:Array Oper} {p:Nat} {o:Oper} {l:List (Nat×Oper)} {dn seg:List Nat} {ys:List Inx} {base:St} {K:St→Prop}
theorem qT {ds:List Nat} {sl sl':List (Nat×T)} {ob ob':List (Nat×Ob)} {nx:Nat} {st0 st1 st2:St} (hs:xl ops dn seg ys=true) (hkl:kls ys=ds) (hA:AK ds sl ob=some (sl',ob')) (hb:FH ops (seg++dn) p=true)
 (hw:cZ N ⟨sl',ob',nx⟩ st0) (h:BO P N ops o st0 st1) (hw2:cZ N st1 st2) {dn':List Nat} (hlo:p::(seg++dn)=dn') (h':DZ P N ops l dn' [] [] st2 st2 K):DZ P N ops ((p,o)::l) dn seg ys base ⟨sl,ob,nx⟩ K:=by
 subst hlo
 exact .inr ⟨hs,hb,_,st0,st1,st2,Ah hkl hA,hw,h,hw2,h'⟩
end
end Go.AM
namespace Go.AM
open Go.RowKit
structure KG (q l:Nat) (E:Env) (w:World) (E':Env) (w':World):Prop where
 r:∀o x,o≠q→E.r o=some x→E'.r o=some x
 H:∀g b,E.H g b→E'.H g b
 heap:∀g b,E.H g b→w'.heap[b]?=w.heap[b]?
 T:∀k b,k≠l→E.T k b→E'.T k b∧w'.heap[b]?=w.heap[b]?
 Z:∀b,E.Z b→E'.Z b∧nW w w' b
 n:∀o,o≠q→(E'.n o↔E.n o)
section
variable {q l:Nat} {E E':Env} {w w':World}
theorem MG (x:KG q l E w E' w'):∀{c:C} {u:Value},c.has q=false→c.hasR l=false→cvC E w c u→cvC E' w' c u
 | .d g d,u,_,_,h=>cj (x.heap g) (x.H g) d u h
 | .w o n,u,ho,_,⟨b,c,h,hu⟩=>⟨b,c,x.r _ _ (gq ho) h,hu⟩
 | .s o sz off len,u,ho,_,⟨A,c,b,k,h,hu⟩=>⟨A,c,b,k,x.r _ _ (gq ho) h,hu⟩
 | .p o k,u,ho,_,⟨b,c,h,hu⟩=>⟨b,c,x.r _ _ (gq ho) h,hu⟩
 | .e o sz i j,u,ho,_,⟨b,c,h,hu⟩=>⟨b,c,x.r _ _ (gq ho) h,hu⟩
 | .q g y j,u,_,_,⟨b,k,hu,hb,h⟩=>⟨b,k,hu,x.H g b hb,rdL_mono (x.heap g) (x.H g) y b k hb h⟩
 | .fn f,u,_,_,h=>h
 | .nil,u,_,_,h=>h
 | .any,u,_,_,_=>trivial
 | .r k d,u,_,hl,h=>cj (fun b hb=>(x.T k b (gq hl) hb).2) (fun b hb=>(x.T k b (gq hl) hb).1) d u h
 | .z d,u,_,_,h=>qx (fun b hb=>(x.Z b hb).2) (fun b hb=>(x.Z b hb).1) d u h
 | .zq y j,u,_,_,⟨b,k,hu,hb,h⟩=>⟨b,k,hu,(x.Z b hb).1,rsL_mono (fun b hb=>(x.Z b hb).2) (fun b hb=>(x.Z b hb).1) y b k hb h⟩
 | .wn o n,u,ho,_,.inl ⟨h1,h2⟩=>.inl ⟨(x.n o (gq ho)).2 h1,h2⟩
 | .wn o n,u,ho,_,.inr ⟨h1,b,c,h,hu⟩=>.inr ⟨fun k=>h1 ((x.n o (gq ho)).1 k),b,c,x.r _ _ (gq ho) h,hu⟩
theorem Mb (x:KG q l E w E' w'):∀{cs:List C} {us:List Value},yG q cs=false→Gm l cs=false→CV E w cs us→CV E' w' cs us
 |[],[],_,_,_=>trivial
 |c::cs,u::us,h1,h2,h=>by
  simp only[yG,Gm,Ua] at h1 h2
  exact⟨MG x h1.1 h2.1 h.1,Mb x h1.2 h2.2 h.2⟩
 |[],_::_,_,_,h=>h.elim
 |_::_,[],_,_,h=>h.elim
theorem MJ (x:KG q l E w E' w') {v:V} {u:Value} (h1:v.has q=false) (h2:v.hasR l=false) (h:cvV E w v u):cvV E' w' v u:=by
 cases v with
 |c c=>exact MG x h1 h2 h
 |agg cs=>obtain⟨arr,hu,h⟩:=h;exact⟨arr,hu,Mb x h1 h2 h⟩
theorem Q4 (x:KG q l E w E' w'):∀{cs:List V} {us:List Value},CW q cs=false→Ed l cs=false→VV E w cs us→VV E' w' cs us
 |[],[],_,_,_=>trivial
 |c::cs,u::us,h1,h2,h=>by
  simp only[CW,Ed,Ua] at h1 h2
  exact⟨MJ x h1.1 h2.1 h.1,Q4 x h1.2 h2.2 h.2⟩
 |[],_::_,_,_,h=>h.elim
 |_::_,[],_,_,h=>h.elim
theorem Rz (x:KG q l E w E' w') {t:T} {u:Value} (h1:t.has q=false) (h2:t.hasR l=false) (h:cvT E w t u):cvT E' w' t u:=by
 cases t with
 |v v=>exact MJ x h1 h2 h
 |tup ts=>obtain⟨arr,hu,h⟩:=h;exact⟨arr,hu,Q4 x h1 h2 h⟩
 |any=>trivial
def Ob.hasR (l:Nat):Ob→Bool
 | .var _ cs=>Gm l cs
 | .abs j _=>d0 j l
 |_=>false
theorem Ok (x:KG q l E w E' w') {o:Nat} {ob:Ob} (ho:o≠q) (h1:ob.hasO q=false) (h2:ob.hasR l=false) (hb:∀b c,E.r o=some (b,c)→w'.heap[b]?=w.heap[b]?) (hF:∀b c,E.r o=some (b,c)→¬E.F b→¬E'.F b) (h:cy E w o ob):cy E' w' o ob:=by
 cases ob with
 |var ty cs=>
  obtain⟨b,c,arr,hr,hh',hc,hf⟩:=h
  exact⟨b,c,arr,x.r _ _ ho hr,(hb b c hr).trans hh',Mb x h1 h2 hc,hF b c hr hf⟩
 |row ty sz els g m=>
  obtain⟨b,c,arr,hr,hh',a1,a2,a3,a4,a5,a6,a7⟩:=h
  exact⟨b,c,arr,x.r _ _ ho hr,(hb b c hr).trans hh',a1,a2,a3,a4,cm (x.heap g) (x.H g) (hb b c hr) _ _ a5,fun hm=>hF b c hr (a6 hm),fun hm=>⟨x.H false b (a7 hm).1,fun hg=>x.H true b ((a7 hm).2 hg)⟩⟩
 |rown ty sz els g=>
  rcases h with⟨h0,h1⟩|⟨h0,b,c,arr,hr,hh',a1,a2,a3,a4,a5,a6⟩
  ·exact .inl ⟨(x.n o ho).2 h0,h1⟩
  ·exact .inr ⟨fun h=>h0 ((x.n o ho).1 h),b,c,arr,x.r _ _ ho hr,(hb b c hr).trans hh',a1,a2,a3,a4,cm (x.heap g) (x.H g) (hb b c hr) _ _ a5,hF b c hr a6⟩
 |abs j y=>
  rcases h with⟨h0,h1⟩|⟨h0,b,c,hr,a1,a2⟩
  ·exact .inl ⟨(x.n o ho).2 h0,h1⟩
  ·exact .inr ⟨fun h=>h0 ((x.n o ho).1 h),b,c,x.r _ _ ho hr,y.st _ _ _ _ _ _ a1 (fun k hk=>(x.T j k (gq h2) hk).1) (hb b c hr) (fun k hk=>(x.T j k (gq h2) hk).2),hF b c hr a2⟩
end
def xR (o:Nat):List (Nat×Ob)→List (Nat×Ob)
 |[]=>[]
 |(k,x)::r=>bif d0 k o then xR o r else(k,x)::xR o r
theorem wr {o l:Nat} {x:Ob}:∀{ob:List (Nat×Ob)},go (xR o ob) l=some x→l≠o∧go ob l=some x
 |[],h=>by cases h
 |(k,y)::r,h=>by
  rw[xR] at h
  cases hk:d0 k o with
  |true=>
   rw[hk] at h
   obtain⟨h1,h2⟩:=wr h
   have:=To hk;subst this
   exact⟨h1,by rw[bA _ _ (Ne.symm h1)];exact h2⟩
  |false=>
   rw[hk] at h
   by_cases e:k=l
   ·subst e
    simp only[cond_false] at h
    rw[cg] at h ⊢;exact⟨gq hk,h⟩
   ·simp only[cond_false] at h
    rw[bA _ _ e] at h ⊢;exact wr h
def okO (q l:Nat):List (Nat×Ob)→Bool
 |[]=>true
 |(_,x)::r=>(!x.hasO q&&!x.hasR l)&&okO q l r
theorem N1 {q l o:Nat} {x:Ob}:∀{ob:List (Nat×Ob)},okO q l ob=true→go ob o=some x→x.hasO q=false∧x.hasR l=false
 |[],_,h=>by cases h
 |(k,y)::r,h0,h=>by
  simp only[okO,hV,Ue] at h0
  by_cases e:k=o
  ·subst e;rw[cg] at h;cases h;exact h0.1
  ·rw[bA _ _ e] at h;exact N1 h0.2 h
theorem EF {N:Nat} {cx cx':Cx} {E E':Env} {st:St} {a:Act} {w w':World} {q l o nx':Nat} {sl1 sl2:List (Nat×T)} {ob1:List (Nat×Ob)} {y:Ob} (hR:Rel N cx E st a w) (ok':cQ cx' E' w') (kg:KG q l E w E' w')
 (h1:mn q st.sl=some sl1) (h2:yE l sl1=some sl2) (h3:xR q (xR o st.ob)=ob1) (h4:okO q l ob1=true) (hy:cy E' w' o y)
 (hb:∀k b c,k≠q→k≠o→E.r k=some (b,c)→w'.heap[b]?=w.heap[b]?) (hF:∀k b c,k≠q→k≠o→E.r k=some (b,c)→¬E.F b→¬E'.F b) (hdom:∀o x,E'.r o=some x→o<nx') (htd:∀l b,E'.T l b→l<nx'):
 Rel N cx' E' ⟨sl2,(o,y)::ob1,nx'⟩ a w':=by
 subst h3
 refine⟨ok',hdom,fun k x hk=>?_,fun k=>?_,hR.dfr,hR.size,htd⟩
 ·by_cases e:o=k
  ·subst e
   rw[cg] at hk;cases hk;exact hy
  ·rw[bA _ _ e] at hk
   obtain⟨k1,k2⟩:=N1 h4 hk
   obtain⟨k3,k4⟩:=wr hk
   obtain⟨k5,k6⟩:=wr k4
   exact Ok kg k3 k1 k2 (fun b c hr=>hb k b c k3 k5 hr) (fun b c hr=>hF k b c k3 k5 hr) (hR.obs k x k6)
 ·rcases F6 h2 k with e|⟨e1,e2⟩
  ·show cvT E' w' (gt sl2 k) _;rw[e];trivial
  ·rcases tf h1 k with e|⟨e3,e4⟩
   ·show cvT E' w' (gt sl2 k) _;rw[e1,e];trivial
   ·show cvT E' w' (gt sl2 k) _
    rw[e1,e3]
    exact Rz kg e4 (by rw[e3] at e2;exact e2) (hR.sl k)
def nv:Option (Nat×Nat)→Nat→Value
 |none,_=>.slice none 0 0
 |some (k,c),n=>.slice (some ⟨k,0,none⟩) n c
def zW (w:World) (nt:TypeId) (k c:Nat) (xs:List Int):Prop:=(∃arr,w.heap[k]?=some (.cells arr nt (0,0))∧arr.size=c)∧xs.length≤c∧c≤maxLen∧∀j x,xs[j]?=some x→w.cell? ⟨k,j,none⟩=some (.int .i64 x)
def Jf (w:World) (R:Nat→Prop) (nt:TypeId):Option (Nat×Nat)→List Int→Prop
 |none,xs=>xs=[]
 |some (k,c),xs=>R k∧zW w nt k c xs
theorem zW.rd {w:World} {nt:TypeId} {k c:Nat} {xs:List Int} (h:zW w nt k c xs) (F:Nat→Prop):rdLL w F (xs.map eI) k 0:=by
 refine rp (sz:=1) (by simp[eI]) fun i e hi=>?_
 rw[U6] at hi
 cases hx:xs[i]? with
 |none=>rw[hx] at hi;cases hi
 |some x=>
  rw[hx] at hi;cases hi
  rw[eI,rdL,rdL]
  exact⟨⟨_,by simpa using h.2.2.2 i x hx,by rw[rdD]⟩,trivial⟩
theorem zW.of {w:World} {nt:TypeId} {k c:Nat} {xs:List Int} {F:Nat→Prop} {arr:Array Value} (hh:w.heap[k]?=some (.cells arr nt (0,0))) (ha:arr.size=c*1) (hl:(xs.map eI).length≤c) (hc:c≤maxLen) (h:rdLL w F (xs.map eI) k 0):zW w nt k c xs:=by
 refine⟨⟨arr,hh,by omega⟩,by simpa using hl,hc,fun j x hx=>?_⟩
 have:=nr (sz:=1) (i:=j) (e:=eI x) h (by simp[eI]) (by rw[U6,hx];rfl)
 rw[eI,rdL] at this
 obtain⟨u,h1,h2⟩:=this.1
 rw[rdD] at h2;subst h2
 simpa using h1
theorem zW.keep {w w':World} {nt:TypeId} {k c:Nat} {xs:List Int} (h:zW w nt k c xs) (hk:w'.heap[k]?=w.heap[k]?):zW w' nt k c xs:=by
 obtain⟨⟨arr,h1,h2⟩,h3,h4,h5⟩:=h
 exact⟨⟨arr,hk.trans h1,h2⟩,h3,h4,fun j x hx=>(qR hk).trans (h5 j x hx)⟩
theorem Jf.keep {w w':World} {R R':Nat→Prop} {nt:TypeId} {h:Option (Nat×Nat)} {xs:List Int} (hn:Jf w R nt h xs) (hR:∀k c,h=some (k,c)→R k→R' k) (hk:∀k c,h=some (k,c)→R k→w'.heap[k]?=w.heap[k]?):Jf w' R' nt h xs:=by
 cases h with
 |none=>exact hn
 |some p=>exact⟨hR _ _ rfl hn.1,hn.2.keep (hk _ _ rfl hn.1)⟩
def Hid.loc (nt:TypeId) (A:Option Addr) (n c:Nat) (xs:List Int):Hid where
 nl:=A=none∧n=0∧c=0∧xs=[]
 S:=fun b k R w=>A=some ⟨b,0,none⟩∧c=k∧n=xs.length∧zW w nt b k xs
 st:=by
  rintro b c' R R' w w' ⟨h1,h2,h3,h4⟩ hR hb hk
  exact⟨h1,h2,h3,h4.keep hb⟩
abbrev HT:=Option (Nat×Option Addr×Nat×Nat)
def vw:HT→Nat→Bool
 |none,_=>false
 |some (j,_),i=>d0 j i
structure CxS (ty nt:TypeId) (els:List (Int×List Int)) (ho:HT) (b c:Nat) (R:Nat→Prop) (w:World) (hd:Nat→Option (Nat×Nat)):Prop where
 blk:∃arr,w.heap[b]?=some (.cells arr ty (0,0))∧arr.size=c*2
 len:els.length≤c
 cap:c≤maxLen
 a:∀i e,els[i]?=some e→w.cell? ⟨b,i*2,none⟩=some (.int .i64 e.1)
 s:∀i e,els[i]?=some e→vw ho i=false→w.cell? ⟨b,i*2+1,none⟩=some (nv (hd i) e.2.length)
 ne:∀i e,els[i]?=some e→vw ho i=false→Jf w R nt (hd i) e.2
 inj:∀i j k c c',i<els.length→j<els.length→vw ho i=false→vw ho j=false→hd i=some (k,c)→hd j=some (k,c')→i=j
 h:∀i A n k,ho=some (i,A,n,k)→w.cell? ⟨b,i*2+1,none⟩=some (.slice A n k)
def Hid.cx (ty nt:TypeId) (els:List (Int×List Int)) (ho:HT):Hid where
 nl:=els=[]
 S:=fun b c R w=>∃hd,CxS ty nt els ho b c R w hd
 st:=by
  rintro b c R R' w w' ⟨hd,h⟩ hR hb hk
  obtain⟨⟨arr,h1,h2⟩,h3,h4,h5,h6,h7,h8,h9⟩:=h
  exact⟨hd,⟨arr,hb.trans h1,h2⟩,h3,h4,fun i e hi=>(qR hb).trans (h5 i e hi),fun i e hi hh=>(qR hb).trans (h6 i e hi hh),fun i e hi hh=>(h7 i e hi hh).keep (fun k _ _ hk=>hR k hk) (fun k _ _ h=>hk k h),h8,fun i A n k hh=>(qR hb).trans (h9 i A n k hh)⟩
abbrev Ob.cxo (o:Nat) (ty nt:TypeId) (els:List (Int×List Int)) (ho:HT):Ob:=.abs o (Hid.cx ty nt els ho)
section
variable {P:Program} {d:Option Tmp} {tt:TypeId} {ps:String} {af:Array Edge} {gd:Option (Nat×Bool)} {x y:Operand}
theorem zC {E:Env} {w:World} {o:Nat} {ty nt:TypeId} {els:List (Int×List Int)} {ho:HT} {i:Nat} {e:Int×List Int} (he:els[i]?=some e) (h:cy E w o (.cxo o ty nt els ho)):
 ¬E.n o∧∃b c hd,E.r o=some (b,c)∧CxS ty nt els ho b c (E.T o) w hd∧¬E.F b:=by
 rcases h with⟨_,h1⟩|⟨h0,b,c,hr,⟨hd,h1⟩,h2⟩
 ·have h1:els=[]:=h1
  subst h1;simp at he
 ·exact⟨h0,b,c,hd,hr,h1,h2⟩
theorem Lw {t:TypeId} {o i:Nat} {ty nt:TypeId} {els:List (Int×List Int)} {ho:HT} {e:Int×List Int} [TySc P t] (he:els[i]?=some e) (hh:vw ho i=false):
 AWN P ⟨d,.load t x,tt,ps,af,gd⟩ [(x,.v (.c (.e o 2 i 1)))] [(o,.cxo o ty nt els ho)] (.v (.c (.r o (.l (e.2.map eI))))) []:=
 b7 fun E ac w hn hb=>by
  obtain⟨b,c',hr,hu⟩:=hn x _ (.head _)
  obtain⟨_,b',c'',hd,hr',hS,_⟩:=zC he (hb o _ (.head _))
  rw[hr] at hr';cases hr'
  refine⟨nv (hd i) e.2.length,by simp[execOp,hu,jY (P:=P) (t:=t) (hS.s i e he hh)],?_⟩
  have hne:=hS.ne i e he hh
  show rdD w (E.T o) (.l (e.2.map eI)) _
  cases hdi:hd i with
  |none=>
   rw[hdi] at hne
   have hne:e.2=[]:=hne
   rw[hne];exact⟨none,0,rfl,Tt _,.inl rfl⟩
  |some p=>
   obtain⟨k,cc⟩:=p
   rw[hdi] at hne
   exact⟨some ⟨k,0,none⟩,cc,by simp[nv],by simpa using hne.2.2.1,.inr ⟨k,0,rfl,hne.1,hne.2.rd _⟩⟩
theorem GG {t:TypeId} {o i:Nat} {ty nt:TypeId} {els:List (Int×List Int)} {A:Option Addr} {n k:Nat} {e:Int×List Int} [TySc P t] (he:els[i]?=some e):
 AWN P ⟨d,.load t x,tt,ps,af,gd⟩ [(x,.v (.c (.e o 2 i 1)))] [(o,.cxo o ty nt els (some (i,A,n,k)))] (.v (.c (.d false (.k A n k)))) []:=
 b7 fun E ac w hn hb=>by
  obtain⟨b,c',hr,hu⟩:=hn x _ (.head _)
  obtain⟨_,b',c'',hd,hr',hS,_⟩:=zC he (hb o _ (.head _))
  rw[hr] at hr';cases hr'
  exact⟨.slice A n k,by simp[execOp,hu,jY (P:=P) (t:=t) (hS.h i A n k rfl)],by show rdD _ _ _ _;rw[rdD]⟩
end
end Go.AM
namespace Go.AM
open Go.RowKit
section
variable {P:Program} {N:Nat} {d:Tmp} {tt:TypeId} {ps:String} {af:Array Edge} {gd:Option (Nat×Bool)} {x y:Operand} {sl sl1 sl2:List (Nat×T)} {ob ob1:List (Nat×Ob)} {nx:Nat}
theorem OI {nob:List (Nat×Ob)} {c:C} {ys:List (List D)} {g:Bool} {q l:Nat} {h:Hid} {z:Ob} (hs:Src nob c ys g) (hq:go nob q=some (.abs l h)):Src ((q,z)::nob) c ys g:=by
 cases hs with
 |d=>exact .d
 |nil=>exact .nil
 |w h1 hn=>exact .w (by rw[bA _ _ (fun e=>by subst e;rw[hq] at h1;cases h1)];exact h1) hn
 |s h1 hn=>exact .s (by rw[bA _ _ (fun e=>by subst e;rw[hq] at h1;cases h1)];exact h1) hn
 |wn h1 hn=>exact .wn (by rw[bA _ _ (fun e=>by subst e;rw[hq] at h1;cases h1)];exact h1) hn
theorem Eh {t:TypeId} {nt by_ q p n c l:Nat} {k:Nat} {xs:List Int} {ys:List (List D)} {gy:Bool} {cc:C} {nob:List (Nat×Ob)} [ht:TySl P t nt 1 by_] (hrv:rsv q=false)
 (ho:go nob q=some (.abs l (Hid.loc nt (some ⟨k,0,none⟩) n c xs))) (hs:Src nob cc ys gy) (hn:xs.length=n) (hsz:∀e∈ys,e.length=1) (hb:(n+ys.length)*by_≤140737488355328) (h63:n+ys.length≤9223372036854775807):
 AWK P ⟨some d,.call ⟨.builtin .append,#[x,y],#[t,t]⟩,tt,ps,af,gd⟩ [(x,.v (.c (.d false (.k (some ⟨k,0,none⟩) n c)))),(y,.v (.c cc))] nob (.v (.c (.w p (n+ys.length)))) [(p,.row nt 1 (xs.map eI++ys) (true&&gy) true)] [] (some q):=by
 intro cx E a w ok hne hnob hfr
 have hq:=hnob q _ (vu ho)
 rcases hq with⟨_,h1⟩|⟨_,b,c',hr,⟨h1,h2,h3,⟨⟨arr,h4,h5⟩,h6,h7,h8⟩⟩,hF⟩
 ·have h1:some (⟨k,0,none⟩:Addr)=none∧_:=h1
  cases h1.1
 ·cases h1
  subst h2
  have hrow:cy E w q (.row nt 1 (xs.map eI) true true):=⟨k,c,arr,hr,h4,by omega,by simpa using h6,h7,by simp[eI],zW.rd ⟨⟨arr,h4,h5⟩,h6,h7,h8⟩ _,fun _=>hF,fun h=>by cases h⟩
  refine Gv (P:=P) (d:=d) (ty:=tt) (ps:=ps) (af:=af) (gd:=gd) (x:=x) (y:=y) (t:=t) (e:=nt) (sz:=1) (by_:=by_) (o:=q) (q:=p) (n:=n) (els:=xs.map eI) (g:=true) (nob:=(q,.row nt 1 (xs.map eI) true true)::nob) hrv (cg _ _ _) (OI hs ho) (by simpa using hn) hsz hb h63 cx E a w ok (fun x' t' hm=>?_) (fun l' ob' hm=>?_) hfr
  ·rcases Tq.1 hm with e|hm
   ·cases e
    have:=hne x _ (.head _)
    have:a.eval x= .slice (some ⟨k,0,none⟩) n c:=this
    exact⟨k,c,hr,this⟩
   ·exact hne x' t' (.tail _ hm)
  ·rcases Tq.1 hm with e|hm
   ·cases e;exact hrow
   ·exact hnob l' ob' hm
theorem apk {t:TypeId} {nt by_ q n c l nx':Nat} {k:Nat} {xs zs:List Int} {zd:List (List D)} {cc:C} {nob:List (Nat×Ob)} (ls:List Nat) [TySl P t nt 1 by_] (H:cM by_ (xs++zs).length=true) (hzd:zs.map eI=zd) (hn:xs.length=n)
 (hp:rZ ob ls=some nob) (hs:Src nob cc zd true) (hd:nlt d N=true) (hx:opT sl x= .v (.c (.d false (.k (some ⟨k,0,none⟩) n c)))) (hy:opT sl y= .v (.c cc)) (ho:go nob q=some (.abs l (Hid.loc nt (some ⟨k,0,none⟩) n c xs))) (hrv:rsv q=false) (hnx:nxt nx=some nx'):
 NX P N ⟨some d,.call ⟨.builtin .append,#[x,y],#[t,t]⟩,tt,ps,af,gd⟩ ⟨sl,ob,nx⟩ ⟨(d,.v (.c (.w nx (xs++zs).length)))::sl,(nx,.row nt 1 ((xs++zs).map eI) true true)::ob,nx'⟩
  ⟨⟨d,[(x,.v (.c (.d false (.k (some ⟨k,0,none⟩) n c)))),(y,.v (.c cc))],nob,.v (.c (.w nx (xs++zs).length)),[(nx,.row nt 1 ((xs++zs).map eI) true true)]⟩,[],some q⟩:=by
 subst hzd
 simp only[cM,decide_eq_true_eq,Ut] at H
 have:=Eh (P:=P) (d:=d) (tt:=tt) (ps:=ps) (af:=af) (gd:=gd) (x:=x) (y:=y) (t:=t) (nt:=nt) (by_:=by_) (p:=nx) (n:=n) hrv ho hs hn (by simp[eI]) (by subst hn;simp only[Us];exact H.1) (by subst hn;simp only[Us];omega)
 rw[←UK,Us,←hn,←Ut] at this
 exact⟨by subst hn;exact this,.inl ⟨rfl,cK hd⟩,⟨hx,hy,trivial⟩,qs hp,lH hnx,rfl⟩
theorem apNk {t:TypeId} {nt by_ nx':Nat} {zs:List Int} {zd:List (List D)} {cc:C} {nob:List (Nat×Ob)} (ls:List Nat) [TySl P t nt 1 by_] (H:cM by_ zs.length=true) (hne:zs≠[]) (hzd:zs.map eI=zd)
 (hp:rZ ob ls=some nob) (hs:Src nob cc zd true) (hd:nlt d N=true) (hx:opT sl x= .v (.c (.d false (.k none 0 0)))) (hy:opT sl y= .v (.c cc)) (hnx:nxt nx=some nx'):
 NS P N ⟨some d,.call ⟨.builtin .append,#[x,y],#[t,t]⟩,tt,ps,af,gd⟩ ⟨sl,ob,nx⟩ ⟨(d,.v (.c (.w nx zs.length)))::sl,(nx,.row nt 1 (zs.map eI) true true)::ob,nx'⟩
  ⟨d,[(x,.v (.c (.d false (.k none 0 0)))),(y,.v (.c cc))],nob,.v (.c (.w nx zs.length)),[(nx,.row nt 1 (zs.map eI) true true)]⟩:=by
 subst hzd
 simp only[cM,decide_eq_true_eq] at H
 have h1:=Es (P:=P) (d:=d) (ty:=tt) (ps:=ps) (af:=af) (gd:=gd) (x:=x) (y:=y) (t:=t) (e:=nt) (sz:=1) (by_:=by_) (q:=nx) hs (by simpa using hne) (by simp[eI]) (by simpa using H.1) (by simpa using H.2)
 rw[Us] at h1
 refine⟨fun cx E a w ok hnd hnob hfr=>h1 cx E a w ok (fun x' t' hm=>?_) hnob hfr,rfl,cK hd,⟨hx,hy,trivial⟩,qs hp,lH hnx,rfl⟩
 rcases Tq.1 hm with e|hm
 ·cases e
  have h:a.eval x= .slice none 0 0:=hnd x (.v (.c (.d false (.k none 0 0)))) (.head _)
  exact h
 ·exact hnd x' t' (.tail _ hm)
end
end Go.AM
namespace Go.AM
open Go.RowKit
section
variable {P:Program} {N:Nat} {d:Tmp} {tt:TypeId} {ps:String} {af:Array Edge} {gd:Option (Nat×Bool)} {x y:Operand} {sl sl1 sl2:List (Nat×T)} {ob ob1:List (Nat×Ob)} {nx:Nat} {AQ:Exit→St→Prop}
theorem GN {t:TypeId} {o i s n:Nat} {ty nt:TypeId} {els:List (Int×List Int)} {hole:HT} {e:Int×List Int} {ys:List Int} {g:Bool} [ht:TyN P t 1] (hx:opT sl x= .v (.c (.e o 2 i 1))) (hy:opT sl y= .v (.c (.w s n))) (ho:go ob o=some (.cxo o ty nt els hole)) (hs:go ob s=some (.row nt 1 (ys.map eI) g true))
 (hn:ys.length=n) (he:els[i]?=some e) (hh:hole=none∨∃A n k,hole=some (i,A,n,k)) (hrv:rsv s=false) (hso:d0 s o=false) (hol:nlt o nx=true) (h1:mn s sl=some sl1) (h2:yE s sl1=some sl2) (h3:xR s (xR o ob)=ob1) (h4:okO s s ob1=true):
 AWO P N ⟨none,.store t x y,tt,ps,af,gd⟩ ⟨sl,ob,nx⟩ ⟨sl2,(o,.cxo o ty nt (els.set i (e.1,ys)) none)::ob1,nx⟩:=by
 intro cx E a w hR
 have hx1:=hR.op x;rw[hx] at hx1
 have hy1:=hR.op y;rw[hy] at hy1
 have ok:=hR.ok
 obtain⟨b,c,hr,hu⟩:=hx1
 obtain⟨hnn,b',c',hd,hr',hS,hF⟩:=zC he (hR.obs o _ ho)
 rw[hr] at hr';cases hr'
 obtain⟨bs,cs,hrs,hv⟩:=hy1
 obtain⟨bs',cs',arrs,hrs',hhs,has,hls,hcs,_,hrds,hFs,_⟩:=hR.obs s _ hs
 rw[hrs] at hrs';cases hrs'
 have hFs:=hFs rfl
 have hso:s≠o:=gq hso
 have hbb:bs≠b:=fun e=>by subst e;exact hso (ok.inj _ _ _ _ _ hrs hr)
 have hil:i<els.length:=(Tm.1 he).1
 have hrow:=zW.of hhs has hls hcs hrds
 obtain⟨arr,hh0,ha0⟩:=hS.blk
 have hvc:(a.eval y).cells= #[a.eval y]:=by rw[hv];rfl
 have hbound:i*2+1+1≤arr.size:=by have:=hS.len;omega
 have hrun:=pN (P:=P) (t:=t) (n:=1) (k:=i*2+1) (u:=a.eval y) (w:=w) (b:=b) (by rw[hvc];rfl) (by rw[hvc];simp;rw[hv];rfl) hh0 hbound
 unfold Oper.wp
 simp only[execOp,hu,Sem.run_bind,hrun,Result.andThen_ok,Sem.run_pure,Oper.upon_skip,Act.put]
 obtain⟨arr',harr'⟩:∃arr',arr'=(arr.toList.take (i*2+1)++(a.eval y).cells.toList++arr.toList.drop (i*2+1+1)).toArray:=⟨_,rfl⟩
 rw[←harr']
 have hsz':arr'.size=arr.size:=by rw[harr',hvc];simp;omega
 have hget:∀j,arr'[j]?=if j=i*2+1 then some (a.eval y) else arr[j]?:=by
  intro j
  rw[harr',List.getElem?_toArray,jL (by rw[hvc];rfl) (by simpa using hbound),hvc]
  by_cases hj:j=i*2+1
  ·subst hj;simp
  ·rw[if_neg (by simp;omega),if_neg hj];simp
 have hw':=iK arr' hh0
 have hcell:∀j,j≠i*2+1→(w.setRow b arr').cell? ⟨b,j,none⟩=w.cell? ⟨b,j,none⟩:=fun j hj=>by rw[et hw',et hh0,hget,if_neg hj]
 have ok1:cQ cx E (w.setRow b arr'):=ww ok hr hF
 have hk:=i7 (cs:=arr') (w:=w) ok hr hF
 have hTb:∀l k,E.T l k→k≠b:=fun l k h e=>by subst e;exact(ok.sf.tb l k h).2.2.1 o c hr
 have hTs:∀l,¬E.T l bs:=fun l h=>(ok.sf.tb l bs h).2.2.1 s cs hrs
 have hsb:=ok1.rb s bs cs hrs
 have hnew:cx.w0.heap.size≤bs:=hsb.2.resolve_right (fun h=>by rw[hrv] at h;cases h.2)
 obtain⟨E',hE'⟩:∃E':Env,E'={E with r:=fun l=>if l=s then none else E.r l,T:=fun l k=>E.T l k∨(l=o∧k=bs)}:=⟨_,rfl⟩
 have e_r:∀l p,E'.r l=some p↔l≠s∧E.r l=some p:=fun l p=>by
  subst hE'
  show(if l=s then none else E.r l)=some p↔_
  split
  ·rename_i h;simp[h]
  ·rename_i h;simp[h]
 have e_T:∀l k,E'.T l k↔E.T l k∨(l=o∧k=bs):=fun l k=>by subst hE';exact Iff.rfl
 have e_F:E'.F=E.F:=by subst hE';rfl
 have e_G:E'.G=E.G:=by subst hE';rfl
 have e_Z:E'.Z=E.Z:=by subst hE';rfl
 have e_n:E'.n=E.n:=by subst hE';rfl
 have e_H:∀g,E'.H g=E.H g:=fun g=>by cases g;exact e_F;exact e_G
 have ok':cQ cx E' (w.setRow b arr'):=by
  refine⟨by rw[e_F];exact ok1.fb,by rw[e_F,e_G];exact ok1.gf,by rw[e_G];exact ok1.gn,fun l b c h=>ok1.rb l b c ((e_r _ _).1 h).2,fun l l' b c c' h h'=>ok1.inj l l' b c c' ((e_r _ _).1 h).2 ((e_r _ _).1 h').2,ok1.os,ok1.tape,ok1.output,ok1.size,ok1.block,fun l p hp h=>ok1.pin l p hp ((e_r _ _).1 h).2,by rw[e_F];exact ok1.ff,by rw[e_F];exact ok1.gc,⟨fun l k h=>?_,fun l l' k h h'=>?_,fun k h=>?_,ok1.sf.zs,by rw[e_Z];exact ok1.sf.ze⟩⟩
  ·rcases(e_T l k).1 h with h|⟨rfl,rfl⟩
   ·obtain⟨h1,h2,h3,h4⟩:=ok1.sf.tb l k h
    exact⟨h1,by rw[e_F];exact h2,fun o' c' h'=>h3 o' c' ((e_r _ _).1 h').2,h4⟩
   ·refine⟨⟨hsb.1,hnew⟩,by rw[e_F];exact hFs,fun o' c' h'=>?_,.mk (by rw[di _ _ _ _ hbb];exact hhs)⟩
    obtain⟨h5,h6⟩:=(e_r _ _).1 h'
    exact h5 (ok.inj _ _ _ _ _ h6 hrs)
  ·rcases(e_T l k).1 h with h|⟨rfl,rfl⟩<;>rcases(e_T l' k).1 h' with h'|⟨rfl,h'⟩
   ·exact ok1.sf.tt l l' k h h'
   ·subst h';exact absurd h (hTs l)
   ·exact absurd h' (hTs l')
   ·rfl
  ·obtain⟨h1,h2,h3,h4⟩:=ok1.sf.zc k h
   exact⟨h1,by rw[e_F];exact h2,fun o' c' h'=>h3 o' c' ((e_r _ _).1 h').2,h4⟩
 have kg:KG s s E w E' (w.setRow b arr'):=⟨fun l p hl h=>(e_r _ _).2 ⟨hl,h⟩,fun g k h=>by rw[e_H];exact h,fun g k h=>hk.heap g k h,fun l k _ h=>⟨(e_T l k).2 (.inl h),(hk.T l k h).2⟩,fun k h=>⟨by rw[e_Z];exact h,(hk.Z k h).2⟩,fun l _=>by rw[e_n]⟩
 refine⟨E',EF hR ok' kg h1 h2 h3 h4 ?_ (fun l b' c' hl hlo hrl=>di _ _ _ _ (fun e=>by subst e;exact hlo (ok.inj _ _ _ _ _ hrl hr))) (fun l b' c' _ _ _ hf=>by rw[e_F];exact hf) (fun l p h=>hR.dom l p ((e_r _ _).1 h).2) (fun l k h=>?_)⟩
 ·refine .inr ⟨by rw[e_n];exact hnn,b,c,(e_r _ _).2 ⟨Ne.symm hso,hr⟩,⟨fun j=>if j=i then some (bs,cs) else hd j,⟨arr',hw',by omega⟩,by simpa using hS.len,hS.cap,fun j ej hj=>?_,fun j ej hj _=>?_,fun j ej hj _=>?_,fun j j' k c1 c2 hj hj' _ _ q1 q2=>?_,fun _ _ _ _ h=>by cases h⟩,by rw[e_F];exact hF⟩
  ·rw[hcell _ (by omega)]
   rw[U7] at hj
   by_cases e1:i=j
   ·subst e1
    rw[if_pos rfl,if_pos hil] at hj;cases hj
    exact hS.a i e he
   ·rw[if_neg e1] at hj;exact hS.a j ej hj
  ·rw[U7] at hj
   by_cases e1:i=j
   ·subst e1
    rw[if_pos rfl,if_pos hil] at hj;cases hj
    rw[et hw',hget,if_pos rfl,if_pos rfl,hv,hn];rfl
   ·rw[if_neg e1] at hj
    rw[hcell _ (by omega),if_neg (Ne.symm e1)]
    refine hS.s j ej hj ?_
    rcases hh with rfl|⟨A,n',k',rfl⟩
    ·rfl
    ·exact pW e1
  ·rw[U7] at hj
   by_cases e1:i=j
   ·subst e1
    rw[if_pos rfl,if_pos hil] at hj;cases hj
    rw[if_pos rfl]
    exact⟨(e_T o bs).2 (.inr ⟨rfl,rfl⟩),hrow.keep (di _ _ _ _ hbb)⟩
   ·rw[if_neg e1] at hj
    rw[if_neg (Ne.symm e1)]
    refine(hS.ne j ej hj ?_).keep (fun k c' _ hk'=>(e_T o k).2 (.inl hk')) (fun k c' _ hk'=>di _ _ _ _ (hTb o k hk'))
    rcases hh with rfl|⟨A,n',k',rfl⟩
    ·rfl
    ·exact pW e1
  ·have hole_ne:∀j,j≠i→vw hole j=false:=fun j hj=>by
    rcases hh with rfl|⟨A,n',k',rfl⟩
    ·rfl
    ·exact pW (Ne.symm hj)
   have hR':∀j,j≠i→j<els.length→∀k c',hd j=some (k,c')→E.T o k:=fun j hj hjl k c' hdj=>by
    have:=hS.ne j _ (List.getElem?_eq_getElem hjl) (hole_ne j hj)
    rw[hdj] at this
    exact this.1
   have hj:j<els.length:=by simpa using hj
   have hj':j'<els.length:=by simpa using hj'
   by_cases e1:j=i<;>by_cases e2:j'=i
   ·rw[e1,e2]
   ·rw[if_pos e1] at q1;rw[if_neg e2] at q2;cases q1
    exact absurd (hR' j' e2 hj' _ _ q2) (hTs o)
   ·rw[if_neg e1] at q1;rw[if_pos e2] at q2;cases q2
    exact absurd (hR' j e1 hj _ _ q1) (hTs o)
   ·rw[if_neg e1] at q1;rw[if_neg e2] at q2
    exact hS.inj j j' k c1 c2 hj hj' (hole_ne j e1) (hole_ne j' e2) q1 q2
 ·rcases(e_T l k).1 h with h|⟨rfl,_⟩
  ·exact hR.td l k h
  ·exact cK hol
end
end Go.AM
namespace Go.AM
open Go.RowKit
section
variable {P:Program} {N:Nat} {sl sl1 sl2:List (Nat×T)} {ob ob1:List (Nat×Ob)} {nx:Nat} {AQ:Exit→St→Prop}
theorem QA {cx:Cx} {E:Env} {a:Act} {w:World} {o:Nat} {z:Ob} (hR:Rel N cx E ⟨sl,ob,nx⟩ a w) (hz:cy E w o z):Rel N cx E ⟨sl,(o,z)::ob,nx⟩ a w:=
 ⟨hR.ok,hR.dom,fun l x h=>by
  by_cases e:o=l
  ·subst e;rw[cg] at h;cases h;exact hz
  ·rw[bA _ _ e] at h;exact hR.obs l x h,hR.sl,hR.dfr,hR.size,hR.td⟩
theorem FE {c:Code} {o i:Nat} {ty nt:TypeId} {els:List (Int×List Int)} {e:Int×List Int} (ho:go ob o=some (.cxo o ty nt els none)) (he:els[i]?=some e) (hol:nlt o nx=true) (hrv:rsv nx=false)
 (h1:mn nx sl=some sl1) (h2:yE o sl1=some sl2) (h3:xR nx (xR o ob)=ob1) (h4:okO nx o ob1=true)
 (hnil:e.2=[]→AWC P N c ⟨sl2,(o,.cxo o ty nt els (some (i,none,0,0)))::ob1,nx⟩ AQ)
 (hcons:∀k cc,AWC P N c ⟨sl2,(nx,.abs nx (Hid.loc nt (some ⟨k,0,none⟩) e.2.length cc e.2))::(o,.cxo o ty nt els (some (i,some ⟨k,0,none⟩,e.2.length,cc)))::ob1,nx+1⟩ AQ):AWC P N c ⟨sl,ob,nx⟩ AQ:=by
 intro cx E a w hR
 have ok:=hR.ok
 obtain⟨hnn,b,cb,hd,hr,hS,hF⟩:=zC he (hR.obs o _ ho)
 have hil:i<els.length:=(Tm.1 he).1
 have hs0:=hS.s i e he rfl
 have hn0:=hS.ne i e he rfl
 cases hdi:hd i with
 |none=>
  rw[hdi] at hs0 hn0
  refine hnil hn0 cx E a w (EF hR ok ⟨fun _ _ _ h=>h,fun _ _ h=>h,fun _ _ _=>rfl,fun _ _ _ h=>⟨h,rfl⟩,fun b _=>⟨by assumption,nW.refl w b⟩,fun _ _=>Iff.rfl⟩ h1 h2 h3 h4 (.inr ⟨hnn,b,cb,hr,⟨hd,hS.blk,hS.len,hS.cap,hS.a,fun j ej hj _=>hS.s j ej hj rfl,fun j ej hj _=>hS.ne j ej hj rfl,fun j j' k c1 c2 hj hj' _ _=>hS.inj j j' k c1 c2 hj hj' rfl rfl,fun j A n k h=>?_⟩,hF⟩) (fun _ _ _ _ _ _=>rfl) (fun _ _ _ _ _ _ h=>h) hR.dom hR.td)
  cases h
  exact hs0
 |some p=>
  obtain⟨k,cc⟩:=p
  rw[hdi] at hs0 hn0
  obtain⟨hTk,hrow⟩:=hn0
  obtain⟨t1,t2,t3,t4⟩:=ok.sf.tb o k hTk
  obtain⟨E',hE'⟩:∃E':Env,E'={E with r:=fun l=>if l=nx then some (k,cc) else E.r l,T:=fun l j=>E.T l j∧j≠k,n:=fun l=>l≠nx∧E.n l}:=⟨_,rfl⟩
  have e_r:∀l p,E'.r l=some p↔(l=nx∧p=(k,cc))∨(l≠nx∧E.r l=some p):=fun l p=>by
   subst hE'
   show(if l=nx then some (k,cc) else E.r l)=some p↔_
   split
   ·rename_i h;simp[h,eq_comm]
   ·rename_i h;simp[h]
  have e_T:∀l j,E'.T l j↔E.T l j∧j≠k:=fun l j=>by subst hE';exact Iff.rfl
  have e_F:E'.F=E.F:=by subst hE';rfl
  have e_G:E'.G=E.G:=by subst hE';rfl
  have e_Z:E'.Z=E.Z:=by subst hE';rfl
  have e_n:∀l,E'.n l↔l≠nx∧E.n l:=fun l=>by subst hE';exact Iff.rfl
  have e_H:∀g,E'.H g=E.H g:=fun g=>by cases g;exact e_F;exact e_G
  have hnx:∀l p,E.r l=some p→l≠nx:=fun l p h=>U9 (hR.dom l p h)
  have hon:o≠nx:=U9 (cK hol)
  have ok':cQ cx E' w:=by
   refine⟨by rw[e_F];exact ok.fb,by rw[e_F,e_G];exact ok.gf,by rw[e_G];exact ok.gn,fun l j c h=>?_,fun l l' j c c' h h'=>?_,ok.os,ok.tape,ok.output,ok.size,ok.block,fun l p hp h=>?_,by rw[e_F];exact ok.ff,by rw[e_F];exact ok.gc,⟨fun l j h=>?_,fun l l' j h h'=>ok.sf.tt l l' j ((e_T _ _).1 h).1 ((e_T _ _).1 h').1,fun j h=>?_,ok.sf.zs,by rw[e_Z];exact ok.sf.ze⟩⟩
   ·rcases(e_r _ _).1 h with⟨rfl,hp⟩|⟨_,h⟩
    ·cases hp;exact⟨t1.1,.inl t1.2⟩
    ·exact ok.rb l j c h
   ·rcases(e_r _ _).1 h with⟨rfl,hp⟩|⟨q1,h⟩<;>rcases(e_r _ _).1 h' with⟨rfl,hp'⟩|⟨q2,h'⟩
    ·rfl
    ·cases hp;exact absurd h' (t3 l' c')
    ·cases hp';exact absurd h (t3 l c)
    ·exact ok.inj l l' j c c' h h'
   ·rcases(e_r _ _).1 h with⟨rfl,hp'⟩|⟨_,h⟩
    ·rw[nu hrv] at hp;cases hp
    ·exact ok.pin l p hp h
   ·obtain⟨h,hj⟩:=(e_T _ _).1 h
    obtain⟨u1,u2,u3,u4⟩:=ok.sf.tb l j h
    refine⟨u1,by rw[e_F];exact u2,fun o' c' h'=>?_,u4⟩
    rcases(e_r _ _).1 h' with⟨_,hp⟩|⟨_,h'⟩
    ·cases hp;exact hj rfl
    ·exact u3 o' c' h'
   ·obtain⟨u1,u2,u3,u4⟩:=ok.sf.zc j h
    refine⟨u1,by rw[e_F];exact u2,fun o' c' h'=>?_,u4⟩
    rcases(e_r _ _).1 h' with⟨_,hp⟩|⟨_,h'⟩
    ·cases hp;have:=t1.2;have:=u1.1;omega
    ·exact u3 o' c' h'
  have kg:KG nx o E w E' w:=⟨fun l p hl h=>(e_r _ _).2 (.inr ⟨hl,h⟩),fun g j h=>by rw[e_H];exact h,fun _ _ _=>rfl,fun l j hl h=>⟨(e_T _ _).2 ⟨h,fun e=>by subst e;exact hl (ok.sf.tt l o j h hTk)⟩,rfl⟩,fun j h=>⟨by rw[e_Z];exact h,nW.refl w j⟩,fun l hl=>by rw[e_n];simp[hl]⟩
  refine hcons k cc cx E' a w (QA (EF hR ok' kg h1 h2 h3 h4 (.inr ⟨by rw[e_n];simp[hnn],b,cb,(e_r _ _).2 (.inr ⟨hon,hr⟩),⟨hd,hS.blk,hS.len,hS.cap,hS.a,fun j ej hj _=>hS.s j ej hj rfl,fun j ej hj hjh=>(hS.ne j ej hj rfl).keep (fun k' c' hk' hT=>(e_T o k').2 ⟨hT,fun ek=>?_⟩) (fun _ _ _ _=>rfl),fun j j' k c1 c2 hj hj' _ _=>hS.inj j j' k c1 c2 hj hj' rfl rfl,fun j A n k' h=>?_⟩,by rw[e_F];exact hF⟩)
   (fun _ _ _ _ _ _=>rfl) (fun l b' c' _ _ _ h=>by rw[e_F];exact h) (fun l p h=>?_) (fun l j h=>U8 (hR.td l j ((e_T _ _).1 h).1))) (.inr ⟨by rw[e_n];simp,k,cc,(e_r _ _).2 (.inl ⟨rfl,rfl⟩),⟨rfl,rfl,rfl,hrow⟩,by rw[e_F];exact t2⟩))
  ·subst ek
   have:=hS.inj j i k' c' cc (Tm.1 hj).1 hil rfl rfl hk' hdi
   subst this
   simp[vw] at hjh
  ·cases h;exact hs0
  ·rcases(e_r _ _).1 h with⟨rfl,_⟩|⟨_,h⟩
   ·exact Nat.lt_succ_self _
   ·exact U8 (hR.dom l p h)
theorem Q0 {o:Nat} {ty nt:TypeId} {al:List Int} {g:Bool} (ho:go ob o=some (.rown ty 2 (al.map fun a=>[.i .i64 a,.k none 0 0]) g)) (h3:xR o ob=ob1):cZ N ⟨sl,ob,nx⟩ ⟨sl,(o,.cxo o ty nt (al.map fun a=>(a,[])) none)::ob1,nx⟩:=by
 subst h3
 intro cx E a w hR
 refine⟨E,hR.ok,hR.dom,fun l x h=>?_,hR.sl,hR.dfr,hR.size,hR.td⟩
 by_cases e:o=l
 ·subst e
  rw[cg] at h;cases h
  rcases hR.obs o _ ho with⟨h0,h1⟩|⟨h0,b,c,arr,hr,hh,h1,h2,h3,h4,h5,h6⟩
  ·refine .inl ⟨h0,?_⟩
   show al.map _=[]
   simpa using h1
  ·have key:∀i e,(al.map fun a=>((a,[]):Int×List Int))[i]?=some e→w.cell? ⟨b,i*2,none⟩=some (.int .i64 e.1)∧w.cell? ⟨b,i*2+1,none⟩=some (.slice none 0 0)∧e.2=[]:=by
    intro i e hi
    rw[U6] at hi
    cases ha:al[i]? with
    |none=>rw[ha] at hi;cases hi
    |some x=>
     rw[ha] at hi;cases hi
     have:=nr (sz:=2) (i:=i) (e:=[.i .i64 x,.k none 0 0]) h5 h4 (by rw[U6,ha];rfl)
     rw[rdL,rdL] at this
     obtain⟨⟨u,u1,u2⟩,⟨v,v1,v2⟩,_⟩:=this
     simp only[rdD] at u2 v2
     subst u2;subst v2
     exact⟨by simpa using u1,by simpa using v1,rfl⟩
   refine .inr ⟨h0,b,c,hr,⟨fun _=>none,⟨arr,hh,h1⟩,by simpa using h2,h3,fun i e hi=>(key i e hi).1,fun i e hi _=>?_,fun i e hi _=>(key i e hi).2.2,fun _ _ _ _ _ _ _ _ _ h=>(by cases h),fun _ _ _ _ h=>(by cases h)⟩,h6⟩
   rw[(key i e hi).2.2];exact(key i e hi).2.1
 ·rw[bA _ _ e] at h
  exact hR.obs l x (wr h).2
def MZ (e:Int×List Int):List D:=[.i .i64 e.1,.l (e.2.map eI)]
theorem Jb {o:Nat} {ty nt:TypeId} {els:List (Int×List Int)} (ho:go ob o=some (.cxo o ty nt els none)) (h1:mn nx sl=some sl1) (h2:yE o sl1=some sl2) (h3:xR nx (xR o ob)=ob1) (h4:okO nx o ob1=true):
 cZ N ⟨sl,ob,nx⟩ ⟨sl2,(o,.rown ty 2 (els.map MZ) true)::ob1,nx⟩:=by
 intro cx E a w hR
 have ok:=hR.ok
 obtain⟨E',hE'⟩:∃E':Env,E'={E with F:=fun j=>E.F j∨E.T o j,G:=fun j=>E.G j∨E.T o j,T:=fun l j=>l≠o∧E.T l j}:=⟨_,rfl⟩
 have e_T:∀l j,E'.T l j↔l≠o∧E.T l j:=fun l j=>by subst hE';exact Iff.rfl
 have e_F:∀j,E'.F j↔E.F j∨E.T o j:=fun j=>by subst hE';exact Iff.rfl
 have e_G:∀j,E'.G j↔E.G j∨E.T o j:=fun j=>by subst hE';exact Iff.rfl
 have e_r:E'.r=E.r:=by subst hE';rfl
 have e_Z:E'.Z=E.Z:=by subst hE';rfl
 have e_n:E'.n=E.n:=by subst hE';rfl
 have ok':cQ cx E' w:=by
  refine⟨fun j h=>?_,fun j h=>?_,fun j h=>?_,by rw[e_r];exact ok.rb,by rw[e_r];exact ok.inj,ok.os,ok.tape,ok.output,ok.size,ok.block,by rw[e_r];exact ok.pin,fun j h=>?_,fun j h h'=>?_,⟨fun l j h=>?_,fun l l' j h h'=>ok.sf.tt l l' j ((e_T _ _).1 h).2 ((e_T _ _).1 h').2,fun j h=>?_,ok.sf.zs,by rw[e_Z];exact ok.sf.ze⟩⟩
  ·rcases(e_F j).1 h with h|h
   ·exact ok.fb j h
   ·exact(ok.sf.tb o j h).1.1
  ·rcases(e_G j).1 h with h|h
   ·exact(e_F j).2 (.inl (ok.gf j h))
   ·exact(e_F j).2 (.inr h)
  ·rcases(e_G j).1 h with h|h
   ·exact ok.gn j h
   ·exact .inl (ok.sf.tb o j h).1.2
  ·rcases(e_F j).1 h with h|h
   ·exact ok.ff j h
   ·exact .inr (ok.sf.tb o j h).1.2
  ·rcases(e_F j).1 h with h|h
   ·exact ok.gc j h h'
   ·exact(ok.sf.tb o j h).2.2.2
  ·obtain⟨hl,h⟩:=(e_T _ _).1 h
   obtain⟨u1,u2,u3,u4⟩:=ok.sf.tb l j h
   refine⟨u1,fun hf=>?_,by rw[e_r];exact u3,u4⟩
   rcases(e_F j).1 hf with hf|hf
   ·exact u2 hf
   ·exact hl (ok.sf.tt l o j h hf)
  ·obtain⟨u1,u2,u3,u4⟩:=ok.sf.zc j h
   refine⟨u1,fun hf=>?_,by rw[e_r];exact u3,u4⟩
   rcases(e_F j).1 hf with hf|hf
   ·exact u2 hf
   ·have:=(ok.sf.tb o j hf).1.2;have:=u1.1;omega
 have hFr:∀l b c,E.r l=some (b,c)→¬E.F b→¬E'.F b:=fun l b c hr hn hf=>by
  rcases(e_F b).1 hf with hf|hf
  ·exact hn hf
  ·exact(ok.sf.tb o b hf).2.2.1 l c hr
 have kg:KG nx o E w E' w:=⟨fun l p _ h=>by rw[e_r];exact h,fun g j h=>by cases g;exact(e_F j).2 (.inl h);exact(e_G j).2 (.inl h),fun _ _ _=>rfl,fun l j hl h=>⟨(e_T _ _).2 ⟨hl,h⟩,rfl⟩,fun j h=>⟨by rw[e_Z];exact h,nW.refl w j⟩,fun l _=>by rw[e_n]⟩
 refine⟨E',EF hR ok' kg h1 h2 h3 h4 ?_ (fun _ _ _ _ _ _=>rfl) (fun l b c _ _ hr=>hFr l b c hr) (by rw[e_r];exact hR.dom) (fun l j h=>hR.td l j ((e_T _ _).1 h).2)⟩
 rcases hR.obs o _ ho with⟨h0,h0'⟩|⟨h0,b,c,hr,⟨hd,hS⟩,hF⟩
 ·have h0':els=[]:=h0'
  exact .inl ⟨by rw[e_n];exact h0,by rw[h0'];rfl⟩
 ·obtain⟨arr,hh,ha⟩:=hS.blk
  refine .inr ⟨by rw[e_n];exact h0,b,c,arr,by rw[e_r];exact hr,hh,ha,by simpa using hS.len,hS.cap,(fun e he=>by obtain⟨x,_,rfl⟩:=Ur.1 he;rfl),rp (sz:=2) (fun e he=>by obtain⟨x,_,rfl⟩:=Ur.1 he;rfl) fun i e hi=>?_,hFr o b c hr hF⟩
  rw[U6] at hi
  cases hx:els[i]? with
  |none=>rw[hx] at hi;cases hi
  |some x=>
   rw[hx] at hi;cases hi
   rw[MZ,rdL,rdL,rdL,Nat.zero_add]
   refine⟨⟨_,hS.a i x hx,by rw[rdD]⟩,⟨_,hS.s i x hx rfl,?_⟩,trivial⟩
   have hne:=hS.ne i x hx rfl
   rw[rdD]
   cases hdi:hd i with
   |none=>
    rw[hdi] at hne
    have hne:x.2=[]:=hne
    rw[hne];exact⟨none,0,rfl,Tt _,.inl rfl⟩
   |some p=>
    obtain⟨k,cc⟩:=p
    rw[hdi] at hne
    exact⟨some ⟨k,0,none⟩,cc,by simp[nv],by simpa using hne.2.2.1,.inr ⟨k,0,rfl,(e_G k).2 (.inr hne.1),hne.2.rd _⟩⟩
end
end Go.AM
namespace Go.AM
open Go.RowKit
def NE (f:C→Option C):Ob→Option Ob
 | .abs l h=>some (.abs l h)
 |x=>Cm f x
theorem J5 {E E':Env} {w:World} {f:C→Option C} {l o:Nat} {x y:Ob} (h:NE f x=some y) (hf:∀c c' u,f c=some c'→cvC E w c u→cvC E' w c' u) (hr:∀p,E.r l=some p→E'.r o=some p) (hn:E'.n o↔E.n l)
 (hH:∀g b,E.H g b→E'.H g b) (hF:∀b,¬E.F b→¬E'.F b) (hT:∀j z,x= .abs j z→∀b,E.T j b→E'.T j b) (hx:cy E w l x):cy E' w o y:=by
 cases x with
 |abs j z=>
  cases h
  rcases hx with⟨h1,h2⟩|⟨h1,b,c,k1,k2,k3⟩
  ·exact .inl ⟨hn.2 h1,h2⟩
  ·exact .inr ⟨fun k=>h1 (hn.1 k),b,c,hr _ k1,z.st _ _ _ _ w w k2 (hT j z rfl) rfl (fun _ _=>rfl),hF b k3⟩
 |var t cs=>exact w9 (x:=.var t cs) h hf (fun b c _ hr'=>hr _ hr') hn hH (fun b c _ _=>hF b) hx
 |row t sz els g m=>exact w9 (x:=.row t sz els g m) h hf (fun b c _ hr'=>hr _ hr') hn hH (fun b c _ _=>hF b) hx
 |rown t sz els g=>exact w9 (x:=.rown t sz els g) h hf (fun b c _ hr'=>hr _ hr') hn hH (fun b c _ _=>hF b) hx
def GR (f:C→Option C) (ob:List (Nat×Ob)):List (Nat×Nat)→Option (List (Nat×Ob))
 |[]=>some []
 |(k,o)::r=>match go ob o with
  |some x=>match NE f x,GR f ob r with
   |some y,some ys=>some ((k,y)::ys)
   |_,_=>none
  |none=>none
theorem GS {f:C→Option C} {ob:List (Nat×Ob)}:∀{m:List (Nat×Nat)} {xs:List (Nat×Ob)} {l:Nat} {x:Ob},GR f ob m=some xs→go xs l=some x→∃o x0,de m l=some o∧go ob o=some x0∧NE f x0=some x
 |[],xs,l,x,h,hg=>by simp[GR] at h;subst h;cases hg
 |(k,o)::r,xs,l,x,h,hg=>by
  simp only[GR] at h
  split at h
  ·rename_i x0 h0
   split at h
   ·rename_i y ys h1 h2
    simp at h;subst h
    by_cases e:k=l
    ·subst e;rw[cg] at hg;cases hg;exact⟨o,x0,by simp[de],h0,h1⟩
    ·rw[bA _ _ e] at hg
     obtain⟨o',x',a1,a2,a3⟩:=GS h2 hg
     exact⟨o',x',by simp only[de,pW e];exact a1,a2,a3⟩
   ·cases h
  ·cases h
def NF (m:List (Nat×Nat)):List (Nat×Ob)→Option (List (Nat×Ob))
 |[]=>some []
 |(k,x)::r=>match de m k,NE (rlC m) x,NF m r with
  |some o,some y,some ys=>some ((o,y)::ys)
  |_,_,_=>none
theorem J6 {m:List (Nat×Nat)} (hinj:∀a a' b,de m a=some b→de m a'=some b→a=a'):∀{ys ys':List (Nat×Ob)} {o:Nat} {y':Ob},NF m ys=some ys'→go ys' o=some y'→∃k y,de m k=some o∧go ys k=some y∧NE (rlC m) y=some y'
 |[],ys',o,y',h,hg=>by simp[NF] at h;subst h;cases hg
 |(k,x)::r,ys',o,y',h,hg=>by
  simp only[NF] at h
  split at h
  ·rename_i o1 y1 ys1 h1 h2 h3
   simp at h;subst h
   by_cases e:o1=o
   ·subst e;rw[cg] at hg;cases hg;exact⟨k,x,h1,cg _ _ _,h2⟩
   ·rw[bA _ _ e] at hg
    obtain⟨k',y,a1,a2,a3⟩:=J6 hinj h3 hg
    have hne:k≠k':=fun e'=>by subst e';rw[h1] at a1;cases a1;exact e rfl
    exact⟨k',y,a1,by rw[bA _ _ hne];exact a2,a3⟩
  ·cases h
def kpC (pn:List (Nat×Nat)):C→C
 | .p o k=>match de pn o with
  |some _=>.p o k
  |none=>.any
 | .d _ (.i k n)=>.d false (.i k n)
 | .d _ (.b b)=>.d false (.b b)
 | .d _ (.str s)=>.d false (.str s)
 |_=>.any
def kpT (pn:List (Nat×Nat)):T→T
 | .v (.c c)=>.v (.c (kpC pn c))
 |_=>.any
def kpS (pn:List (Nat×Nat)):List (Nat×T)→List (Nat×T)
 |[]=>[]
 |(k,t)::r=>(k,kpT pn t)::kpS pn r
theorem Nz (pn:List (Nat×Nat)):∀(sl:List (Nat×T)) (k:Nat),gt (kpS pn sl) k=kpT pn (gt sl k)
 |[],k=>rfl
 |(j,t)::r,k=>by
  rw[kpS]
  by_cases e:j=k
  ·subst e;rw[dL,dL]
  ·rw[cR _ _ e,cR _ _ e];exact Nz pn r k
def R9 (m:List (Nat×Nat)) (p:Nat×Nat):Bool:=m.any fun q=>d0 q.1 p.1&&d0 q.2 p.2
theorem Er {m:List (Nat×Nat)} {p:Nat×Nat} (h:R9 m p=true):p∈m:=by
 obtain⟨q,h1,h2⟩:=List.any_eq_true.1 h
 simp only[hV] at h2
 have a:=To h2.1
 have b:=To h2.2
 obtain⟨q1,q2⟩:=q
 obtain⟨p1,p2⟩:=p
 simp only at a b
 subst a;subst b;exact h1
def Rc (m m':List (Nat×Nat)) (ys:List (Nat×Ob)) (nx nx':Nat):Bool:=
 lG (m.map (·.1))&&lG (m.map (·.2))&&lG (m'.map (·.1))&&lG (m'.map (·.2))&&
 m.all (fun p=>nlt p.1 nx&&(!rsv p.2||rsv p.1)&&(!rsp p.1||R9 m' p&&match go ys p.1 with|some (.var _ _)=>true|_=>false))&&
 m'.all (fun p=>nlt p.2 nx'&&((rsp p.1&&R9 m p)||(!rsv p.1&&!rsv p.2)))
def zX (n:Nat):List (Nat×Ob)→Bool
 |[]=>true
 |(_,.abs j _)::r=>nlt j n&&zX n r
 |_::r=>zX n r
theorem zY {n k j:Nat} {z:Hid}:∀{ob:List (Nat×Ob)},zX n ob=true→go ob k=some (.abs j z)→j<n
 |[],_,h=>by cases h
 |(k',x)::r,h0,h=>by
  by_cases e:k'=k
  ·subst e;rw[cg] at h;cases h
   simp only[zX,hV] at h0;exact cK h0.1
  ·rw[bA _ _ e] at h
   cases x<;>first|(simp only[zX,hV] at h0;exact zY h0.2 h)|(simp only[zX] at h0;exact zY h0 h)
def pinned (m:List (Nat×Nat)):List (Nat×Nat):=(m.filter fun p=>rsp p.1).map fun p=>(p.2,p.1)
theorem o_inl {P:Program} {N N':Nat} {d:Tmp} {ty:TypeId} {ps:String} {af:Array Edge} {gd:Option (Nat×Bool)} {f:FuncId} {fn:Func} {c:Code} {args:List Operand} {tys:Array TypeId} {sl sl':List (Nat×T)} {ob obs2:List (Nat×Ob)} {nx nx':Nat} {ts ts2:List T} {ys ys':List (Nat×Ob)} {out out':T} {m m':List (Nat×Nat)} {sl0:List (Nat×T)} {rs:List ResultVar}
 (hf:P.funcs[f]?=some fn) (hb:fn.body=some c) (hnm:(fn.name== "runtime.NumGoroutine")=false) (hN:fn.ntmps=N') (hrs:fn.results.toList=rs) (h:AWC P N' c ⟨sl0,obs2,nx⟩ (sE N' P rs ys out []))
 (ht:yc sl args=some ts) (ha:rY (rlC (inv m)) ts=some ts2) (hle:Nat.ble ts2.length N'=true) (hs0:sK 0 ts2=sl0) (hx:GR (rlC (inv m)) ob m=some obs2)
 (hm:Rc m m' ys nx nx'=true) (hj:zX nx' ys=true) (hy:NF m' ys=some ys') (ho:wO (rlC m') out=some out') (hs:kpS (pinned m) sl=sl') (hd:nlt d N=true):
 AWO P N ⟨some d,.call ⟨.value (.func f),args.toArray,tys⟩,ty,ps,af,gd⟩ ⟨sl,ob,nx⟩ ⟨(d,out')::sl',ys',nx'⟩:=by
 subst hs0;subst hrs;subst hs
 intro cx E a w hR
 have ok:=hR.ok
 obtain⟨t1,t2⟩:=o7 ht
 simp only[Rc,hV,TX,T8,Ue] at hm
 obtain⟨⟨⟨⟨⟨hm1,hm2⟩,hm3⟩,hm4⟩,hm5⟩,hm6⟩:=hm
 have ndm1:=ij hm1
 have ndm2:=ij hm2
 have ndm3:=ij hm3
 have ndm4:=ij hm4
 have inv_of:∀{k o},de m k=some o→de (inv m) o=some k:=fun h=>gF (by rw[s8];exact ndm2) (nq.2 (dN h))
 have of_inv:∀{k o},de (inv m) o=some k→de m k=some o:=fun h=>gF ndm1 (nq.1 (dN h))
 have inv_of':∀{k o},de m' k=some o→de (inv m') o=some k:=fun h=>gF (by rw[s8];exact ndm4) (nq.2 (dN h))
 have of_inv':∀{k o},de (inv m') o=some k→de m' k=some o:=fun h=>gF ndm3 (nq.1 (dN h))
 obtain⟨E2,hE2⟩:∃E2:Env,E2={E with r:=fun k=>match de m k with|some o=>E.r o|none=>none,n:=fun k=>match de m k with|some o=>E.n o|none=>False}:=⟨_,rfl⟩
 have e_r:∀k o,de m k=some o→E2.r k=E.r o:=fun k o h=>by subst hE2;simp only[h]
 have e_n:∀k o,de m k=some o→(E2.n k↔E.n o):=fun k o h=>by subst hE2;simp only[h]
 have e_r':∀k p,E2.r k=some p→∃o,de m k=some o∧E.r o=some p:=fun k p h=>by
  subst hE2
  simp only at h
  split at h
  ·rename_i o h1;exact⟨o,h1,h⟩
  ·cases h
 have e_F:E2.F=E.F:=by subst hE2;rfl
 have e_G:E2.G=E.G:=by subst hE2;rfl
 have e_T:E2.T=E.T:=by subst hE2;rfl
 have e_Z:E2.Z=E.Z:=by subst hE2;rfl
 have e_H:∀g,E2.H g=E.H g:=fun g=>by cases g;exact e_F;exact e_G
 let cx2:Cx:=⟨cx.w0,cx.W,E2.r,cx.F0,cx.Z,cx.gw,cx.G0⟩
 have ok2:cQ cx2 E2 w:=by
  refine⟨by rw[e_F];exact ok.fb,by rw[e_F,e_G];exact ok.gf,by rw[e_G];exact ok.gn,fun k b c h=>?_,fun k k' b c c' h h'=>?_,ok.os,ok.tape,ok.output,ok.size,ok.block,fun _ _ _ h=>h,by rw[e_F];exact ok.ff,by rw[e_F];exact ok.gc,⟨fun l b h=>?_,by rw[e_T];exact ok.sf.tt,fun b h=>?_,ok.sf.zs,by rw[e_Z];exact ok.sf.ze⟩⟩
  ·obtain⟨o,h1,h2⟩:=e_r' k _ h
   obtain⟨h3,h4⟩:=ok.rb o b c h2
   refine⟨h3,h4.imp id fun⟨q1,q2⟩=>⟨q1,?_⟩⟩
   rcases(hm5 _ (dN h1)).1.2 with h|h
   ·rw[h] at q2;cases q2
   ·exact h
  ·obtain⟨o,h1,h2⟩:=e_r' k _ h
   obtain⟨o',h1',h2'⟩:=e_r' k' _ h'
   have:=ok.inj o o' b c c' h2 h2';subst this
   have q1:=inv_of h1
   have q2:=inv_of h1'
   rw[q1] at q2;exact Option.some.inj q2
  ·rw[e_T] at h
   obtain⟨h1,h2,h3,h4⟩:=ok.sf.tb l b h
   exact⟨h1,by rw[e_F];exact h2,fun k c hk=>by obtain⟨o,_,h5⟩:=e_r' k _ hk;exact h3 o c h5,h4⟩
  ·obtain⟨h1,h2,h3,h4⟩:=ok.sf.zc b h
   exact⟨h1,by rw[e_F];exact h2,fun k c hk=>by obtain⟨o,_,h5⟩:=e_r' k _ hk;exact h3 o c h5,h4⟩
 have hin:∀c c' u,rlC (inv m) c=some c'→cvC E w c u→cvC E2 w c' u:=by
  intro c c' u h hc
  cases c with
  |d g x=>cases h;exact cj (fun _ _=>rfl) (fun b hb=>by rw[e_H];exact hb) _ _ hc
  |nil=>cases h;exact hc
  |any=>cases h;trivial
  |fn f=>cases h;exact hc
  |w l n=>
   simp only[rlC] at h
   split at h
   ·rename_i k h1;cases h
    obtain⟨b,cc,q1,q2⟩:=hc
    exact⟨b,cc,(e_r k l (of_inv h1)).trans q1,q2⟩
   ·cases h
  |wn l n=>
   simp only[rlC] at h
   split at h
   ·rename_i k h1;cases h
    rcases hc with⟨q0,q1⟩|⟨q0,b,cc,q1,q2⟩
    ·exact .inl ⟨(e_n k l (of_inv h1)).2 q0,q1⟩
    ·exact .inr ⟨fun q=>q0 ((e_n k l (of_inv h1)).1 q),b,cc,(e_r k l (of_inv h1)).trans q1,q2⟩
   ·cases h
  |p l n=>
   simp only[rlC] at h
   split at h
   ·rename_i k h1;cases h
    obtain⟨b,cc,q1,q2⟩:=hc
    exact⟨b,cc,(e_r k l (of_inv h1)).trans q1,q2⟩
   ·cases h
  |_=>cases h
 have hTV:TV E2 w ts2 (args.map a.eval):=AS hin ha t1 (fun x t hm=>by have:=hR.op x;rwa [Lk.mem t2 x t hm] at this)
 obtain⟨v1,v2⟩:=zv 0 hTV
 have hle':ts2.length≤N':=Nat.le_of_ble_eq_true hle
 obtain⟨vals,hvals⟩:∃vals:Array Value,vals=(args.map a.eval).toArray:=⟨_,rfl⟩
 have hsz:vals.size=ts2.length:=by rw[hvals];simpa using v1
 have hR2:Rel N' cx2 E2 ⟨sK 0 ts2,obs2,nx⟩ {tmps:=vals++Array.replicate (fn.ntmps-vals.size) undef,defers:=[]} w:=by
  refine⟨ok2,fun k p h=>?_,fun k x h=>?_,fun k=>?_,rfl,by simp;omega,fun l b h=>by rw[e_T] at h;exact hR.td l b h⟩
  ·obtain⟨o,h1,_⟩:=e_r' k p h
   exact cK (hm5 _ (dN h1)).1.1
  ·obtain⟨o,x0,h1,h2,h3⟩:=GS hx h
   exact J5 h3 hin (fun p hp=>(e_r k o h1).trans hp) (e_n k o h1) (fun g b hb=>by rw[e_H];exact hb) (fun b hb=>by rw[e_F];exact hb) (fun j z _ b hb=>by rw[e_T];exact hb) (hR.obs o x0 h2)
  ·by_cases hk:k<ts2.length
   ·obtain⟨u,h3,h4⟩:=(v2 k).1 ⟨Ud _,by omega⟩
    have:(vals++Array.replicate (fn.ntmps-vals.size) undef).getD k undef=u:=by
     have h5:vals[k]?=some u:=by rw[hvals];simpa using h3
     have h6:(vals++Array.replicate (fn.ntmps-vals.size) undef)[k]?=some u:=by rw[Array.getElem?_append_left (by omega)];exact h5
     simp[h6]
    rw[this];exact h4
   ·have:=(v2 k).2 (by omega)
    show cvT _ w (gt (sK 0 ts2) k) _
    rw[this];trivial
 have hwp:=h cx2 E2 _ w hR2
 have hcalls:Calls P f vals w fun e w'=>∃v E',e= .returned v∧cQ cx2 E' w'∧cvT E' w' out v∧(∀l y,go ys l=some y→cy E' w' l y):=by
  refine calls_of_wp hf hb (wp_mono hwp ?_)
  rintro e a' w' ⟨E',s',hR',hq⟩
  have fin:(∃s'' vs,cZ N' s' s''∧mU P s'' fn.results.toList vs∧N4 vs=out∧LoA s''.ob ys∧LoA s''.ob [])→
   a'.defers=[]∧∃v,(results fn a'.tmps).run P w'= .ok v w'∧∃v' E',Ending.returned v= .returned v'∧cQ cx2 E' w'∧cvT E' w' out v'∧(∀l y,go ys l=some y→cy E' w' l y):=by
   rintro⟨s'',vs,hw,hres,ho,hys,_⟩
   obtain⟨E'',hR''⟩:=hw _ _ _ _ hR'
   obtain⟨us,k1,k2⟩:=sF hR'' hres
   have hmm:(fn.results.mapM (ke a'.tmps)).run P w'= .ok us.toArray w':=by
    rw[←Array.toArray_toList (xs:=fn.results),List.mapM_toArray]
    simp only[Sem.run_map,k1]
    rfl
   have hrr:results fn a'.tmps=(fn.results.mapM (ke a'.tmps))>>= fun vs=>pure (if h:vs.size=1 then vs[0] else .tuple vs):=rfl
   have hv:∃v,(results fn a'.tmps).run P w'= .ok v w'∧cvT E'' w' out v:=by
    subst ho
    match vs,us,k2 with
    |[],[],_=>exact⟨.tuple #[],by rw[hrr];simp[hmm],#[],rfl,trivial⟩
    |[v],[u],k2=>exact⟨u,by rw[hrr];simp[hmm],k2.1⟩
    |v1::v2::vs,u1::u2::us,k2=>exact⟨.tuple (u1::u2::us).toArray,by rw[hrr];simp[hmm],_,rfl,k2⟩
   obtain⟨v,q1,q2⟩:=hv
   exact⟨hR''.dfr,v,q1,v,E'',rfl,hR''.ok,q2,fun l y h=>hR''.obs l y (DM hys h)⟩
  cases e with
  |normal=>exact fin hq
  |ret=>exact fin hq
  |_=>exact hq.elim
 have hent:(callFunc f vals).run P w= .ok (.enter f vals) w:=by simp[callFunc,hf,hb];simpa using hnm
 unfold Oper.wp
 have hrun:(execOp a.eval ⟨some d,.call ⟨.value (.func f),args.toArray,tys⟩,ty,ps,af,gd⟩).run P w= .ok (.enter f vals) w:=by
  subst hvals
  simp only[execOp,resolve,Act.eval,Deferred.ofValue,Sem.run_bind,Sem.run_pure,Result.andThen_ok,invoke]
  simpa using hent
 rw[hrun,Oper.upon_enter]
 refine hcalls.mono ?_
 rintro e w' ⟨v,E',rfl,ok',hv,hobs⟩
 obtain⟨E3,hE3⟩:∃E3:Env,E3={E' with r:=fun o=>match de (inv m') o with|some k=>E'.r k|none=>none,n:=fun o=>match de (inv m') o with|some k=>E'.n k|none=>False,T:=fun l b=>l<nx'∧E'.T l b}:=⟨_,rfl⟩
 have f_r:∀k o,de m' k=some o→E3.r o=E'.r k:=fun k o h=>by subst hE3;simp only[inv_of' h]
 have f_n:∀k o,de m' k=some o→(E3.n o↔E'.n k):=fun k o h=>by subst hE3;simp only[inv_of' h]
 have f_r':∀o p,E3.r o=some p→∃k,de m' k=some o∧E'.r k=some p:=fun o p h=>by
  subst hE3
  simp only at h
  split at h
  ·rename_i k h1;exact⟨k,of_inv' h1,h⟩
  ·cases h
 have f_F:E3.F=E'.F:=by subst hE3;rfl
 have f_G:E3.G=E'.G:=by subst hE3;rfl
 have f_T:∀l b,E3.T l b↔l<nx'∧E'.T l b:=fun l b=>by subst hE3;exact Iff.rfl
 have f_Z:E3.Z=E'.Z:=by subst hE3;rfl
 have f_H:∀g,E3.H g=E'.H g:=fun g=>by cases g;exact f_F;exact f_G
 have hpin:∀k o p,rsp k=true→(k,o)∈m→E'.r k=some p→E.r o=some p:=fun k o p hk hm hp=>by
  have h1:E2.r k=some p:=ok'.pin k p hk hp
  rwa [e_r k o (gF ndm1 hm)] at h1
 have ok3:cQ cx E3 w':=by
  refine⟨by rw[f_F];exact ok'.fb,by rw[f_F,f_G];exact ok'.gf,by rw[f_G];exact ok'.gn,fun o b c h=>?_,fun o o' b c c' h h'=>?_,ok'.os,ok'.tape,ok'.output,ok'.size,ok'.block,fun o p ho h=>?_,by rw[f_F];exact ok'.ff,by rw[f_F];exact ok'.gc,⟨fun l b h=>?_,fun l l' b h h'=>ok'.sf.tt l l' b ((f_T _ _).1 h).2 ((f_T _ _).1 h').2,fun b h=>?_,ok'.sf.zs,by rw[f_Z];exact ok'.sf.ze⟩⟩
  ·obtain⟨k,h1,h2⟩:=f_r' o _ h
   obtain⟨h3,h4⟩:=ok'.rb k b c h2
   refine⟨h3,?_⟩
   rcases(hm6 _ (dN h1)).2 with⟨q1,q2⟩|⟨q1,q2⟩
   ·exact(ok.rb o b c (hpin k o _ q1 (Er q2) h2)).2
   ·exact .inl (h4.resolve_right (fun q=>by rw[q1] at q;cases q.2))
  ·obtain⟨k,h1,h2⟩:=f_r' o _ h
   obtain⟨k',h1',h2'⟩:=f_r' o' _ h'
   have:=ok'.inj k k' b c c' h2 h2';subst this
   rw[h1] at h1';exact Option.some.inj h1'
  ·obtain⟨k,h1,h2⟩:=f_r' o _ h
   rcases(hm6 _ (dN h1)).2 with⟨q1,q2⟩|⟨q1,q2⟩
   ·exact ok.pin o p ho (hpin k o _ q1 (Er q2) h2)
   ·rw[nu q2] at ho;cases ho
  ·obtain⟨_,h⟩:=(f_T _ _).1 h
   obtain⟨h1,h2,h3,h4⟩:=ok'.sf.tb l b h
   exact⟨h1,by rw[f_F];exact h2,fun o c ho=>by obtain⟨k,_,h5⟩:=f_r' o _ ho;exact h3 k c h5,h4⟩
  ·obtain⟨h1,h2,h3,h4⟩:=ok'.sf.zc b h
   exact⟨h1,by rw[f_F];exact h2,fun o c ho=>by obtain⟨k,_,h5⟩:=f_r' o _ ho;exact h3 k c h5,h4⟩
 have hout:∀c c' u,rlC m' c=some c'→cvC E' w' c u→cvC E3 w' c' u:=by
  intro c c' u h hc
  cases c with
  |d g x=>cases h;exact cj (fun _ _=>rfl) (fun b hb=>by rw[f_H];exact hb) _ _ hc
  |nil=>cases h;exact hc
  |any=>cases h;trivial
  |fn f=>cases h;exact hc
  |w l n=>
   simp only[rlC] at h
   split at h
   ·rename_i k h1;cases h
    obtain⟨b,cc,q1,q2⟩:=hc
    exact⟨b,cc,(f_r l k h1).trans q1,q2⟩
   ·cases h
  |wn l n=>
   simp only[rlC] at h
   split at h
   ·rename_i k h1;cases h
    rcases hc with⟨q0,q1⟩|⟨q0,b,cc,q1,q2⟩
    ·exact .inl ⟨(f_n l k h1).2 q0,q1⟩
    ·exact .inr ⟨fun q=>q0 ((f_n l k h1).1 q),b,cc,(f_r l k h1).trans q1,q2⟩
   ·cases h
  |p l n=>
   simp only[rlC] at h
   split at h
   ·rename_i k h1;cases h
    obtain⟨b,cc,q1,q2⟩:=hc
    exact⟨b,cc,(f_r l k h1).trans q1,q2⟩
   ·cases h
  |_=>cases h
 have hinj':∀a a' b,de m' a=some b→de m' a'=some b→a=a':=fun a a' b h h'=>by
  have h1:=inv_of' h
  rw[inv_of' h'] at h1;exact(Option.some.inj h1).symm
 refine⟨E3,ok3,fun o p h=>?_,fun o y h=>?_,fun k=>?_,hR.dfr,by simpa [Act.put] using hR.size,fun l b h=>((f_T _ _).1 h).1⟩
 ·obtain⟨k,h1,_⟩:=f_r' o p h
  exact cK (hm6 _ (dN h1)).1
 ·obtain⟨k,y0,h1,h2,h3⟩:=J6 hinj' hy h
  refine J5 h3 hout (fun p hp=>(f_r k o h1).trans hp) (f_n k o h1) (fun g b hb=>by rw[f_H];exact hb) (fun b hb=>by rw[f_F];exact hb) (fun j z e b hb=>(f_T _ _).2 ⟨zY hj (e▸h2),hb⟩) (hobs k y0 h2)
 ·show cvT E3 w' (gt ((d,out')::kpS (pinned m) sl) k) ((a.put (some d) v).tmps.getD k undef)
  rw[fO (by rw[hR.size];exact cK hd)]
  by_cases hk:d=k
  ·subst hk;rw[dL,if_pos rfl];exact wP hout ho hv
  ·rw[cR _ _ hk,if_neg hk,Nz]
   have h0:=hR.sl k
   simp only at h0
   cases hg:gt sl k with
   |tup ts=>trivial
   |any=>trivial
   |v vv=>
    cases vv with
    |agg cs=>trivial
    |c c=>
     rw[hg] at h0
     have h0:cvC E w c (a.tmps.getD k undef):=h0
     show cvC E3 w' (kpC (pinned m) c) _
     cases c with
     |p o j=>
      simp only[kpC]
      split
      ·rename_i k' h1
       have hmem:=dN h1
       simp only[pinned,Ur,List.mem_filter,Prod.mk.injEq] at hmem
       obtain⟨⟨p1,p2⟩,⟨hp1,hp2⟩,hp3,hp4⟩:=hmem
       simp only at hp2 hp3 hp4
       subst hp3;subst hp4
       obtain⟨b,cc,q1,q2⟩:=h0
       have hh:=(hm5 _ hp1).2
       rcases hh with hh|⟨hh1,hh2⟩
       ·rw[hh] at hp2;cases hp2
       ·split at hh2
        ·rename_i t cs hgo
         obtain⟨b',c',arr,r1,_⟩:=hobs _ _ hgo
         have r2:=hpin _ _ _ hp2 hp1 r1
         rw[q1] at r2
         have r3:=f_r _ _ (gF ndm3 (Er hh1))
         exact⟨b,cc,by rw[r3,r1];exact r2.symm,q2⟩
        ·cases hh2
      ·trivial
     |d g x=>
      cases x<;>first|trivial|(simp only[kpC,cvC,rdD] at h0 ⊢;exact h0)
     |_=>trivial
end Go.AM
