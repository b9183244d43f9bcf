/- A part. -/
import Derived.Test.YtljhooecmjejiaaGreatP1
set_option linter.unusedVariables false
set_option linter.unusedSimpArgs false
open Option renaming bind_some→Up,bind→Un
open Bool renaming and_eq_true→hV,not_true→TF,or_eq_false_iff→SX,not_eq_true'→Tc,not_eq_false'→Uy,not_false→UO,true_and→UP,and_true→UQ,or_self→US
open List renaming pairwise_append→UM,nil_append→T8,mem_of_getElem?→RS,length_cons→SQ,getElem?_of_mem→SS,getElem?_eq_getElem→v0,mem_singleton→UN,cons_append→Sm,all_eq_true→Ui,length_singleton→UV,takeWhile_append_dropWhile→UW,mem_append→TG,length_nil→Uu,length_append→Tq,rel_of_pairwise_cons→U3,getElem?_append_left→RY,filter_cons→UX,length_filter_le→UY,getElem?_eq_none→UR,dropWhile_subset→UZ,getElem?_zipIdx→U0,takeWhile_cons→UA,find?_eq_none→U1,any_eq_false→Ul,length→UT,foldl_cons→UU,range→SO,take_left→U2,drop_left→U4
open Int renaming toNat_natCast→Us
namespace Go.AM
attribute [local simp] bz be bb
theorem Iy {α:Type} (p:α→Bool) (x:α) (d:List α) (hx:p x=true):∀(t:List α) (i:Nat),(∀y∈t,p y=false)→mA p (i:Int) (t++x::d)=((i+t.length:Nat):Int)
 |[],i,_=>by simp[mA,hx]
 |y::t,i,h=>by
  rw[Sm,mA,h y (by simp),cond_false]
  have:=Iy p x d hx t (i+1) (fun z hz=>h z (by simp[hz]))
  rw[show((i+1:Nat):Int)=(i:Int)+1 by omega] at this
  rw[this];simp;omega
theorem Iz {α:Type} (p:α→Bool):∀(t:List α) (i:Int),(∀y∈t,p y=false)→mA p i t= -1
 |[],i,_=>rfl
 |y::t,i,h=>by rw[mA,h y (by simp),cond_false];exact Iz p t _ fun z hz=>h z (by simp[hz])
def CJ:List ax→Int→Int→List ax
 |[],i,n=>[⟨i,n⟩]
 |x::xs,i,n=>if x.au<i then x::CJ xs i n else if x.au=i then⟨i,x.ea+n⟩::xs else⟨i,n⟩::x::xs
def JP:List ax→Int→Int→List ax
 |[],i,n=>[]
 |x::xs,i,n=>if x.au=i then(if n<x.ea then⟨i,x.ea-n⟩::xs else xs) else x::JP xs i n
def qp (h:List ax):Int:=(h.map ax.ea).sum
structure mJ (a:aj):Prop where
 t:0≤a.eL∧a.eL≤100000
 v:0≤a.bP∧a.bP≤a.eL
 s:0≤a.d4∧a.d4≤a.eL
 l:a.aA.length≤8
 r:∀x∈a.aA,0≤x.au∧1≤x.ea∧x.ea≤100000
 o:a.aA.Pairwise fun x y=>x.au<y.au
 e:a.bP+a.d4+qp a.aA=a.eL
theorem B2 {α:Type} {key:α→Int}:∀{xs:List α},(∀(k:Nat) (x y:α),xs[k]?=some x→xs[k+1]?=some y→key x<key y)→xs.Pairwise fun x y=>key x<key y
 |[],_=>.nil
 |[x],_=>by simp
 |x::y::xs,h=>by
  have ih:=B2 (xs:=y::xs) (key:=key) fun k a b h1 h2=>h (k+1) a b (by simpa using h1) (by simpa using h2)
  have hxy:=h 0 x y rfl rfl
  refine List.Pairwise.cons (fun z hz=>?_) ih
  rcases List.mem_cons.1 hz with e|hz
  ·subst e;exact hxy
  ·exact Int.lt_trans hxy (U3 ih hz)
theorem Bz {α:Type} {key:α→Int} {xs:List α} (h:∀(k:Nat) (x:α),xs[k]?=some x→kr key xs k x=true):xs.Pairwise fun x y=>key x<key y:=by
 refine B2 fun k x y h1 h2=>?_
 have:=h (k+1) y h2
 simp only[kr,h1,Tc] at this
 exact leB_f.1 this
theorem yK {α:Type} {key:α→Int} {xs:List α} (h:xs.Pairwise fun x y=>key x<key y) {k:Nat} {x:α} (hx:xs[k]?=some x):kr key xs k x=true:=by
 cases k with
 |zero=>rfl
 |succ k=>
  have hl:=(List.getElem?_eq_some_iff.1 hx).1
  simp only[kr,v0 (show k<xs.length by omega),Tc]
  rw[leB_f]
  have:=List.pairwise_iff_getElem.1 h k (k+1) (by omega) hl (by omega)
  rwa [(List.getElem?_eq_some_iff.1 hx).2] at this
theorem PW:∀(h:List ax) (s:Int),(∀x∈h,0≤x.ea∧x.ea≤100000)→0≤s→s+100000*h.length≤9000000000000→h.foldl (fun s x=>WR (s+x.ea)) s=s+qp h
 |[],s,_,_,_=>by simp[qp]
 |x::h,s,hx,h0,h1=>by
  have hh:=hx x (by simp)
  simp only[SQ] at h1
  rw[UU,bB (by omega),PW h _ (fun y hy=>hx y (by simp[hy])) (by omega) (by omega)]
  simp[qp];omega
theorem Ju {a:aj} (l:a.aA.length≤8) (r:∀x∈a.aA,0≤x.au∧1≤x.ea∧x.ea≤100000):NI a=qp a.aA:=by
 rw[NI,PW _ _ (fun x hx=>by have:=r x hx;omega) (by omega) (by omega)];omega
theorem kX:∀{h:List ax},(∀x∈h,0≤x.au∧1≤x.ea∧x.ea≤100000)→0≤qp h∧qp h≤100000*h.length∧∀x∈h,x.ea≤qp h
 |[],_=>by simp[qp]
 |x::h,r=>by
  have ih:=kX (h:=h) fun y hy=>r y (by simp[hy])
  have hx:=r x (by simp)
  have e:qp (x::h)=x.ea+qp h:=by simp[qp]
  rw[e]
  refine⟨by omega,by simp only[SQ];omega,fun y hy=>?_⟩
  rcases List.mem_cons.1 hy with e|hy
  ·subst e;omega
  ·have:=ih.2.2 y hy;omega
theorem yy {a:aj}:iI a=true↔mJ a:=by
 constructor
 ·intro h
  simp only[iI,hV,bp,eo] at h
  obtain⟨h1,h2,h3,h4,h5,h6⟩:=h
  have h4:=t0 h4
  have r:∀x∈a.aA,0≤x.au∧1≤x.ea∧x.ea≤100000:=fun x hx=>by
   obtain⟨k,hk⟩:=SS hx
   have:=h5 k x hk
   simp only[FO,hV,Tc,bp] at this
   have h0:=oF this.1
   omega
  have hs:=kX r
  refine⟨h1,h2,h3,by omega,r,Bz fun k x hk=>?_,?_⟩
  ·have:=h5 k x hk
   simp only[FO,hV] at this
   exact this.2.2
  ·have h6:=mR h6
   rw[Ju (by omega) r,bB (n:=a.bP+a.d4) (by omega),bB (by omega)] at h6
   exact h6
 ·rintro⟨h1,h2,h3,h4,r,h5,h6⟩
  have hs:=kX r
  simp only[iI,hV,bp,eo]
  refine⟨h1,h2,h3,leB_t.2 (by omega),fun k x hk=>?_,eqB_t.2 ?_⟩
  ·have hx:=r x (RS hk)
   simp only[FO,hV,Tc,bp]
   exact⟨ltB_f.2 (by omega),by omega,yK h5 hk⟩
  ·rw[Ju (by omega) r,bB (n:=a.bP+a.d4) (by omega),bB (by omega)]
   exact h6
theorem mJ.ok {a:aj} (h:mJ a):jH a:=⟨by have:=h.l;omega,fun _ _=>trivial⟩
theorem JQ {h:List ax} (o:h.Pairwise fun x y=>x.au<y.au) (i:Int):
 (∃t m d,h=t++⟨i,m⟩::d∧(∀x∈t,x.au<i)∧∀x∈d,i<x.au)∨(∃t d,h=t++d∧(∀x∈t,x.au<i)∧∀x∈d,i<x.au):=by
 induction h with
 |nil=>exact .inr ⟨[],[],rfl,by simp,by simp⟩
 |cons x h ih=>
  have hx:=fun y hy=>U3 o (a':=y) hy
  by_cases h1:x.au<i
  ·rcases ih (List.pairwise_cons.1 o).2 with⟨t,m,d,e,h2,h3⟩|⟨t,d,e,h2,h3⟩
   ·exact .inl ⟨x::t,m,d,by rw[e];rfl,fun y hy=>by rcases List.mem_cons.1 hy with e|hy;(subst e;exact h1);exact h2 y hy,h3⟩
   ·exact .inr ⟨x::t,d,by rw[e];rfl,fun y hy=>by rcases List.mem_cons.1 hy with e|hy;(subst e;exact h1);exact h2 y hy,h3⟩
  ·by_cases h2:x.au=i
   ·exact .inl ⟨[],x.ea,h,by rw[←h2];rfl,by simp,fun y hy=>by have:=hx y hy;omega⟩
   ·refine .inr ⟨[],x::h,rfl,by simp,fun y hy=>?_⟩
    rcases List.mem_cons.1 hy with e|hy
    ·subst e;omega
    ·have:=hx y hy;omega
theorem H5 {t d:List ax} {i m n:Int} (h:∀x∈t,x.au<i):CJ (t++⟨i,m⟩::d) i n=t++⟨i,m+n⟩::d:=by
 induction t with
 |nil=>simp[CJ]
 |cons x t ih=>rw[Sm,CJ,if_pos (h x (by simp)),ih fun y hy=>h y (by simp[hy])];rfl
theorem H6 {t d:List ax} {i n:Int} (h:∀x∈t,x.au<i) (h2:∀x∈d,i<x.au):CJ (t++d) i n=t++⟨i,n⟩::d:=by
 induction t with
 |nil=>cases d with
  |nil=>rfl
  |cons y d=>have:=h2 y (by simp);rw[T8,CJ,if_neg (by omega),if_neg (by omega)];rfl
 |cons x t ih=>rw[Sm,CJ,if_pos (h x (by simp)),ih fun y hy=>h y (by simp[hy])];rfl
theorem Id {t d:List ax} {i m n:Int} (h:∀x∈t,x.au<i):JP (t++⟨i,m⟩::d) i n=t++(if n<m then⟨i,m-n⟩::d else d):=by
 induction t with
 |nil=>simp[JP]
 |cons x t ih=>rw[Sm,JP,if_neg (by have:=h x (by simp);omega),ih fun y hy=>h y (by simp[hy])];rfl
theorem lv {a:aj} {t d:List ax} {i m:Int} (e:a.aA=t++⟨i,m⟩::d) (h:∀x∈t,x.au<i):gG a i=m:=by
 rw[gG,e,List.find?_append,show t.find? (fun x=>eqB x.au i)=none from by rw[U1];intro x hx;have:=h x hx;simp[eqB];omega]
 simp[eqB]
theorem p7 {a:aj} {i:Int} (h:∀x∈a.aA,x.au≠i):gG a i=0:=by
 rw[gG,show a.aA.find? (fun x=>eqB x.au i)=none from by rw[U1];intro x hx;have:=h x hx;simp[eqB];omega]
theorem Qe {t d:List ax} {i:Int} (h:∀x∈t,x.au<i) (h2:∀x∈d,i≤x.au):((t++d).takeWhile fun x=>ltB x.au i)=t:=by
 rw[List.takeWhile_append_of_pos (fun x hx=>ltB_t.2 (h x hx))]
 cases d with
 |nil=>simp
 |cons y d=>rw[UA,show ltB y.au i=false from ltB_f.2 (h2 y (by simp))];simp
theorem Ip {L:Int→Option (cB Int Int)} {a:aj} {i:Int} (ok:mJ a) (hL:∀v1,L v1=bif ltB v1 ((a.aA.length:Nat):Int) then(Un (ix a.aA v1) fun x2=>bif eqB x2.au i then(dn (some v1)) else(some (.next (WR (v1+1))))) else(dn (some (-1)))):
 iter L FU 0=some (mA (fun x=>eqB x.au i) 0 a.aA):=by
 have:=ok.l
 exact w6 (L:=L) a.aA (fun x=>eqB x.au i) (by omega) (fun k x hx hk=>by
  simp only[hL,cR hk,bb,hx,cp (show k<9223372036854775807 by omega),Up,cond_true]
  cases eqB x.au i<;>rfl) (by simp[hL,dn])
theorem HE {a:aj} (ok:mJ a) {i n:Int} (h0:0≤n∧n≤100000):yM a.aA i n=some (CJ a.aA i n):=by
 have hl:=ok.l
 have hrun:=AZ (L:=qQ a.aA i) a.aA (fun x=>ltB x.au i) (by omega) (fun k x hx=>by
  have hk:=(List.getElem?_eq_some_iff.1 hx).1
  simp[qQ,cR hk,hx]) (by simp[qQ])
 rw[yM,hrun]
 rcases JQ ok.o i with⟨t,m,d,e,h1,h2⟩|⟨t,d,e,h1,h2⟩
 ·have hm:m≤100000∧1≤m:=by have:=ok.r ⟨i,m⟩ (by rw[e];simp);simp only at this;omega
  have htl:t.length+1≤8:=by have:=congrArg UT e;simp at this;omega
  rw[e,Qe h1 (fun x hx=>by rcases List.mem_cons.1 hx with e|hx;(subst e;simp);have:=h2 x hx;omega),H5 h1]
  have hx:(t++(⟨i,m⟩:ax)::d)[t.length]?=some ⟨i,m⟩:=by simp
  have a1:cS 16 (t++(⟨i,m⟩:ax)::d).length=true:=ct (by omega) (by rw[←e];omega)
  simp only[cR (show t.length<(t++(⟨i,m⟩:ax)::d).length by simp),bb,hx,T8,a1,Up,cond_true,be,Us,bB (n:=m+n) (by omega)]
  simp
 ·have htl:t.length≤8∧d.length≤8:=by have:=congrArg UT e;simp at this;omega
  rw[e,Qe h1 (fun x hx=>by have:=h2 x hx;omega),H6 h1 h2]
  have hc:(bif ltB ((t.length:Nat):Int) (((t++d).length:Nat):Int) then(Un (ix (t++d) ((t.length:Nat):Int)) fun x8=>some (eqB x8.au i)) else some false)=some false:=by
   cases d with
   |nil=>simp
   |cons y d=>
    have:=h2 y (by simp)
    rw[cR (show t.length<(t++y::d).length by simp),bb,show(t++y::d)[t.length]?=some y by simp,Up,eqB_f.2 (show y.au≠i by omega)];rfl
  have a1:fw (t++d) 0 ((t.length:Nat):Int)=true:=by simp[fw];omega
  have a2:fw (t++d) ((t.length:Nat):Int) (((t++d).length:Nat):Int)=true:=by simp[fw];omega
  have a3:cS 16 t.length=true:=ct (by omega) (by omega)
  have a4:cS 16 (t++[(⟨i,n⟩:ax)]).length=true:=ct (by omega) (by simp;omega)
  have a5:cS 16 (t++[(⟨i,n⟩:ax)]++d).length=true:=ct (by omega) (by simp;omega)
  simp only[Up,hc,cond_false,a1,a2,cond_true,T8,Us,U2,U4,a3,a4,a5]
  simp
theorem Md {t d:List ax} {i m:Int} (h1:∀x∈t,x.au<i):mA (fun x=>eqB x.au i) 0 (t++(⟨i,m⟩:ax)::d)=((t.length:Nat):Int):=by
 have:=Iy (fun x:ax=>eqB x.au i) ⟨i,m⟩ d (by simp) t 0 (fun y hy=>eqB_f.2 (by have:=h1 y hy;omega))
 simpa using this
theorem QI {t d:List ax} {i:Int} (h1:∀x∈t,x.au<i) (h2:∀x∈d,i<x.au):mA (fun x=>eqB x.au i) 0 (t++d)= -1:=
 Iz _ _ _ fun y hy=>eqB_f.2 (by rcases List.mem_append.1 hy with hy|hy;(have:=h1 y hy;omega);have:=h2 y hy;omega)
theorem HF {a:aj} (ok:mJ a) {t d:List ax} {i m n:Int} (e:a.aA=t++⟨i,m⟩::d) (h1:∀x∈t,x.au<i) (hn:0≤n∧n≤m):yN a.aA ((t.length:Nat):Int) n=some (JP a.aA i n):=by
 have hl:=ok.l
 have hm:m≤100000∧1≤m:=by have:=ok.r ⟨i,m⟩ (by rw[e];simp);simp only at this;omega
 have htl:t.length+1+d.length≤8:=by have:=congrArg UT e;simp at this;omega
 rw[e,Id h1]
 have hx:(t++(⟨i,m⟩:ax)::d)[t.length]?=some ⟨i,m⟩:=by simp
 have a1:cS 16 (t++(⟨i,m⟩:ax)::d).length=true:=ct (by omega) (by rw[←e];omega)
 simp only[yN,T8,a1,cond_true,bb,hx,Up,Us]
 by_cases hb:n<m
 ·rw[ltB_t.2 hb,if_pos hb]
  simp only[cond_true,bB (n:=m-n) (by omega)]
  simp
 ·rw[ltB_f.2 (by omega),if_neg hb]
  have a2:fw (t++(⟨i,m⟩:ax)::d) 0 ((t.length:Nat):Int)=true:=by simp[fw];omega
  have a3:fw (t++(⟨i,m⟩:ax)::d) ((t.length+1:Nat):Int) (((t++(⟨i,m⟩:ax)::d).length:Nat):Int)=true:=by simp[fw];omega
  have e2:(t++(⟨i,m⟩:ax)::d).drop (t.length+1)=d:=by rw[←List.drop_drop,U4];rfl
  have a4:cS 16 (t++d).length=true:=ct (by omega) (by simp;omega)
  simp only[cond_false,a2,cp (show t.length<9223372036854775807 by omega),a3,cond_true,Us,e2,U2,a4]
def full (a:aj) (i:Int):Bool:=leB 8 ((a.aA.length:Nat):Int)&&!a.aA.any fun x=>eqB x.au i
def lW (x y:Int):Int:=if y<x then y else x
def ip (a:aj) (i n:Int):aj×Int:=
 bif ltB i 0||(!inR n 1 100000||(eqB a.bP 0||full a i)) then(a,0) else({a with bP:=a.bP-lW n a.bP,aA:=CJ a.aA i (lW n a.bP)},lW n a.bP)
def vr (a:aj) (i n:Int):aj:=bif ltB 0 n then {a with d4:=a.d4+n,aA:=JP a.aA i n} else a
theorem Fp (x y:Int):Ai x y=some (lW x y):=by
 rw[Ai,lW];by_cases h:y<x
 ·rw[ltB_t.2 h,if_pos h];rfl
 ·rw[ltB_f.2 (by omega),if_neg h];rfl
theorem min_i (x y:Int):QF x y=some (lW x y):=Fp x y
def xc (x y:Int):Int:=if x<y then y else x
theorem Fo (x y:Int):Ah x y=some (xc x y):=by
 rw[Ah,xc];by_cases h:x<y
 ·rw[ltB_t.2 h,if_pos h];rfl
 ·rw[ltB_f.2 (by omega),if_neg h];rfl
theorem max_i (x y:Int):QD x y=some (xc x y):=Fo x y
theorem any_A {t d:List ax} {i m:Int}:((t++(⟨i,m⟩:ax)::d).any fun x=>eqB x.au i)=true:=by simp
theorem PP {t d:List ax} {i:Int} (h1:∀x∈t,x.au<i) (h2:∀x∈d,i<x.au):((t++d).any fun x=>eqB x.au i)=false:=by
 rw[Ul];intro y hy
 rcases List.mem_append.1 hy with hy|hy
 ·have:=h1 y hy;simp[eqB];omega
 ·have:=h2 y hy;simp[eqB];omega
theorem Kz {a:aj} (ok:mJ a) (i n:Int):wd a i n=some (ip a i n):=by
 have hv:=yy.2 ok
 have hd:=ok.v
 have ht:=ok.t
 have hfind:mg a i=some (mA (fun x=>eqB x.au i) 0 a.aA):=Ip ok fun v=>rfl
 have hf:(bif leB 8 ((a.aA.length:Nat):Int) then(Un (mg a i) fun r5=>some (ltB r5 0)) else some false)=some (full a i):=by
  rw[hfind,full]
  cases leB 8 ((a.aA.length:Nat):Int)
  ·rfl
  ·rcases JQ ok.o i with⟨t,m,d,e,h1,h2⟩|⟨t,d,e,h1,h2⟩
   ·rw[e,Md h1,any_A];simp[ltB]
   ·rw[e,QI h1 h2,PP h1 h2];simp[ltB]
 simp only[wd,yW ok.ok,tj ok.ok,hv,hf,et,Fp,Up,TF,cond_false,ip]
 cases h1:ltB i 0<;>cases h2:inR n 1 100000<;>cases h3:eqB a.bP 0<;>cases h4:full a i<;>try rfl
 rw[bp] at h2
 have h3:=EN h3
 have hmin:1≤lW n a.bP∧lW n a.bP≤100000∧lW n a.bP≤a.bP:=by unfold lW;split<;>omega
 simp only[TF,cond_false,Up,HE ok (show 0≤lW n a.bP∧lW n a.bP≤100000 by omega),bB (n:=a.bP-lW n a.bP) (by omega),US]
theorem Cd {a:aj} (ok:mJ a) (i:Int):0≤gG a i∧gG a i≤100000:=by
 rcases JQ ok.o i with⟨t,m,d,e,h1,h2⟩|⟨t,d,e,h1,h2⟩
 ·rw[lv e h1];have:=ok.r ⟨i,m⟩ (by rw[e];simp);simp only at this;omega
 ·rw[p7 (fun x hx=>by rw[e] at hx;rcases List.mem_append.1 hx with hx|hx;(have:=h1 x hx;omega);have:=h2 x hx;omega)];omega
theorem Oy {a:aj} (ok:mJ a) {i n:Int} (hn:0≤n∧n≤gG a i):DC a i n=some (vr a i n,true):=by
 have hv:=yy.2 ok
 have ht:=ok.t
 have hs:=ok.s
 have hr:=Cd ok i
 have hfind:mg a i=some (mA (fun x=>eqB x.au i) 0 a.aA):=Ip ok fun v=>rfl
 have hin:inR n 0 (gG a i)=true:=bp.2 hn
 simp only[DC,yW ok.ok,tj ok.ok,hv,hfind,FQ ok.ok,et,hin,Up,TF,cond_false,vr]
 cases h0:ltB 0 n
 ·rfl
 ·have h0:=km h0
  rcases JQ ok.o i with⟨t,m,d,e,h1,h2⟩|⟨t,d,e,h1,h2⟩
  ·rw[lv e h1] at hn hr
   have hc:=HF ok e h1 hn
   rw[show mA (fun x=>eqB x.au i) 0 a.aA=((t.length:Nat):Int) by rw[e];exact Md h1]
   simp only[hc,Up,cond_true,bB (n:=a.d4+n) (by omega)]
  ·rw[p7 (fun x hx=>by rw[e] at hx;rcases List.mem_append.1 hx with hx|hx;(have:=h1 x hx;omega);have:=h2 x hx;omega)] at hn
   omega
end Go.AM
namespace Go.AM
attribute [local simp] bz be bb
structure WOK (w:a8):Prop where
 n:1≤w.bj∧w.bj≤100000
 l:w.aw.length≤8
 f:1≤w.bj-w.aw.length
 u:∀(k:Nat) (x:ae),w.aw[k]?=some x→x.cO=w.bj-w.aw.length+k∧x.aN.length≤60
theorem WOK.ok {w:a8} (h:WOK w):lJ w:=⟨by have:=h.l;omega,fun x hx=>by
 obtain⟨k,hk⟩:=SS hx
 exact⟨by have:=(h.u k x hk).2;omega,fun _ _=>trivial⟩⟩
theorem oI {n:Nat}:tZ n=true↔n≤60:=by simp[tZ,ltB];omega
theorem Ea {w:a8}:iY w=true↔WOK w:=by
 constructor
 ·intro h
  simp only[iY,hV,bp,eo,unB,oI] at h
  obtain⟨h1,h2,h3,h4⟩:=h
  have h2:=t0 h2
  have h3:=t0 h3
  rw[bB (by omega)] at h3
  refine⟨h1,by omega,h3,fun k x hx=>?_⟩
  have hk:=(List.getElem?_eq_some_iff.1 hx).1
  have:=h4 k x hx
  have e:=mR this.1
  rw[bB (n:=w.bj-(w.aw.length:Int)) (by omega),bB (by omega)] at e
  exact⟨e,this.2⟩
 ·rintro⟨h1,h2,h3,h4⟩
  simp only[iY,hV,bp,eo,unB,oI]
  refine⟨h1,leB_t.2 (by omega),leB_t.2 (by rw[bB (by omega)];omega),fun k x hx=>?_⟩
  have hk:=(List.getElem?_eq_some_iff.1 hx).1
  have:=h4 k x hx
  exact⟨eqB_t.2 (by rw[bB (n:=w.bj-(w.aw.length:Int)) (by omega),bB (by omega)];exact this.1),this.2⟩
def fa (xs:List ae):Int:=(xs.map fun x=>(x.aN.length:Int)).sum
theorem tU:∀{xs:List ae},(∀x∈xs,x.aN.length≤60)→0≤fa xs∧fa xs≤60*xs.length
 |[],_=>by simp[fa]
 |x::xs,h=>by
  have ih:=tU (xs:=xs) fun y hy=>h y (by simp[hy])
  have:=h x (by simp)
  have e:fa (x::xs)=x.aN.length+fa xs:=by simp[fa]
  rw[e];simp only[SQ];omega
theorem Fs {xs:List ae} (h:∀x∈xs,x.aN.length≤60) (hl:xs.length≤1000):uN xs=fa xs:=by
 have key:∀(xs:List ae) (s:Int),(∀x∈xs,x.aN.length≤60)→0≤s→s+60*xs.length≤9000000000→xs.foldl (fun a x=>WR (a+((x.aN.length:Nat):Int))) s=s+fa xs:=by
  intro xs
  induction xs with
  |nil=>intro s _ _ _;simp[fa]
  |cons x xs ih=>
   intro s h h0 h1
   have hx:=h x (by simp)
   simp only[SQ] at h1
   rw[UU,bB (by omega),ih _ (fun y hy=>h y (by simp[hy])) (by omega) (by omega)]
   simp[fa];omega
 have:=key xs 0 h (by omega) (by omega)
 rw[uN,this];omega
theorem WOK.d {w:a8} (h:WOK w):∀x∈w.aw,x.aN.length≤60:=fun x hx=>by
 obtain⟨k,hk⟩:=SS hx;exact(h.u k x hk).2
structure QOK (q:cY):Prop where
 i:0≤q.au
 u:0≤q.dX
 g:q.dX≤q.cE
 m:q.cE≤100000
theorem B5 {q:cY}:jb q=true↔QOK q:=by
 simp only[jb,hV,leB_t]
 exact⟨fun⟨a,b,c,d⟩=>⟨a,b,c,d⟩,fun⟨a,b,c,d⟩=>⟨a,b,c,d⟩⟩
theorem Dv {q:cY} (h:QOK q):Kv q=q.cE-q.dX:=by
 rw[Kv,B5.2 h];obtain⟨a,b,c,d⟩:=h
 simp only[cond_true];rw[bB (by omega)]
structure SP (s:ag):Prop where
 ok:eO s
 rcd:qZ s.bv=true
 plan:py s.gN=true
 page:jz s.ik=true
 win:WOK s.an
 q:QOK s.bO
 st:0≤s.bg∧s.bg≤1
 k1:s.bg=1→oA s.aJ=true
 k2:0<s.bC→oA s.aD.eP=true
 ps:0≤s.bC∧s.bC≤999999
 gn:0≤s.aa∧s.aa≤999999
 ep:0≤s.aR∧s.aR≤999999
 rk:0≤s.aJ∧s.aJ≤2147483646
 ce:0≤s.aU∧s.aU≤5
 qu:0≤s.d9∧s.d9≤5
 rt:0≤s.dS∧s.dS≤3
 sl:s.ao.length≤24
 sd:∀p∈s.ao,p.aN.length≤60
 nx:s.an.bj≤s.ao.length+1
 un:∀x∈s.an.aw,AP s x=true
 pd:fa s.an.aw≤s.bO.cE-s.bO.dX
theorem wl {s:ag} (ok:eO s):iJ s=true↔SP s:=by
 constructor
 ·intro h
  simp only[iJ,hV,bp,Ea,B5,Ui,yx,oI,sF,BV] at h
  obtain⟨h1,h2,h3,h4,h5,h6,⟨h7,h8⟩,h9,h10,h11,h12,h13,h14,h15,h16,h17,h18,h19,h20⟩:=h
  have h16:=t0 h16
  have h18:=t0 h18
  have h20:=t0 h20
  rw[bB (by omega)] at h18
  rw[Dv h5,Fs h4.d (by have:=h4.l;omega)] at h20
  refine⟨ok,h1,h2,h3,h4,h5,h6,fun e=>?_,fun e=>?_,h9,h10,h11,h12,h13,h14,h15,by omega,h17,h18,h19,h20⟩
  ·rw[eqB_t.2 e] at h7;simpa using h7
  ·rw[ltB_t.2 e] at h8;simpa using h8
 ·rintro⟨_,h1,h2,h3,h4,h5,h6,h7,h8,h9,h10,h11,h12,h13,h14,h15,h16,h17,h18,h19,h20⟩
  simp only[iJ,hV,bp,Ea,B5,Ui,yx,oI,sF,BV]
  refine⟨h1,h2,h3,h4,h5,h6,⟨?_,?_⟩,h9,h10,h11,h12,h13,h14,h15,leB_t.2 (by omega),h17,leB_t.2 (by rw[bB (by omega)];omega),h19,leB_t.2 (by rw[Dv h5,Fs h4.d (by have:=h4.l;omega)];omega)⟩
  ·cases e:eqB s.bg 1
   ·rfl
   ·exact h7 (mR e)
  ·cases e:ltB 0 s.bC
   ·rfl
   ·exact h8 (km e)
def pL (s:ag) (b:List Int):ag×Bool:=bif leB 24 ((s.ao.length:Nat):Int)||ltB 60 ((b.length:Nat):Int) then(s,false) else({s with ao:=s.ao++[⟨b⟩]},true)
theorem Qd {s:ag} (h:eO s) {b:List Int}:jn s b=some (pL s b):=by
 simp only[jn,mG h,Up,pL,AD,T8]
 cases h1:leB 24 ((s.ao.length:Nat):Int)<;>cases h2:ltB 60 ((b.length:Nat):Int)<;>try rfl
 have h1:=vG h1
 have h2:=oF h2
 simp only[cond_false,US,Up,ct (by_:=1) (n:=b.length) (by omega) (by omega),cond_true,ct (by_:=24) (n:=(s.ao++[(⟨b⟩:bw)]).length) (by omega) (by simp;omega)]
def FX (s:ag) (m:az):bH:=
 let q:=s.bv.cO+1
 let v:=vec s.bv.eP (Ey s.bv.ID q) q
 bif eqB s.bv.cO 999999 then⟨s,[]⟩ else⟨{s with bv:={s.bv with cO:=q},aD:=v,bC:=q},[⟨2,m.aU,q,0,0,v,0⟩]⟩
def tJ (s:ag) (k:Int):az:=sX s.aJ ⟨k,s.aU,s.aa,s.aR,0,cg,0⟩
def ub (s:ag) (c:Int):ag:=⟨s.bv,s.gN,1,cg,0,s.bC,s.aD.eP,s.aR+1,c,0,eQ,s.ao,s.an,s.dS,s.bO⟩
def xU (s:ag) (m:az):bH:=
 bif leB s.bC 0||(!eqB m.aa s.bC||(!eqB m.bM s.aD.ug||leB 999999 s.aR)) then⟨s,[]⟩ else⟨ub s m.aU,[tJ (ub s m.aU) 4]⟩
def pX (s:ag) (m:az):Bool:=eqB s.bg 1&&(eqB m.aa s.aa&&tg s.aJ m)
def uT (s:ag) (m:az):ag:={s with aR:=m.aR,aU:=m.aU,d9:=0,ik:=eQ,dS:=0}
def xT (s:ag) (m:az):bH:=
 bif !pX s m||(ltB m.aR s.aR||(eqB m.aR s.aR&&!eqB m.aU s.aU)) then⟨s,[]⟩ else⟨uT s m,[tJ (uT s m) 6]⟩
def i7 (w:a8) (k:Int):a8:=bif ltB w.bj k then w else⟨w.bj,w.aw.filter fun x=>leB k x.cO⟩
def tp (q:cY) (n:Int):cY:=bif inR n 0 (q.cE-q.dX) then {q with dX:=q.dX+n} else q
def ks (s:ag) (k:Int):ag:={s with d9:=0,an:=i7 s.an k,bO:=tp s.bO (fa s.an.aw-fa (i7 s.an k).aw)}
def FW (s:ag) (m:az):bH:=bif !pX s m||ltB s.an.bj m.bM then⟨s,[]⟩ else⟨ks s m.bM,[]⟩
def sUp (s:ag) (m:az):bH:=
 bif !kq m then⟨s,[]⟩ else bif eqB m.aP 1 then FX s m else bif eqB m.aP 3 then xU s m else bif eqB m.aP 5 then xT s m else bif eqB m.aP 8 then FW s m else⟨s,[]⟩
def jj (s:ag):ag:={s with aD:=cg,bC:=0,d9:=0,ik:=eQ,dS:=0}
theorem vK {s:ag} (h:eO s):kR s=some ⟨s,[]⟩:=by simp[kR,mG h]
theorem Qy {s:ag} (h:eO s):tG s=some (jj s):=by simp[tG,mG h,jj]
theorem Jg {r:aC} (h:qZ r=true):0≤r.cO∧r.cO≤999999:=by
 simp only[qZ,hV,bp] at h;omega
theorem att_s {s:ag} (h:SP s) (m:az):kE s m=some (FX s m):=by
 have hr:=Jg h.rcd
 simp only[kE,Ls,mD,M2,h.rcd,JA,vK h.ok,mG h.ok,Up,TF,cond_false,bB (n:=s.bv.cO+1) (by omega),FX]
 cases he:eqB s.bv.cO 999999
 ·simp only[cond_false,Up,be,eqB_f.2 (show s.bv.cO+1≠s.bv.cO by omega),UP,UQ]
 ·simp only[cond_true,Up,be,UP]
theorem Rh {s:ag} (h:SP s) (m:az):iU s m=some (xU s m):=by
 have he:=h.ep
 simp only[iU,lA,vK h.ok,mG h.ok,oo,xA,Up,bB (n:=s.aR+1) (by omega),xU]
 cases leB s.bC 0<;>cases eqB m.aa s.bC<;>cases eqB m.bM s.aD.ug<;>cases leB 999999 s.aR<;>rfl
theorem IF (s:ag) (m:az):qk s m=some (pX s m):=by
 simp only[qk,D7,Up,pX];cases eqB s.bg 1<;>cases eqB m.aa s.aa<;>rfl
theorem Pc {s:ag} (h:SP s) (m:az):gS s m=some (xT s m):=by
 simp only[gS,IF,vK h.ok,mG h.ok,oo,xA,Up,xT]
 cases pX s m<;>cases ltB m.aR s.aR<;>cases eqB m.aR s.aR<;>cases eqB m.aU s.aU<;>rfl
end Go.AM
namespace Go.AM
attribute [local simp] bz be bb
theorem Ql {w:a8} (h:WOK w) (k:Int):it w k=some (i7 w k):=by
 have hl:=h.l
 simp only[it,Ay h.ok,Up,i7]
 cases ltB w.bj k
 ·have:=fy (step:=eW w k) w.aw (fun i s=>((i:Int),s)) (sa 32 (fun x=>leB k x.cO) (fun x=>x)) some (by omega)
   (fun i x s hx hi=>by
    have hd:=h.d x (RS hx)
    simp only[eW,cR hi,bb,hx,Up,cond_true,T8,ct (by_:=1) (n:=x.aN.length) (by omega) (by omega),cp (show i<9223372036854775807 by omega),sa]
    cases leB k x.cO<;>simp
    cases cS 32 (s.length+1)<;>rfl) (fun s=>by simp[eW]) ([]:List ae)
  rw[tw (by omega) _ _ _ _ (by simp;omega)] at this
  simp only[cond_false,Up,show iter (eW w k) FU (0,[])=_ from this,T8,List.map_id']
 ·rfl
theorem JO {q:cY} (h:QOK q) (n:Int):∃b,lK q n=some (tp q n,b):=by
 obtain⟨a,b,c,d⟩:=h
 simp only[lK,vR,B5.2 ⟨a,b,c,d⟩,et,Up,TF,cond_false,bB (n:=q.cE-q.dX) (by omega),tp]
 cases hn:inR n 0 (q.cE-q.dX)
 ·exact⟨false,rfl⟩
 ·rw[bp] at hn
  simp only[TF,cond_false,bB (n:=q.dX+n) (by omega)];exact⟨true,rfl⟩
theorem Co (p:ae→Bool):∀xs:List ae,fa xs=fa (xs.filter p)+fa (xs.filter fun x=>!p x)
 |[]=>rfl
 |x::xs=>by
  have ih:=Co p xs
  have e:∀ys,fa (x::ys)=x.aN.length+fa ys:=fun ys=>by simp[fa]
  rw[UX,UX,e]
  cases p x<;>simp[e]<;>omega
theorem Og {w:a8} (h:WOK w) {k:Int} (hk:ltB w.bj k=false):fa w.aw-fa (i7 w k).aw=fa (w.aw.filter fun x=>ltB x.cO k):=by
 rw[i7,hk,Co (fun x=>leB k x.cO) w.aw]
 simp only[cond_false]
 have:(fun x:ae=>ltB x.cO k)=fun x=>!leB k x.cO:=by funext x;rw[IK]
 rw[this];omega
theorem ack_s {s:ag} (h:SP s) (m:az):jx s m=some (FW s m):=by
 obtain⟨b,hb⟩:=JO h.q (fa s.an.aw-fa (i7 s.an m.bM).aw)
 have hu:=h.win.d
 have hl:=h.win.l
 have hu2:∀x∈(i7 s.an m.bM).aw,x.aN.length≤60:=fun x hx=>by
  rw[i7] at hx;revert hx
  cases ltB s.an.bj m.bM
  ·exact fun hx=>hu x (List.mem_filter.1 hx).1
  ·exact hu x
 have hl2:(i7 s.an m.bM).aw.length≤8:=by
  rw[i7];cases ltB s.an.bj m.bM
  ·have:=UY (fun x:ae=>leB m.bM x.cO) s.an.aw
   simp only[cond_false];omega
  ·exact hl
 have s1:=tU hu
 have s2:=tU hu2
 have e1:WR (uN s.an.aw-uN (i7 s.an m.bM).aw)=fa s.an.aw-fa (i7 s.an m.bM).aw:=by
  rw[Fs hu (by omega),Fs hu2 (by omega),bB (by omega)]
 simp only[jx,IF,vK h.ok,mG h.ok,Ql h.win,O3 (show s.an.aw.length≤1048576 by omega),O3 (show(i7 s.an m.bM).aw.length≤1048576 by omega),Up,e1,hb,FW]
 cases pX s m<;>cases ltB s.an.bj m.bM<;>rfl
theorem up_s {s:ag} (h:SP s) (m:az):kJ s m=some (sUp s m):=by
 simp only[kJ,I3,vK h.ok,att_s h,Rh h,Pc h,ack_s h,Up,sUp]
 cases kq m<;>cases eqB m.aP 1<;>cases eqB m.aP 3<;>cases eqB m.aP 5<;>cases eqB m.aP 8<;>rfl
end Go.AM
namespace Go.AM
attribute [local simp] bz be bb
theorem mh (t d:List ax):qp (t++d)=qp t+qp d:=by simp[qp,List.sum_append]
@[simp] theorem sumR_cons (x:ax) (d:List ax):qp (x::d)=x.ea+qp d:=by simp[qp]
theorem MY {t d:List ax} {i m m':Int} (h:(t++⟨i,m⟩::d).Pairwise fun x y=>x.au<y.au):(t++⟨i,m'⟩::d).Pairwise fun x y=>x.au<y.au:=by
 rw[UM,List.pairwise_cons] at h ⊢
 obtain⟨h1,⟨h2,h3⟩,h4⟩:=h
 exact⟨h1,⟨fun y hy=>h2 y hy,h3⟩,fun x hx y hy=>by
  rcases List.mem_cons.1 hy with e|hy
  ·subst e;exact h4 x hx ⟨i,m⟩ (by simp)
  ·exact h4 x hx y (by simp[hy])⟩
theorem Rd {t d:List ax} {i m:Int} (h:(t++d).Pairwise fun x y=>x.au<y.au) (h1:∀x∈t,x.au<i) (h2:∀x∈d,i<x.au):(t++(⟨i,m⟩:ax)::d).Pairwise fun x y=>x.au<y.au:=by
 rw[UM] at h ⊢
 obtain⟨a,b,c⟩:=h
 exact⟨a,List.pairwise_cons.2 ⟨fun y hy=>h2 y hy,b⟩,fun x hx y hy=>by
  rcases List.mem_cons.1 hy with e|hy
  ·subst e;exact h1 x hx
  ·exact c x hx y hy⟩
theorem Do {t d:List ax} {i:Int} (h1:∀x∈t,x.au<i) (h2:∀x∈d,i<x.au):∀x∈t++d,x.au≠i:=fun x hx=>by
 rcases List.mem_append.1 hx with hx|hx
 ·have:=h1 x hx;omega
 ·have:=h2 x hx;omega
theorem z7 {a:aj} (ok:mJ a) (i n:Int):
 mJ (ip a i n).1∧gG (ip a i n).1 i=gG a i+(ip a i n).2∧0≤(ip a i n).2∧(ip a i n).2≤a.bP∧(ip a i n).1.bP=a.bP-(ip a i n).2∧(ip a i n).1.d4=a.d4∧(ip a i n).1.eL=a.eL:=by
 have hv:=ok.v
 have ht:=ok.t
 have hs:=ok.s
 have hl:=ok.l
 have he:=ok.e
 rw[ip]
 cases h1:ltB i 0<;>cases h2:inR n 1 100000<;>cases h3:eqB a.bP 0<;>cases h4:full a i<;>simp only[TF,UO,Bool.or_false,Bool.or_true,Bool.true_or,Bool.false_or,cond_true,cond_false]<;>try exact⟨ok,by omega,by omega,by omega,by omega,by simp,by simp⟩
 rw[bp] at h2
 have h1:=oF h1
 have h3:=EN h3
 have hmin:1≤lW n a.bP∧lW n a.bP≤100000∧lW n a.bP≤a.bP:=by unfold lW;split<;>omega
 generalize lW n a.bP=g at*
 rcases JQ ok.o i with⟨t,m,d,e,k1,k2⟩|⟨t,d,e,k1,k2⟩
 ·have hm:=ok.r ⟨i,m⟩ (by rw[e];simp)
  have hsum:=(kX ok.r).2.2 ⟨i,m⟩ (by rw[e];simp)
  simp only at hm hsum
  rw[e,mh,sumR_cons] at he
  simp only at he
  have hs1:=kX (h:=t) fun x hx=>ok.r x (by rw[e];simp[hx])
  have hs2:=kX (h:=d) fun x hx=>ok.r x (by rw[e];simp[hx])
  have ho:=ok.o
  rw[e] at ho
  rw[lv e k1]
  simp only[e,H5 k1]
  have hll:(t++(⟨i,m+g⟩:ax)::d).length=a.aA.length:=by rw[e];simp
  refine⟨⟨ht,by simp only;omega,hs,by simp only;omega,fun x hx=>?_,MY ho,by simp only[mh,sumR_cons];omega⟩,lv (t:=t) (d:=d) rfl k1,by omega,by omega,trivial,trivial,trivial⟩
  rcases List.mem_append.1 hx with hx|hx
  ·exact ok.r x (by rw[e];simp[hx])
  ·rcases List.mem_cons.1 hx with e'|hx
   ·subst e';simp only;omega
   ·exact ok.r x (by rw[e];simp[hx])
 ·rw[p7 (a:=a) (fun x hx=>by rw[e] at hx;exact Do k1 k2 x hx)]
  have hb:a.aA.length<8:=by
   rw[full,e,PP k1 k2] at h4
   simp only[UO,UQ] at h4
   have:=vG h4
   rw[e];omega
  rw[e,mh] at he
  have ho:=ok.o
  rw[e] at ho
  simp only[e,H6 k1 k2]
  refine⟨⟨ht,by simp only;omega,hs,by simp only;rw[e] at hb;simp at hb ⊢;omega,fun x hx=>?_,Rd ho k1 k2,by simp only[mh,sumR_cons];omega⟩,Eq.trans (lv (t:=t) (d:=d) rfl k1) (by omega),by omega,by omega,trivial,trivial,trivial⟩
  rcases List.mem_append.1 hx with hx|hx
  ·exact ok.r x (by rw[e];simp[hx])
  ·rcases List.mem_cons.1 hx with e'|hx
   ·subst e';simp only;omega
   ·exact ok.r x (by rw[e];simp[hx])
theorem LF {a:aj} (ok:mJ a) {i n:Int} (hn:0≤n∧n≤gG a i):
 mJ (vr a i n)∧gG (vr a i n) i=gG a i-n∧(vr a i n).d4=a.d4+n∧(vr a i n).bP=a.bP∧(vr a i n).eL=a.eL:=by
 have hv:=ok.v
 have ht:=ok.t
 have hs:=ok.s
 have hl:=ok.l
 have he:=ok.e
 rw[vr]
 cases h0:ltB 0 n
 ·have h0:=oF h0
  have:n=0:=by omega
  subst this
  simp only[cond_false]
  exact⟨ok,by omega,by omega,by simp,by simp⟩
 ·have h0:=km h0
  simp only[cond_true]
  rcases JQ ok.o i with⟨t,m,d,e,k1,k2⟩|⟨t,d,e,k1,k2⟩
  ·rw[lv e k1] at hn ⊢
   have hm:=ok.r ⟨i,m⟩ (by rw[e];simp)
   simp only at hm
   rw[e,mh,sumR_cons] at he
   have hs1:=kX (h:=t) fun x hx=>ok.r x (by rw[e];simp[hx])
   have hs2:=kX (h:=d) fun x hx=>ok.r x (by rw[e];simp[hx])
   have ho:=ok.o
   rw[e] at ho
   have hll:t.length+1+d.length=a.aA.length:=by rw[e];simp;omega
   simp only at he
   simp only[e,Id k1]
   by_cases hb:n<m
   ·simp only[if_pos hb]
    refine⟨⟨ht,by simp only;omega,by simp only;omega,by simp;omega,fun x hx=>?_,MY ho,by simp only[mh,sumR_cons];omega⟩,lv (t:=t) (d:=d) rfl k1,trivial,trivial,trivial⟩
    rcases List.mem_append.1 hx with hx|hx
    ·exact ok.r x (by rw[e];simp[hx])
    ·rcases List.mem_cons.1 hx with e'|hx
     ·subst e';simp only;omega
     ·exact ok.r x (by rw[e];simp[hx])
   ·simp only[if_neg hb]
    have ho2:(t++d).Pairwise fun x y=>x.au<y.au:=ho.sublist (by simp)
    refine⟨⟨ht,by simp only;omega,by simp only;omega,by simp;omega,fun x hx=>ok.r x (by rw[e];rcases List.mem_append.1 hx with hx|hx<;>simp[hx]),ho2,by simp only[mh];omega⟩,?_,trivial,trivial,trivial⟩
    rw[p7 (a:={a with d4:=a.d4+n,aA:=t++d}) (Do k1 k2)];omega
  ·rw[p7 (fun x hx=>by rw[e] at hx;exact Do k1 k2 x hx)] at hn
   omega
structure MOK (a:aj) (q:cY):Prop where
 acc:mJ a
 quo:QOK q
 res:gG a q.au=q.cE
theorem tE {a:aj} {q:cY}:vd a q=true↔MOK a q:=by
 simp only[vd,hV,yy,B5,eqB_t]
 exact⟨fun⟨x,y,z⟩=>⟨x,y,z⟩,fun⟨x,y,z⟩=>⟨x,y,z⟩⟩
def iQ (a:aj) (q:cY) (n:Int):aj×cY:=
 let r:=ip a q.au n
 (r.1,{q with cE:=q.cE+r.2})
theorem z6 {a:aj} {q:cY} (h:MOK a q) (n:Int):MOK (iQ a q n).1 (iQ a q n).2∧q.cE≤(iQ a q n).2.cE:=by
 obtain⟨h1,h2,h3,h4,h5,h6,h7⟩:=z7 h.acc q.au n
 have:=Cd h1 q.au
 have hr:=h.res
 obtain⟨a1,a2,a3,a4⟩:=h.quo
 exact⟨⟨h1,⟨a1,a2,by simp only[iQ];omega,by simp only[iQ];omega⟩,by simp only[iQ];omega⟩,by simp only[iQ];omega⟩
theorem Kx {a:aj} {q:cY} (h:MOK a q) (n:Int):lM a q n=some (iQ a q n):=by
 have h0:=(z6 h n).1.quo
 have hq:=h.quo
 simp only[iQ] at h0
 have hg:=h0.m
 have hg2:=h0.g
 simp only at hg hg2
 simp only[lM,Kz h.acc,Dd h.acc.ok,tE.2 h,vR,Up,TF,cond_false,bB (n:=q.cE+(ip a q.au n).2) (by have:=hq.u;omega),B5.2 h0,iQ]
def jJ (a:aj) (q:cY):aj×cY:=(vr a q.au q.dX,⟨q.au,q.cE-q.dX,0⟩)
theorem Kw {a:aj} {q:cY} (h:MOK a q):MOK (jJ a q).1 (jJ a q).2∧(jJ a q).1.d4=a.d4+q.dX∧(jJ a q).1.eL=a.eL∧(jJ a q).1.bP=a.bP:=by
 obtain⟨a1,a2,a3,a4⟩:=h.quo
 have hr:=h.res
 obtain⟨h1,h2,h3,h4,h5⟩:=LF h.acc (i:=q.au) (n:=q.dX) (by omega)
 exact⟨⟨h1,⟨a1,by simp[jJ],by simp only[jJ];omega,by simp only[jJ];omega⟩,by simp only[jJ];omega⟩,h3,h5,h4⟩
theorem M9 {a:aj} {q:cY} (h:MOK a q):nh a q=some (jJ a q):=by
 obtain⟨a1,a2,a3,a4⟩:=h.quo
 have hr:=h.res
 simp only[nh,Dd h.acc.ok,tE.2 h,Oy h.acc (i:=q.au) (n:=q.dX) (by omega),Up,TF,cond_false,bB (n:=q.cE-q.dX) (by omega),jJ]
def jP (s:ag) (n:Int):Int:=xc 0 (fa s.an.aw+n-(s.bO.cE-s.bO.dX))
theorem MG {s:ag} (hw:WOK s.an) (hq:QOK s.bO) {n:Int} (hn:0≤n∧n≤1000):kD s n=some (jP s n):=by
 have hs:=tU hw.d
 have hl:=hw.l
 obtain⟨a1,a2,a3,a4⟩:=hq
 simp only[kD,kC,O3 (show s.an.aw.length≤1048576 by omega),Fs hw.d (show s.an.aw.length≤1000 by omega),P8,Dv ⟨a1,a2,a3,a4⟩,Fo,Up,jP,bB (n:=fa s.an.aw+n) (by omega),bB (n:=fa s.an.aw+n-(s.bO.cE-s.bO.dX)) (by omega)]
def cQ (s:ag) (a:aj) (n:Int):ag×aj:=
 bif leB (jP s n) 0 then(s,a) else
  let r:=iQ a s.bO (xc (jP s n) s.gN.ei)
  ({s with bO:=r.2},r.1)
theorem LS {s:ag} (h:SP s) {a:aj} (hm:MOK a s.bO) {n:Int} (hn:0≤n∧n≤1000):na s a n=some (cQ s a n):=by
 simp only[na,mG h.ok,MG h.win h.q hn,yW hm.acc.ok,Fo,Kx hm,Up,cQ]
 cases leB (jP s n) 0<;>rfl
def mF (w:a8) (b:List Int):a8:=⟨w.bj+1,w.aw++[⟨w.bj,b⟩]⟩
theorem DJ {w:a8} (h:WOK w) {b:List Int} (hn:w.bj<100000) (hl:w.aw.length<8) (hb:b.length≤60):WOK (mF w b):=by
 have h1:=h.n
 have h3:=h.f
 refine⟨by simp only[mF];omega,by simp[mF];omega,by simp[mF];omega,fun k x hx=>?_⟩
 simp only[mF] at hx ⊢
 rw[Tq,UV]
 by_cases hk:k<w.aw.length
 ·rw[RY hk] at hx
  have:=h.u k x hx
  omega
 ·have hk2:=(List.getElem?_eq_some_iff.1 hx).1
  simp at hk2
  have:k=w.aw.length:=by omega
  subst this
  simp at hx
  subst hx
  simp only
  omega
theorem Rn {w:a8} (h:WOK w) {b:List Int} (hn:w.bj<100000) (hl:w.aw.length<8) (hb:b.length≤60):mc w b=some (mF w b,⟨w.bj,b⟩,true):=by
 have h1:=h.n
 have hs:=DJ h hn hl hb
 have e:(⟨WR (w.bj+1),w.aw++[(⟨w.bj,b⟩:ae)]⟩:a8)=mF w b:=by rw[bB (by omega)];rfl
 simp only[mc,Ay h.ok,T8,Up,ct (by_:=1) (n:=b.length) (by omega) (by omega),ct (by_:=32) (n:=(w.aw++[(⟨w.bj,b⟩:ae)]).length) (by omega) (by simp;omega),cond_true,e,F7 hs.ok,Ea.2 hs,TF,cond_false]
end Go.AM
namespace Go.AM
attribute [local simp] bz be bb
structure SG (s:ag) (a:aj):Prop where
 sp:SP s
 b1:∀p∈s.ao,okB p.aN
 b2:∀x∈s.an.aw,okB x.aN
 mo:MOK a s.bO
def oK (s:ag):Option bw:=bif leB s.an.bj ((s.ao.length:Nat):Int)&&ltB ((s.an.aw.length:Nat):Int) 8 then s.ao[(s.an.bj-1).toNat]? else none
def gK:Nat→ag→aj→List av→ag×aj×List av
 |0,s,a,r=>(s,a,r)
 |k+1,s,a,r=>match oK s with
  |none=>(s,a,r)
  |some x=>
   let e:=cQ s a ((x.aN.length:Nat):Int)
   bif ltB 0 (jP e.1 ((x.aN.length:Nat):Int)) then(e.1,e.2,r)
   else gK k {e.1 with an:=mF e.1.an x.aN} e.2 (r++[gJ e.1.aJ e.1.aa e.1.aR ⟨e.1.an.bj,x.aN⟩])
theorem lk {s:ag} (h:SP s) {x:bw} (e:oK s=some x):x∈s.ao∧ix s.ao (WR (s.an.bj-1))=some x∧s.ao[(s.an.bj-1).toNat]?=some x∧s.an.bj≤s.ao.length∧s.an.aw.length<8∧x.aN.length≤60:=by
 have hn:=h.win.n
 rw[oK] at e
 cases h1:leB s.an.bj ((s.ao.length:Nat):Int)<;>cases h2:ltB ((s.an.aw.length:Nat):Int) 8<;>rw[h1,h2] at e<;>try cases e
 have h1:=t0 h1
 have h2:=km h2
 have e:s.ao[(s.an.bj-1).toNat]?=some x:=e
 have hm:=RS e
 refine⟨hm,?_,e,h1,by omega,h.sd x hm⟩
 rw[bB (by omega),ix,leB_t.2 (show 0≤s.an.bj-1 by omega)]
 exact e
theorem Hc {s:ag} (h:SP s) (e:oK s=none):(leB s.an.bj ((s.ao.length:Nat):Int)&&ltB ((s.an.aw.length:Nat):Int) 8)=false:=by
 have hn:=h.win.n
 cases h1:leB s.an.bj ((s.ao.length:Nat):Int)&&ltB ((s.an.aw.length:Nat):Int) 8
 ·rfl
 ·rw[oK,h1] at e
  rw[hV] at h1
  have h1:=t0 h1.1
  have e:s.ao[(s.an.bj-1).toNat]?=none:=e
  rw[List.getElem?_eq_none_iff] at e
  omega
theorem tv {s:ag} {a:aj} (h:SG s a) {n:Int} (hn:0≤n∧n≤60):SG (cQ s a n).1 (cQ s a n).2:=by
 rw[cQ]
 cases leB (jP s n) 0
 ·obtain⟨h1,h2⟩:=z6 h.mo (xc (jP s n) s.gN.ei)
  have hp:=h.sp.pd
  have hu:(iQ a s.bO (xc (jP s n) s.gN.ei)).2.dX=s.bO.dX:=rfl
  exact⟨{h.sp with q:=h1.quo,pd:=by simp only[cond_false] at hp ⊢;rw[hu];omega},h.b1,h.b2,h1⟩
 ·exact h
theorem KQ (x:ByteArray):strB x x=true:=by simp[strB]
theorem yL {s:ag} {a:aj} (h:SG s a) {x:bw} (e:oK s=some x) (hq:ltB 0 (jP s ((x.aN.length:Nat):Int))=false):SG {s with an:=mF s.an x.aN} a:=by
 obtain⟨hm,_,hx,hn,hl,hb⟩:=lk h.sp e
 have hs:=h.sp.sl
 have hq:=oF hq
 have hnn:=h.sp.win.n
 have hpd:fa (s.an.aw++[⟨s.an.bj,x.aN⟩])≤s.bO.cE-s.bO.dX:=by
  have e1:fa (s.an.aw++[⟨s.an.bj,x.aN⟩])=fa s.an.aw+x.aN.length:=by simp[fa]
  rw[jP,xc] at hq
  rw[e1]
  split at hq<;>omega
 refine⟨{h.sp with ok:=⟨h.sp.ok.1,h.sp.ok.2.1,(DJ h.sp.win (by omega) hl hb).ok⟩,win:=DJ h.sp.win (by omega) hl hb,nx:=by simp only[mF];omega,un:=fun y hy=>?_,pd:=hpd},h.b1,fun y hy=>?_,h.mo⟩
 ·simp only[mF,TG,UN] at hy
  rcases hy with hy|rfl
  ·exact h.sp.un y hy
  ·simp only[AP,hx,Cj];exact KQ _
 ·simp only[mF,TG,UN] at hy
  rcases hy with hy|rfl
  ·exact h.b2 y hy
  ·exact h.b1 x hm
theorem lS (s:ag) (a:aj) (n:Int):∃q,(cQ s a n).1={s with bO:=q}:=by
 rw[cQ];cases leB (jP s n) 0
 ·exact⟨_,rfl⟩
 ·exact⟨s.bO,rfl⟩
theorem Ax (s0:ag):∀(k fu:Nat) (s:ag) (a:aj) (g:List az) (r:List av),SG s a→s.ao=s0.ao→s.aJ=s0.aJ→s.aa=s0.aa→s.aR=s0.aR→k≤2→k<fu→r.length+k≤1000→
 iter (oY s0) fu ((2:Int)-(k:Nat),⟨s,a,g,r⟩)=some ⟨(gK k s a r).1,(gK k s a r).2.1,g,(gK k s a r).2.2⟩
 |0,fu,s,a,g,r,h,c1,c2,c3,c4,h1,h2,h3=>by
  cases fu with
  |zero=>omega
  |succ fu=>rw[iter];simp[oY,gK]
 |k+1,fu,s,a,g,r,h,c1,c2,c3,c4,h1,h2,h3=>by
  cases fu with
  |zero=>omega
  |succ fu=>
   have hlt:ltB ((2:Int)-((k+1:Nat):Int)) 2=true:=ltB_t.2 (by omega)
   have hc:(bif leB s.an.bj ((s0.ao.length:Nat):Int) then some (ltB ((s.an.aw.length:Nat):Int) 8) else some false)=some (leB s.an.bj ((s.ao.length:Nat):Int)&&ltB ((s.an.aw.length:Nat):Int) 8):=by
    rw[←c1]
    cases leB s.an.bj ((s.ao.length:Nat):Int)<;>rfl
   rw[iter]
   simp only[oY,hlt,hc,cond_true,Up,gK]
   cases e:oK s with
   |none=>rw[Hc h.sp e];rfl
   |some x=>
    obtain⟨hm,hx,_,hn,hl,hb⟩:=lk h.sp e
    have hcc:(leB s.an.bj ((s.ao.length:Nat):Int)&&ltB ((s.an.aw.length:Nat):Int) 8)=true:=by rw[leB_t.2 hn,ltB_t.2 (by omega)];rfl
    have he:=tv h (n:=((x.aN.length:Nat):Int)) (by omega)
    have hsl:=h.sp.sl
    have hnn:=h.sp.win.n
    rw[c1] at hx
    simp only[hcc,cond_true,hx,Up,LS h.sp h.mo (n:=((x.aN.length:Nat):Int)) (by omega),MG he.sp.win he.sp.q (n:=((x.aN.length:Nat):Int)) (by omega)]
    cases hq:ltB 0 (jP (cQ s a ((x.aN.length:Nat):Int)).1 ((x.aN.length:Nat):Int))
    ·obtain⟨q,hk⟩:=lS s a ((x.aN.length:Nat):Int)
     have e2:oK (cQ s a ((x.aN.length:Nat):Int)).1=some x:=by rw[hk];exact e
     have hg:=yL he e2 hq
     have hw:(cQ s a ((x.aN.length:Nat):Int)).1.an=s.an:=by rw[hk]
     have hww:=he.sp.win
     have d1:(cQ s a ((x.aN.length:Nat):Int)).1.aJ=s0.aJ:=by rw[hk];exact c2
     have d2:(cQ s a ((x.aN.length:Nat):Int)).1.aa=s0.aa:=by rw[hk];exact c3
     have d3:(cQ s a ((x.aN.length:Nat):Int)).1.aR=s0.aR:=by rw[hk];exact c4
     simp only[cond_false,Rn hww (b:=x.aN) (by rw[hw];omega) (by rw[hw];omega) hb,Up,cond_true,s6,Hz (x:=⟨(cQ s a ((x.aN.length:Nat):Int)).1.an.bj,x.aN⟩) (by rw[hw];simp only;omega) (by rw[hw];simp only;omega) (h.b1 x hm) (by simp only;omega),←d1,←d2,←d3,ct (by_:=64) (n:=(r++[gJ (cQ s a ((x.aN.length:Nat):Int)).1.aJ (cQ s a ((x.aN.length:Nat):Int)).1.aa (cQ s a ((x.aN.length:Nat):Int)).1.aR ⟨(cQ s a ((x.aN.length:Nat):Int)).1.an.bj,x.aN⟩]).length) (by omega) (by simp;omega),bB (n:=(2:Int)-((k+1:Nat):Int)+1) (by omega)]
     rw[show(2:Int)-((k+1:Nat):Int)+1=2-(k:Nat) by omega]
     exact Ax s0 k fu _ _ _ _ hg (by simp only;rw[hk];exact c1) d1 d2 d3 (by omega) (by omega) (by simp;omega)
    ·rfl
theorem KD {s:ag} {a:aj} (h:SG s a) (hs:s.bg=1):sU s a=some ⟨(gK 2 s a []).1,(gK 2 s a []).2.1,[],(gK 2 s a []).2.2⟩:=by
 have:=Ax s 2 FU s a [] [] h rfl rfl rfl rfl (by omega) (by have:=jC;omega) (by simp)
 rw[show(2:Int)-((2:Nat):Int)=0 by omega] at this
 have hz:({cU with aF:=s,dQ:=a}:bX)=⟨s,a,[],[]⟩:=rfl
 simp only[sU,ot,s4,mG h.sp.ok,yW h.mo.acc.ok,xz h.sp.ok,(wl h.sp.ok).2 h.sp,eqB_t.2 hs,Up,TF,cond_false,hz,this]
theorem F6:∀(k:Nat) (s:ag) (a:aj) (r:List av),SG s a→SG (gK k s a r).1 (gK k s a r).2.1
 |0,s,a,r,h=>h
 |k+1,s,a,r,h=>by
  rw[gK]
  cases e:oK s with
  |none=>exact h
  |some x=>
   obtain⟨hm,hx,_,hn,hl,hb⟩:=lk h.sp e
   have he:=tv h (n:=((x.aN.length:Nat):Int)) (by omega)
   simp only
   cases hq:ltB 0 (jP (cQ s a ((x.aN.length:Nat):Int)).1 ((x.aN.length:Nat):Int))
   ·obtain⟨q,hk⟩:=lS s a ((x.aN.length:Nat):Int)
    exact F6 k _ _ _ (yL he (by rw[hk];exact e) hq)
   ·exact he
end Go.AM
namespace Go.AM
attribute [local simp] bz be bb
theorem ET {α:Type} (xs:List α):(xs.filter fun _=>true)=xs:=List.filter_eq_self.2 (by simp)
def vh (s:ag):List av:=bif eqB s.bg 1 then(s.an.aw.take 2).map fun x=>gJ s.aJ s.aa s.aR x else []
theorem NM {s:ag} (h:WOK s.an) {x:ae} (hx:x∈s.an.aw):1≤x.cO∧x.cO<s.an.bj∧x.cO≤100000∧x.aN.length≤60:=by
 obtain⟨k,hk⟩:=SS hx
 have hl:=(List.getElem?_eq_some_iff.1 hk).1
 have:=h.u k x hk
 have h1:=h.f
 have h2:=h.n
 omega
theorem Oh {s:ag} {a:aj} (h:SG s a):jS s=some (vh s):=by
 have key:∀(n:Nat) (fu k:Nat) (r:List av),n=(s.an.aw.take 2).length-k→k≤(s.an.aw.take 2).length→n<fu→r.length+n≤100→eqB s.bg 1=true→
  iter (gI s) fu ((k:Int),r)=some (r++((s.an.aw.take 2).drop k).map fun x=>gJ s.aJ s.aa s.aR x):=by
  intro n
  have hle:(s.an.aw.take 2).length=min 2 s.an.aw.length:=by simp
  induction n with
  |zero=>
   intro fu k r hn hk hf hr hs
   cases fu with
   |zero=>omega
   |succ fu=>
    have hk':k=(s.an.aw.take 2).length:=by omega
    have hc:(bif ltB (k:Int) ((s.an.aw.length:Nat):Int) then(bif ltB (k:Int) 2 then some (eqB s.bg 1) else some false) else some false)=some false:=by
     by_cases h2:k<s.an.aw.length
     ·rw[cR h2,ltB_f.2 (show(2:Int)≤k by omega)];rfl
     ·rw[ltB_f.2 (show((s.an.aw.length:Nat):Int)≤k by omega)];rfl
    rw[iter]
    simp only[gI,hc,Up,cond_false]
    rw[hk',List.drop_length];simp
  |succ n ih=>
   intro fu k r hn hk hf hr hs
   cases fu with
   |zero=>omega
   |succ fu=>
    have hlt:k<(s.an.aw.take 2).length:=by omega
    have hc:(bif ltB (k:Int) ((s.an.aw.length:Nat):Int) then(bif ltB (k:Int) 2 then some (eqB s.bg 1) else some false) else some false)=some true:=by
     rw[cR (show k<s.an.aw.length by omega),ltB_t.2 (show(k:Int)<2 by omega),hs];rfl
    obtain⟨x,hx⟩:∃x,s.an.aw[k]?=some x:=⟨_,v0 (show k<s.an.aw.length by omega)⟩
    have hxm:=RS hx
    have hu:=NM h.sp.win hxm
    have hd:(s.an.aw.take 2).drop k=x::(s.an.aw.take 2).drop (k+1):=by
     rw[List.drop_eq_getElem_cons hlt];congr 1
     have:=(List.getElem?_eq_some_iff.1 hx).2
     simpa using this
    rw[iter]
    simp only[gI,hc,Up,cond_true,bb,hx,s6,Hz (x:=x) (by omega) (by omega) (h.b2 x hxm) (by omega),ct (by_:=64) (n:=(r++[gJ s.aJ s.aa s.aR x]).length) (by omega) (by simp;omega),cp (show k<9223372036854775807 by omega)]
    rw[ih fu (k+1) _ (by omega) (by omega) (by omega) (by simp;omega) hs,hd]
    simp
 rw[jS,vh]
 cases hs:eqB s.bg 1
 ·have h0:iter (gI s) FU (0,[])=some []:=by
   have:FU=(FU-1)+1:=by have:=jC;omega
   rw[this,iter]
   have hc:(bif ltB 0 ((s.an.aw.length:Nat):Int) then(bif ltB 0 2 then some (eqB s.bg 1) else some false) else some false)=some false:=by
    rw[hs];cases ltB 0 ((s.an.aw.length:Nat):Int)<;>cases ltB 0 2<;>rfl
   simp only[gI,hc,Up,cond_false]
  rw[h0];rfl
 ·have:=key _ FU 0 [] rfl (by omega) (by have:=jC;simp;omega) (by simp;omega) hs
  rw[show((0:Nat):Int)=0 from rfl] at this
  rw[this];simp
def mO (m:aK) (a:Int):List Int:=(m.aX.zipIdx.filter fun y=>eqB y.1.fT a).map fun y=>(y.2:Int)
def Oi (m:aK):List Int:=(SO m.aX.length).map fun(k:Nat)=>(k:Int)
def B1 (m:aK) (a t:Int):List Int:=bif eqB t 1&&ltB 0 (((mO m a).length:Nat):Int) then mO m a else bif inR t 1 4 then Oi m else []
theorem JD {α:Type} {xs:List α} {k:Nat} {y:α×Nat} (h:xs.zipIdx[k]?=some y):xs[k]?=some y.1∧y.2=k:=by
 rw[U0] at h
 cases hx:xs[k]? with
 |none=>rw[hx] at h;cases h
 |some x=>rw[hx] at h;simp at h;subst h;exact⟨rfl,rfl⟩
theorem Qm {m:aK} (h:m.aX.length≤1000) (a:Int):mZ m a=some (mO m a):=by
 have hrun:=fy (step:=gY m a) m.aX.zipIdx (fun i r=>((i:Int),r)) (sa 8 (fun y=>eqB y.1.fT a) (fun y=>(y.2:Int))) some (by simp;omega)
  (fun i y r hy hi=>by
   obtain⟨hx,e⟩:=JD hy
   have hi:i<m.aX.length:=by simpa using hi
   simp only[gY,cR hi,bb,hx,Up,cond_true,cp (show i<9223372036854775807 by omega),sa,e]
   cases eqB y.1.fT a
   ·rfl
   ·cases cS 8 (r++[(i:Int)]).length<;>rfl) (fun r=>by simp[gY]) ([]:List Int)
 rw[tw (by omega) _ _ _ _ (by simp;omega)] at hrun
 rw[mZ,show iter (gY m a) FU (0,[])=_ from hrun]
 rfl
theorem Mf (n:Nat):∀(v:List Int),v.length=n→(∀k:Nat,k<n→v[k]?=some (k:Int))→v=(SO n).map fun(k:Nat)=>(k:Int):=by
 intro v hv h
 apply List.ext_getElem?
 intro k
 by_cases hk:k<n
 ·rw[h k hk];simp[hk]
 ·rw[UR (by omega),UR (by simp;omega)]
theorem Pb {m:aK} (h:m.aX.length≤1000) (a t:Int):nf m a t=some (B1 m a t):=by
 simp only[nf,Qm h,Up,B1,Oi]
 cases hb:inR t 1 4
 ·have h0:iter (fr m t) FU (0,[])=some []:=by
   have:FU=(FU-1)+1:=by have:=jC;omega
   rw[this,iter]
   simp only[fr,et,hb,Up]
   cases ltB 0 ((m.aX.length:Nat):Int)<;>rfl
  rw[h0]
  have h1:eqB t 1=false:=eqB_f.2 fun e=>by subst e;simp[inR,leB] at hb
  rw[h1];rfl
 ·have hrun:=fy (step:=fr m t) m.aX.zipIdx (fun i r=>((i:Int),r)) (sa 8 (fun _=>true) (fun y=>(y.2:Int))) some (by simp;omega)
   (fun i y r hy hi=>by
    obtain⟨hx,e⟩:=JD hy
    have hi:i<m.aX.length:=by simpa using hi
    simp only[fr,cR hi,et,hb,Up,cond_true,cp (show i<9223372036854775807 by omega),sa,e]
    cases cS 8 (r++[(i:Int)]).length<;>rfl) (fun r=>by simp[fr]) ([]:List Int)
  rw[tw (by omega) _ _ _ _ (by simp;omega)] at hrun
  have hall:(m.aX.zipIdx.filter fun _=>true).map (fun y:fc×Nat=>(y.2:Int))=(SO m.aX.length).map fun(k:Nat)=>(k:Int):=by
   rw[ET]
   refine Mf _ _ (by simp) fun k hk=>?_
   simp[U0,v0 hk]
  rw[show iter (fr m t) FU (0,[])=_ from hrun,hall]
  cases eqB t 1
  ·rfl
  ·cases ltB 0 (((mO m a).length:Nat):Int)<;>rfl
def wL (p:cP) (m:aK):cP×List Int:=
 bif ltB 0 p.fU then({p with fU:=p.fU-1},[]) else
  let t:=bif ltB p.eK 4 then p.eK+1 else 1
  (⟨p.fT,t,3⟩,B1 m p.fT t)
structure POK (p:cP):Prop where
 a:0≤p.eK∧p.eK≤4
 w:0≤p.fU∧p.fU≤3
theorem PA {p:cP} (hp:POK p) {m:aK} (h:m.aX.length≤1000):o3 p m=some (wL p m):=by
 have h1:=hp.a
 have h2:=hp.w
 simp only[o3,Pb h,Up,wL,bB (n:=p.fU-1) (by omega),bB (n:=p.eK+1) (by omega),BE]
def nH (m:aK) (c:Int):Int:=bif ew m c then(match m.aX[c.toNat]? with|some x=>x.fT|none=>0) else 0
def Fz (c:Int):az:={dH with aP:=7,aU:=c}
def F2 (s:ag) (a:aj) (m:aK):bX:=
 let r:=wL {s.ik with fT:=nH m s.aU} m
 ⟨{s with ik:=r.1},a,r.2.map Fz,[]⟩
theorem Kq {L:Int×List az→Option (cB (Int×List az) (List az))} (xs:List Int) (hl:xs.length≤10000)
 (hL:∀(v:Int) (r:List az),L (v,r)=bif ltB v ((xs.length:Nat):Int) then(Un (ix xs v) fun x10=>bif cS 88 (r++[{dH with aP:=7,aU:=x10}]).length then(some (.next (WR (v+1),(r++[{dH with aP:=7,aU:=x10}])))) else none) else(some (.done r))):
 iter L FU (0,[])=some (xs.map Fz):=by
 have hrun:=fy (step:=L) xs (fun i r=>((i:Int),r)) (sa 88 (fun _=>true) Fz) some (by omega)
  (fun i x r hx hi=>by
   simp only[hL,cR hi,bb,hx,Up,cond_true,cp (show i<9223372036854775807 by omega),sa,Fz]
   cases cS 88 (r++[{dH with aP:=7,aU:=x}]).length<;>rfl) (fun r=>by simp[hL]) ([]:List az)
 rw[tw (by omega) _ _ _ _ (by simp;omega)] at hrun
 refine Eq.trans (show iter L FU (0,[])=_ from hrun) (by rw[ET,T8])
theorem Cq {p:cP} {m:aK} (h:m.aX.length≤1000):(wL p m).2.length≤1000:=by
 have hc:(mO m p.fT).length≤1000:=by
  simp only[mO,List.length_map]
  have:=UY (fun y:fc×Nat=>eqB y.1.fT p.fT) m.aX.zipIdx
  simp at this;omega
 rw[wL];cases ltB 0 p.fU
 ·simp only[cond_false,B1]
  cases eqB (bif ltB p.eK 4 then p.eK+1 else 1) 1&&ltB 0 (((mO m p.fT).length:Nat):Int)
  ·cases inR (bif ltB p.eK 4 then p.eK+1 else 1) 1 4<;>simp[Oi];omega
  ·exact hc
 ·simp
theorem Ra {s:ag} {a:aj} (h:SP s) (ha:mJ a) (hp:POK s.ik) {m:aK} (hm:1≤m.aX.length∧m.aX.length≤1000):s5 s a m=some (F2 s a m):=by
 have hz:({cU with aF:=s,dQ:=a}:bX)=⟨s,a,[],[]⟩:=rfl
 have hin:(bif ew m s.aU then(Un (ix m.aX s.aU) fun x4=>some x4.fT) else some 0)=some (nH m s.aU):=by
  rw[nH]
  cases hc:ew m s.aU
  ·rfl
  ·obtain⟨d,_,h1,h2⟩:=CQ hc
   rw[h1,h2];rfl
 have hpp:POK {s.ik with fT:=nH m s.aU}:=⟨hp.a,hp.w⟩
 have hr:=Kq (L:=yf (wL {s.ik with fT:=nH m s.aU} m)) _ (by have:=Cq (p:={s.ik with fT:=nH m s.aU}) hm.2;omega) (fun v r=>rfl)
 simp only[s5,ot,mG h.ok,yW ha.ok,et,Up,bB (n:=((m.aX.length:Nat):Int)-1) (by omega),hz]
 rw[show inR s.aU 0 (((m.aX.length:Nat):Int)-1)=ew m s.aU from rfl,hin]
 simp only[Up,PA hpp hm.2,hr,F2]
end Go.AM
namespace Go.AM
attribute [local simp] bz be bb
def fS (s:ag) (a:aj):aj×cY:=bif leB s.gN.ei s.bO.dX then jJ a s.bO else(a,s.bO)
def A6 (s:ag):Bool:=ltB 0 ((s.an.aw.length:Nat):Int)
def jh (s:ag):Int:=bif A6 s then lW 5 (s.d9+1) else 0
def lX (s:ag):List av×Int:=bif A6 s&&ltB 0 s.dS then([],s.dS-1) else bif A6 s then(vh s,3) else([],s.dS)
def Jk (s:ag) (a:aj) (m:aK):bX:=
 let g:=fS s a
 let t:=gK 2 {s with d9:=jh s,dS:=(lX s).2,bO:=g.2} g.1 []
 ⟨t.1,t.2.1,[],(lX s).1++t.2.2⟩
def md (s:ag) (a:aj) (m:aK):bX:=
 bif !eqB s.bg 1 then⟨s,a,[],[]⟩ else bif ltB 4 (jh s) then F2 {s with d9:=jh s,bO:=(fS s a).2} (fS s a).1 m else Jk s a m
theorem zE {s:ag} {a:aj} (h:SG s a):MOK (fS s a).1 (fS s a).2∧(fS s a).2.cE-(fS s a).2.dX=s.bO.cE-s.bO.dX∧(fS s a).2.au=s.bO.au∧(fS s a).1.d4+(fS s a).2.dX=a.d4+s.bO.dX∧(fS s a).1.eL=a.eL∧(fS s a).1.bP=a.bP:=by
 rw[fS]
 cases leB s.gN.ei s.bO.dX
 ·exact⟨h.mo,rfl,rfl,rfl,rfl,rfl⟩
 ·obtain⟨h1,h2,h3,h4⟩:=Kw h.mo
  simp only[cond_true]
  exact⟨h1,by simp[jJ],rfl,by rw[h2];simp[jJ],h3,h4⟩
theorem vQ {s:ag} (h:SP s):0≤jh s∧jh s≤5:=by
 have:=h.qu
 rw[jh];cases A6 s
 ·simp
 ·simp only[cond_true,lW];split<;>omega
theorem vW {s:ag} (h:SP s):0≤(lX s).2∧(lX s).2≤3:=by
 have:=h.rt
 rw[lX];cases A6 s
 ·exact this
 ·cases hb:ltB 0 s.dS
  ·simp
  ·have:=km hb
   simp;omega
theorem SG.upd {s:ag} {a:aj} (h:SG s a) {q r:Int} (hq:0≤q∧q≤5) (hr:0≤r∧r≤3):SG {s with d9:=q,dS:=r,bO:=(fS s a).2} (fS s a).1:=by
 obtain⟨h1,h2,_⟩:=zE h
 have hp:=h.sp.pd
 exact⟨{h.sp with q:=h1.quo,qu:=hq,rt:=hr,pd:=by simp only;omega},h.b1,h.b2,h1⟩
theorem JG (s:ag):(vh s).length≤2:=by
 rw[vh];cases eqB s.bg 1<;>simp;omega
theorem Ce (s:ag):(lX s).1.length≤2:=by
 have:=JG s
 rw[lX];cases A6 s<;>cases ltB 0 s.dS<;>simp<;>omega
theorem xy:∀(k:Nat) (s:ag) (a:aj) (r:List av),(gK k s a r).2.2.length≤r.length+k
 |0,s,a,r=>by simp[gK]
 |k+1,s,a,r=>by
  rw[gK]
  cases oK s with
  |none=>simp
  |some x=>
   simp only
   cases ltB 0 (jP (cQ s a ((x.aN.length:Nat):Int)).1 ((x.aN.length:Nat):Int))
   ·have:=xy k {(cQ s a ((x.aN.length:Nat):Int)).1 with an:=mF (cQ s a ((x.aN.length:Nat):Int)).1.an x.aN} (cQ s a ((x.aN.length:Nat):Int)).2 (r++[gJ (cQ s a ((x.aN.length:Nat):Int)).1.aJ (cQ s a ((x.aN.length:Nat):Int)).1.aa (cQ s a ((x.aN.length:Nat):Int)).1.aR ⟨(cQ s a ((x.aN.length:Nat):Int)).1.an.bj,x.aN⟩])
    simp only[Tq,UV] at this
    simp only[cond_false];omega
   ·simp only[cond_true];omega
theorem PB {s:ag} {a:aj} (h:SG s a) {m:aK} (hm:1≤m.aX.length∧m.aX.length≤1000) (hp:POK s.ik):nk s a m=some (md s a m):=by
 have hz:({cU with aF:=s,dQ:=a}:bX)=⟨s,a,[],[]⟩:=rfl
 have hqu:=h.sp.qu
 have hrt:=h.sp.rt
 simp only[nk,s4,ot,mG h.sp.ok,yW h.mo.acc.ok,xz h.sp.ok,(wl h.sp.ok).2 h.sp,Up,hz,md]
 cases hs:eqB s.bg 1
 ·rfl
 ·have hst:=mR hs
  have hq:=vQ h.sp
  have hr:=vW h.sp
  have hqq:∀(k:Int→Option bX),(Un (bif ltB 0 ((s.an.aw.length:Nat):Int) then(Un (Ai 5 (WR (s.d9+1))) fun r9=>some r9) else some 0) k)=k (jh s):=fun k=>by
   rw[jh,A6,bB (n:=s.d9+1) (by omega),Fp]
   cases ltB 0 ((s.an.aw.length:Nat):Int)<;>rfl
  have hrr:∀(u:cY) (k:List av×Int→Option bX),SG {s with d9:=jh s,dS:=3,bO:=u} (fS s a).1→
   (Un (bif ltB 0 ((s.an.aw.length:Nat):Int) then some (ltB 0 s.dS) else some false) fun(v11:Bool)=>Un (bif v11 then(some (([]:List av),WR (s.dS-1))) else(Un (bif ltB 0 ((s.an.aw.length:Nat):Int) then(Un (jS {s with d9:=jh s,dS:=3,bO:=u}) fun r16=>some (r16,3)) else(some (([]:List av),s.dS))) fun x=>some (x.1,x.2))) k)=k ((lX s).1,(lX s).2):=fun u k hu=>by
   rw[lX,A6,bB (n:=s.dS-1) (by omega),Oh hu]
   cases ltB 0 ((s.an.aw.length:Nat):Int)<;>cases ltB 0 s.dS<;>rfl
  have hl:cS 64 ((lX s).1++(gK 2 {s with d9:=jh s,dS:=(lX s).2,bO:=(fS s a).2} (fS s a).1 []).2.2).length=true:=by
   have h1:=Ce s
   have h2:=xy 2 {s with d9:=jh s,dS:=(lX s).2,bO:=(fS s a).2} (fS s a).1 []
   simp only[Uu] at h2
   exact ct (by omega) (by simp;omega)
  have hu:=h.upd hq (show(0:Int)≤3∧(3:Int)≤3 by omega)
  have hv:=h.upd hq hr
  have hw:=h.upd hq h.sp.rt
  have hpp:POK ({s with d9:=jh s,bO:=(fS s a).2}:ag).ik:=hp
  have e1:=Ra (s:={s with d9:=jh s,bO:=(fS s a).2}) hw.sp hw.mo.acc hpp hm
  have e2:=KD hv hst
  rw[fS] at hu e1 e2 hl
  simp only[TF,cond_false]
  rw[Jk,fS]
  cases hg:leB s.gN.ei s.bO.dX
  ·rw[hg] at hu e1 e2 hl
   simp only[cond_false] at hu e1 e2 hl ⊢
   have hu':=hrr s.bO
   rw[fS,hg] at hu'
   rw[hqq]
   cases ltB 4 (jh s)
   ·simp only[cond_false]
    rw[hu' _ hu]
    simp only[e2,Up,hl,cond_true,cond_false]
   ·simp only[cond_true,cond_false,e1,Up]
  ·rw[hg] at hu e1 e2 hl
   simp only[cond_true] at hu e1 e2 hl ⊢
   have hu':=hrr (jJ a s.bO).2
   rw[fS,hg] at hu'
   simp only[M9 h.mo,Up]
   rw[hqq]
   cases ltB 4 (jh s)
   ·simp only[cond_false]
    rw[hu' _ hu]
    simp only[e2,Up,hl,cond_true,cond_false]
   ·simp only[cond_true,cond_false,e1,Up]
end Go.AM
namespace Go.AM
attribute [local simp] bz be bb
structure RP (r:aM):Prop where
 ok:eN r
 v:px r=true
 b1:∀x∈r.aD,okB x.aN
 b2:∀p∈r.aG,okB p.aN
structure DP (d:ay):Prop where
 card:wM d.dq=true
 st:0≤d.bg∧d.bg≤3
 ce:0≤d.aU∧d.aU≤5
 gn:0≤d.aa∧d.aa≤999999
 ep:0≤d.aR∧d.aR≤999999
 rk:0≤d.aJ∧d.aJ≤2147483646
 k:2≤d.bg→oA d.aJ=true
 wt:0≤d.fU∧d.fU≤3
 rc:RP d.bi
theorem DP.ok {d:ay} (h:DP d):f5 d:=h.rc.ok
theorem DP.v {d:ay} (h:DP d):kY d=true:=by
 have:=h.st
 simp only[kY,hV,bp]
 refine⟨h.card,h.st,h.ce,h.gn,h.ep,h.rk,?_,h.wt,h.rc.v⟩
 cases e:inR d.bg 2 3
 ·rfl
 ·rw[bp] at e;rw[h.k e.1];rfl
theorem DP.of {d:ay} (h:kY d=true) (ok:f5 d) (b1:∀x∈d.bi.aD,okB x.aN) (b2:∀p∈d.bi.aG,okB p.aN):DP d:=by
 simp only[kY,hV,bp] at h
 obtain⟨h1,h2,h3,h4,h5,h6,h7,h8,h9⟩:=h
 refine⟨h1,h2,h3,h4,h5,h6,fun e=>?_,h8,⟨ok,h9,b1,b2⟩⟩
 rw[bp.2 ⟨e,h2.2⟩] at h7;simpa using h7
theorem vq {d:ay} (h:DP d):DP (pS d).a9:=by
 have hw:=h.wt
 rw[pS]
 cases hb:ltB 0 d.fU
 ·cases eqB d.bg 1
  ·cases eqB d.bg 2&&!d.de
   ·exact h
   ·exact {h with wt:=⟨by simp,by simp⟩}
  ·exact {h with wt:=⟨by simp,by simp⟩}
 ·have:=km hb
  exact {h with wt:=⟨by simp only[cond_true];omega,by simp only[cond_true];omega⟩}
theorem Qs {d:ay} (h:DP d):DP (dOn d).a9:=by
 rw[dOn]
 cases eqB d.bg 0
 ·exact h
 ·exact {h with st:=⟨by simp,by simp⟩,wt:=⟨by simp,by simp⟩,k:=fun e=>by simp at e}
theorem CT {d:ay} (h:DP d):DP (uH d).a9:={h with wt:=⟨by simp[uH],by simp[uH]⟩}
theorem EI {d:ay} (h:DP d) (c:Int):DP (rm d c).a9:=by
 have he:=h.ep
 rw[rm]
 cases h1:eqB c d.aU||!inR c 0 5
 ·simp only[SX,Uy] at h1
  have hc:=bp.1 h1.2
  cases h2:eqB d.bg 2&&ltB d.aR 999999
  ·exact {h with ce:=hc}
  ·rw[hV] at h2
   have:=km h2.2
   exact CT {h with ce:=hc,ep:=⟨by simp only;omega,by simp only;omega⟩}
 ·exact h
theorem LC {d:ay} (h:DP d):DP (rT d):=by
 rw[rT]
 cases e:eqB d.bg 2
 ·exact h
 ·have e:=mR e
  exact {h with st:=⟨by simp,by simp⟩,k:=fun _=>h.k (by omega)}
theorem Jz {k r q:Int} (h0:0≤q) (h1:q≤999999):1≤(vec k r q).eP∧(vec k r q).eP≤2147483646:=by
 rw[vec,bp.2 ⟨h0,h1⟩];exact OV _ _
theorem tF {m:az} (h:kq m=true):(1≤m.aP∧m.aP≤8)∧(0≤m.aU∧m.aU≤5)∧(0≤m.aa∧m.aa≤999999)∧(0≤m.aR∧m.aR≤999999)∧0≤m.bM∧m.bM≤1000000000000:=by
 simp only[kq,hV,bp] at h;exact h
theorem Ov {d:ay} (h:DP d) {m:az} (hm:kq m=true) (h1:d.bg=1):DP (EF d m).a9:=by
 obtain⟨_,_,hg,_⟩:=tF hm
 have hu:=NN d.dq.eP m.bQ.eJ m.bQ.gx
 have hk:=Jz (k:=d.dq.eP) (r:=m.bQ.eJ) hu.1 hu.2
 rw[EF]
 cases eqB (i6 d.dq.eP d.dq.dw m.bQ) 0
 ·exact h
 ·refine {h with card:=?_,gn:=hg,rk:=⟨by simp only[cond_true];omega,by simp only[cond_true];omega⟩,k:=fun e=>by simp only[cond_true] at e;omega}
  have hc:=h.card
  simp only[wM,hV] at hc ⊢
  exact⟨hc.1,hc.2.1,bp.2 hu⟩
theorem Ox {d:ay} (h:DP d) (m:az):DP (zm d m).a9:=by
 have he:=h.ep
 rw[zm]
 cases h1:!kq m||(!eqB m.aU d.aU||eqB d.bg 0)
 ·have hm:kq m=true:=by revert h1;cases kq m<;>simp
  obtain⟨_,_,hg,hep,_⟩:=tF hm
  simp only[cond_false]
  cases h2:eqB m.aP 2&&eqB d.bg 1
  ·simp only[cond_false]
   cases h4:eqB m.aP 4&&(eqB d.bg 1&&(oA d.aJ&&(eqB m.aa d.aa&&tg d.aJ m)))
   ·simp only[cond_false]
    cases h6:eqB m.aP 6&&(eqB d.bg 2&&(eqB m.aa d.aa&&(eqB m.aR d.aR&&tg d.aJ m)))
    ·simp only[cond_false]
     cases h7:eqB m.aP 7&&(eqB d.bg 3&&ltB d.aR 999999)
     ·simp only[cond_false]
      cases h8:eqB m.aP 7&&eqB d.bg 2
      ·exact h
      ·exact CT h
     ·simp only[hV] at h7
      have h3:=mR h7.2.1
      have:=km h7.2.2
      exact CT {h with st:=⟨by simp,by simp⟩,ep:=⟨by simp only;omega,by simp only;omega⟩,k:=fun _=>h.k (by omega)}
    ·exact {h with}
   ·simp only[hV] at h4
    exact {h with st:=⟨by simp,by simp⟩,ep:=hep,k:=fun _=>h4.2.2.1}
  ·rw[hV] at h2
   exact Ov h hm (mR h2.2)
 ·exact h
theorem zn:∀(xs:List ae) (n:Int) (dl:List bw),∃t d,xs=t++d∧nK xs n dl=⟨n+t.length,d,dl++t.map fun x=>⟨x.aN⟩⟩∧(∀(k:Nat) (x:ae),t[k]?=some x→x.cO=n+k)∧((∃y ys,d=y::ys∧(y.cO≠n+t.length∨24≤dl.length+t.length))∨d=[])∧(t≠[]→dl.length+t.length≤24)
 |[],n,dl=>⟨[],[],rfl,by simp[nK],by simp,.inr rfl,by simp⟩
 |x::xs,n,dl=>by
  rw[nK]
  by_cases h:x.cO=n∧dl.length<24
  ·rw[if_pos h]
   obtain⟨t,d,e1,e2,e3,e4,e5⟩:=zn xs (n+1) (dl++[⟨x.aN⟩])
   refine⟨x::t,d,by rw[e1];rfl,?_,fun k y hy=>?_,?_,fun _=>?_⟩
   ·rw[e2];simp;omega
   ·cases k with
    |zero=>simp at hy;subst hy;simp;exact h.1
    |succ k=>have:=e3 k y (by simpa using hy);rw[this];omega
   ·rcases e4 with⟨y,ys,e,h4⟩|e
    ·left;refine⟨y,ys,e,?_⟩
     simp only[Tq,UV,SQ,Uu] at h4 ⊢
     rcases h4 with h4|h4
     ·left;omega
     ·right;omega
    ·exact .inr e
   ·simp only[SQ]
    by_cases ht:t=[]
    ·subst ht;simp;omega
    ·have:=e5 ht;simp at this;omega
  ·rw[if_neg h]
   refine⟨[],x::xs,rfl,by simp,by simp,.inl ⟨x,xs,rfl,?_⟩,by simp⟩
   simp only[Uu]
   by_cases hx:x.cO=n
   ·right;have:¬dl.length<24:=fun hl=>h ⟨hx,hl⟩;omega
   ·left;omega
structure RcV (r:aM):Prop where
 n:r.bj=(r.aG.length:Int)+1
 l:r.aG.length≤24
 d:∀p∈r.aG,p.aN.length≤60
 pl:r.aD.length≤8
 pr:∀x∈r.aD,r.bj+1≤x.cO∧x.cO≤r.bj+7∧x.aN.length≤60
 po:r.aD.Pairwise fun x y=>x.cO<y.cO
theorem uR {r:aM}:px r=true↔RcV r:=by
 constructor
 ·intro h
  have hl:=tV h
  simp only[px,hV,yx,Ui,oI,eo] at h
  obtain⟨h1,h2,h3,h4,h5⟩:=h
  have hp:∀(k:Nat) (x:ae),r.aD[k]?=some x→(r.bj+1≤x.cO∧x.cO≤r.bj+7)∧kr ae.cO r.aD k x=true∧x.aN.length≤60:=fun k x hx=>by
   have:=h5 k x hx
   simp only[zX,hV,bp,oI] at this
   rw[bB (n:=r.bj+1) (by omega),bB (n:=r.bj+8) (by omega),bB (n:=r.bj+8-1) (by omega)] at this
   exact⟨by omega,this.2⟩
  refine⟨hl.1,hl.2.1,h3,hl.2.2,fun x hx=>?_,Bz fun k x hx=>(hp k x hx).2.1⟩
  obtain⟨k,hk⟩:=SS hx
  have:=hp k x hk
  exact⟨this.1.1,this.1.2,this.2.2⟩
 ·rintro⟨h1,h2,h3,h4,h5,h6⟩
  simp only[px,hV,yx,Ui,oI,eo]
  refine⟨eqB_t.2 (by rw[bB (by omega)];exact h1),leB_t.2 (by omega),h3,leB_t.2 (by omega),fun k x hx=>?_⟩
  have:=h5 x (RS hx)
  simp only[zX,hV,bp,oI]
  rw[bB (n:=r.bj+1) (by omega),bB (n:=r.bj+8) (by omega),bB (n:=r.bj+8-1) (by omega)]
  exact⟨by omega,yK h6 hx,this.2.2⟩
end Go.AM
namespace Go.AM
attribute [local simp] bz be bb
theorem H7 {α:Type} {key:α→Int}:∀{xs:List α} {a b:Int},(xs.Pairwise fun x y=>key x<key y)→(∀x∈xs,a≤key x∧key x≤b)→(xs.length:Int)≤max 0 (b-a+1)
 |[],a,b,_,_=>by simp;omega
 |x::xs,a,b,h,hr=>by
  have hx:=hr x (by simp)
  have ih:=H7 (xs:=xs) (a:=key x+1) (b:=b) (List.pairwise_cons.1 h).2 fun y hy=>⟨by have:=(List.pairwise_cons.1 h).1 y hy;omega,(hr y (by simp[hy])).2⟩
  simp only[SQ];omega
theorem PT {x:ae}:∀{xs:List ae},(xs.Pairwise fun a b=>a.cO<b.cO)→∀y∈xs.dropWhile (before x.cO),x.cO≤y.cO
 |[],_,y,hy=>by simp at hy
 |z::xs,h,y,hy=>by
  rw[List.dropWhile_cons] at hy
  cases hb:before x.cO z<;>rw[hb] at hy
  ·have hz:=oF hb
   rcases List.mem_cons.1 hy with e|hy
   ·subst e;exact hz
   ·have:=(List.pairwise_cons.1 h).1 y hy;omega
  ·exact PT (List.pairwise_cons.1 h).2 y hy
theorem NK {α:Type} (p:α→Bool):∀(xs:List α) (y:α),y∈xs.takeWhile p→p y=true
 |[],y,h=>by simp at h
 |x::xs,y,h=>by
  rw[UA] at h
  cases hp:p x<;>rw[hp] at h
  ·simp at h
  ·rcases List.mem_cons.1 h with e|h
   ·subst e;exact hp
   ·exact NK p xs y h
theorem tw_lt {q:Int} {xs:List ae}:∀y∈xs.takeWhile (before q),y.cO<q:=fun y hy=>km (show ltB y.cO q=true from NK (before q) xs y hy)
theorem Mj {x:ae} {xs:List ae} (h:xs.Pairwise fun a b=>a.cO<b.cO) (hn:∀y∈xs,y.cO≠x.cO):(mT x xs).Pairwise fun a b=>a.cO<b.cO:=by
 have e:=UW (p:=before x.cO) (l:=xs)
 rw[←e,UM] at h
 obtain⟨h1,h2,h3⟩:=h
 rw[mT,List.append_assoc,UM]
 refine⟨h1,List.pairwise_cons.2 ⟨fun y hy=>?_,h2⟩,fun a ha b hb=>?_⟩
 ·have hm:y∈xs:=UZ _ hy
  have:=hn y hm
  have hge:x.cO≤y.cO:=by
   have hs:xs.Pairwise fun a b=>a.cO<b.cO:=by rw[←e,UM];exact⟨h1,h2,h3⟩
   exact PT hs y hy
  omega
 ·rcases List.mem_append.1 hb with hb|hb
  ·simp at hb;subst hb;exact tw_lt a ha
  ·exact h3 a ha b hb
theorem vE {x y:ae} {xs:List ae}:y∈mT x xs↔y=x∨y∈xs:=by
 rw[mT]
 constructor
 ·intro h
  simp only[TG,UN] at h
  rcases h with(h|h)|h
  ·exact .inr (List.takeWhile_subset _ h)
  ·exact .inl h
  ·exact .inr (UZ _ h)
 ·rintro(h|h)
  ·simp[h]
  ·rw[←UW (p:=before x.cO) (l:=xs)] at h
   simp only[TG,UN] at h ⊢
   rcases h with h|h
   ·exact .inl (.inl h)
   ·exact .inr h
theorem AT {r:aM} (h:RcV r) {x:ae} (hl:yn r x=false):
 ∃t d,mT x r.aD=t++d∧(∀(k:Nat) (y:ae),t[k]?=some y→y.cO=r.bj+k)∧(mj r x).bj=r.bj+t.length∧(mj r x).aG=r.aG++t.map (fun y=>⟨y.aN⟩)∧RcV (mj r x)∧
  ((mj r x).aD=d∨(mj r x).aD=[])∧r.aG.length+t.length≤24∧(x.cO=r.bj→t≠[]):=by
 obtain⟨t,d,e1,e2,e3,e4,e5⟩:=zn (mT x r.aD) r.bj r.aG
 have hl2:=hl
 simp only[yn,SX,Uy] at hl
 obtain⟨l1,l2,l3,l4,l5⟩:=hl
 have l2:=oF l2
 rw[bp] at l3
 have l5:=vG l5
 have hn:∀y∈r.aD,y.cO≠x.cO:=fun y hy=>by
  rw[Ul] at l4
  have:=l4 y hy
  simpa [eqB] using this
 have hasc:=Mj h.po hn
 have hrng:∀y∈mT x r.aD,r.bj≤y.cO∧y.cO≤r.bj+7∧y.aN.length≤60:=fun y hy=>by
  rcases vE.1 hy with rfl|hy
  ·exact⟨l3.1,l3.2,by omega⟩
  ·have:=h.pr y hy;exact⟨by omega,by omega,this.2.2⟩
 have hlen:=H7 (key:=ae.cO) hasc (a:=r.bj) (b:=r.bj+7) fun y hy=>⟨(hrng y hy).1,(hrng y hy).2.1⟩
 have htl:r.aG.length+t.length≤24:=by
  by_cases ht:t=[]
  ·subst ht;have:=h.l;simp;omega
  ·exact e5 ht
 have hd:∀y∈d,r.bj+t.length≤y.cO:=fun y hy=>by
  by_cases ht:t=[]
  ·subst ht
   have:=(hrng y (by rw[e1];simp[hy])).1
   simp;omega
  ·obtain⟨k,hk⟩:∃k,t.length=k+1:=⟨t.length-1,by have:=List.length_pos_iff.2 ht;omega⟩
   obtain⟨z,hz⟩:∃z,t[k]?=some z:=⟨_,v0 (show k<t.length by omega)⟩
   have:=e3 k z hz
   rw[e1,UM] at hasc
   have:=hasc.2.2 z (RS hz) y hy
   omega
 have hdl:(r.aG++t.map fun y=>(⟨y.aN⟩:bw)).length=r.aG.length+t.length:=by simp
 have hdata:∀p∈r.aG++t.map fun y=>(⟨y.aN⟩:bw),p.aN.length≤60:=fun p hp=>by
  rcases List.mem_append.1 hp with hp|hp
  ·exact h.d p hp
  ·obtain⟨y,hy,rfl⟩:=List.mem_map.1 hp
   exact(hrng y (by rw[e1];simp[hy])).2.2
 have hnx:=h.n
 have hsome:x.cO=r.bj→t≠[]:=fun e ht=>by
  subst ht
  simp only[T8] at e1
  rcases e4 with⟨y,ys,e,h4⟩|e
  ·simp only[Uu] at h4
   have hy:y.cO≤x.cO:=by
    have hx:x∈d:=by rw[←e1];exact vE.2 (.inl rfl)
    rw[e] at hx
    rcases List.mem_cons.1 hx with e'|hx
    ·rw[e'];omega
    ·rw[e1,e] at hasc
     have:=(List.pairwise_cons.1 hasc).1 x hx
     omega
   have:=(hrng y (by rw[e1,e];simp)).1
   rcases h4 with h4|h4<;>omega
  ·have:(mT x r.aD).length=0:=by rw[e1,e];rfl
   rw[pV] at this;omega
 refine⟨t,d,e1,e3,?_⟩
 rw[mj,hl2]
 simp only[cond_false,e2,hdl]
 cases h24:leB 24 ((r.aG.length+t.length:Nat):Int)
 ·have h24:=vG h24
  simp only[cond_false]
  refine⟨trivial,trivial,⟨by simp only[hdl];omega,by simp only[hdl];omega,hdata,?_,fun y hy=>?_,?_⟩,.inl trivial,htl,hsome⟩
  ·have:t.length+d.length=(mT x r.aD).length:=by rw[e1];simp
   simp only;omega
  ·have h1:=hrng y (by rw[e1];simp[hy])
   have h2:=hd y hy
   refine⟨?_,by simp only;omega,h1.2.2⟩
   simp only
   rcases e4 with⟨z,zs,e,h4⟩|e
   ·have hz:=hd z (by rw[e];simp)
    have hzn:z.cO≠r.bj+t.length:=by rcases h4 with h4|h4;exact h4;omega
    rw[e] at hy
    rcases List.mem_cons.1 hy with e'|hy'
    ·rw[e'];omega
    ·rw[e1,e,UM] at hasc
     have:=(List.pairwise_cons.1 hasc.2.1).1 y hy'
     omega
   ·rw[e] at hy;simp at hy
  ·rw[e1,UM] at hasc
   exact hasc.2.1
 ·have h24:=t0 h24
  simp only[cond_true]
  exact⟨trivial,trivial,⟨by simp only[hdl];omega,by simp only[hdl];omega,hdata,by simp,by simp,.nil⟩,.inr trivial,htl,hsome⟩
theorem NA {r:aM} (h:RP r) {x:ae} (hx:okB x.aN):RP (mj r x):=by
 cases hl:yn r x
 ·have hv:=uR.1 h.v
  obtain⟨t,d,e1,e3,e4,e5,e6,e7,e8,e9⟩:=AT hv hl
  have hb:∀y∈t++d,okB y.aN:=fun y hy=>by
   rw[←e1] at hy
   rcases vE.1 hy with rfl|hy
   ·exact hx
   ·exact h.b1 y hy
  refine⟨NB h.ok x,uR.2 e6,fun y hy=>?_,fun p hp=>?_⟩
  ·rcases e7 with e|e<;>rw[e] at hy
   ·exact hb y (by simp[hy])
   ·simp at hy
  ·rw[e5] at hp
   rcases List.mem_append.1 hp with hp|hp
   ·exact h.b2 p hp
   ·obtain⟨y,hy,rfl⟩:=List.mem_map.1 hp
    exact hb y (by simp[hy])
 ·rw[mj,hl];exact h
theorem MO (root g e:Int) (x:av):okB (pZ root g e x).1.aN:=by
 rw[pZ];split
 ·exact Oz _ _
 ·intro y hy;simp[gM] at hy
theorem Ow {d:ay} (h:DP d) (x:av):DP (zl d x).a9:=by
 simp only[zl]
 cases eqB d.bg 2&&(pZ d.aJ d.aa d.aR x).2
 ·exact h
 ·exact {h with rc:=NA h.rc (MO _ _ _ _)}
end Go.AM
namespace Go.AM
attribute [local simp] bz be bb
theorem N9:jz eQ=true:=by decide+kernel
theorem BP {k:Int}:∀{xs:List ae} {f:Int},(∀(i:Nat) (x:ae),xs[i]?=some x→x.cO=f+i)→(xs.filter fun x=>leB k x.cO)=xs.drop (k-f).toNat
 |[],f,_=>by simp
 |x::xs,f,h=>by
  have hx:x.cO=f:=by have:=h 0 x rfl;simpa using this
  have ih:=BP (k:=k) (xs:=xs) (f:=f+1) fun i y hy=>by have:=h (i+1) y (by simpa using hy);rw[this];omega
  rw[UX,hx]
  by_cases hk:k≤f
  ·rw[leB_t.2 hk,if_pos rfl,ih,show(k-f).toNat=0 by omega,show(k-(f+1)).toNat=0 by omega];rfl
  ·rw[leB_f.2 (by omega),if_neg (by simp),ih,show(k-f).toNat=(k-(f+1)).toNat+1 by omega];rfl
theorem By {w:a8} (h:WOK w) {k:Int} (hk:ltB w.bj k=false):i7 w k=⟨w.bj,w.aw.drop (k-(w.bj-w.aw.length)).toNat⟩:=by
 rw[i7,hk,BP (f:=w.bj-w.aw.length) fun i x hx=>(h.u i x hx).1];rfl
theorem El {w:a8} (h:WOK w) (k:Int):WOK (i7 w k):=by
 cases hk:ltB w.bj k
 ·have hl:=h.l
  have hf:=h.f
  have hn:=h.n
  rw[By h hk]
  generalize (k-(w.bj-w.aw.length)).toNat=m
  refine⟨hn,by simp;omega,by simp;omega,fun i x hx=>?_⟩
  simp only at hx ⊢
  rw[List.getElem?_drop] at hx
  have hi:=(List.getElem?_eq_some_iff.1 hx).1
  have:=h.u _ x hx
  rw[List.length_drop]
  omega
 ·rw[i7,hk];exact h
theorem vg (w:a8) (k:Int):∀x∈(i7 w k).aw,x∈w.aw:=fun x hx=>by
 rw[i7] at hx;revert hx
 cases ltB w.bj k
 ·exact fun hx=>(List.mem_filter.1 hx).1
 ·exact id
theorem Ld {w:a8} (h:WOK w) (k:Int):0≤fa (i7 w k).aw∧fa (i7 w k).aw≤fa w.aw:=by
 have h1:=tU fun x hx=>h.d x (vg w k x hx)
 refine⟨h1.1,?_⟩
 cases hk:ltB w.bj k
 ·have:=Og h hk
  have h2:=tU (xs:=w.aw.filter fun x=>ltB x.cO k) fun x hx=>h.d x (List.mem_filter.1 hx).1
  omega
 ·rw[i7,hk];exact Int.le_refl _
theorem GK {q:cY} {n:Int} (h:0≤n∧n≤q.cE-q.dX):tp q n={q with dX:=q.dX+n}:=by rw[tp,bp.2 h];rfl
theorem Cf {s:ag} {a:aj} (h:SG s a) (k:Int):SG (ks s k) a∧(ks s k).bO={s.bO with dX:=s.bO.dX+(fa s.an.aw-fa (i7 s.an k).aw)}:=by
 have hs:=Ld h.sp.win k
 have hp:=h.sp.pd
 have hq:=h.sp.q
 have e:(ks s k).bO={s.bO with dX:=s.bO.dX+(fa s.an.aw-fa (i7 s.an k).aw)}:=GK ⟨by omega,by omega⟩
 have hu:=hq.u
 have hg:=hq.g
 have hq':QOK (ks s k).bO:=by rw[e];exact⟨hq.i,by simp only;omega,by simp only;omega,hq.m⟩
 refine⟨⟨{h.sp with ok:=⟨h.sp.ok.1,h.sp.ok.2.1,(El h.sp.win k).ok⟩,win:=El h.sp.win k,q:=hq',qu:=⟨by simp[ks],by simp[ks]⟩,nx:=?_,un:=fun x hx=>h.sp.un x (vg _ _ x hx),pd:=?_},h.b1,fun x hx=>h.b2 x (vg _ _ x hx),⟨h.mo.acc,hq',?_⟩⟩,e⟩
 ·have:(ks s k).an.bj=s.an.bj:=by simp only[ks,i7];cases ltB s.an.bj k<;>rfl
  rw[this];exact h.sp.nx
 ·rw[e];simp only[ks];omega
 ·rw[e];exact h.mo.res
theorem Po {s:ag} {a:aj} (h:SG s a) (m:az):SG (FX s m).aF a:=by
 have hr:=Jg h.sp.rcd
 simp only[FX]
 cases he:eqB s.bv.cO 999999
 ·have he:=EN he
  have hk:=Jz (k:=s.bv.eP) (r:=Ey s.bv.ID (s.bv.cO+1)) (q:=s.bv.cO+1) (by omega) (by omega)
  refine⟨{h.sp with rcd:=?_,k2:=fun _=>?_,ps:=⟨by simp only[cond_false];omega,by simp only[cond_false];omega⟩},h.b1,h.b2,h.mo⟩
  ·have hc:=h.sp.rcd
   simp only[qZ,hV] at hc
   simp only[cond_false,qZ,hV]
   exact⟨hc.1,hc.2.1,bp.2 (by omega)⟩
  ·exact bp.2 hk
 ·exact h
theorem Pn {s:ag} {a:aj} (h:SG s a) {c:Int} (hc:0≤c∧c≤5) (hp:0<s.bC) (he:s.aR<999999):SG (ub s c) a:=by
 have hk:=h.sp.k2 hp
 have hkr:=bp.1 hk
 have hep:=h.sp.ep
 exact⟨{h.sp with page:=N9,st:=⟨by simp[ub],by simp[ub]⟩,k1:=fun _=>hk,k2:=fun e=>by simp[ub] at e,ps:=⟨by simp[ub],by simp[ub]⟩,gn:=h.sp.ps,ep:=⟨by simp only[ub];omega,by simp only[ub];omega⟩,rk:=⟨by simp only[ub];omega,by simp only[ub];omega⟩,ce:=hc,qu:=⟨by simp[ub],by simp[ub]⟩},h.b1,h.b2,h.mo⟩
theorem Nh {s:ag} {a:aj} (h:SG s a) {m:az} (hm:kq m=true):SG (xU s m).aF a:=by
 obtain⟨_,hc,_⟩:=tF hm
 rw[xU]
 cases hb:leB s.bC 0||(!eqB m.aa s.bC||(!eqB m.bM s.aD.ug||leB 999999 s.aR))
 ·simp only[SX] at hb
  exact Pn h hc (vG hb.1) (vG hb.2.2.2)
 ·exact h
theorem Ng {s:ag} {a:aj} (h:SG s a) {m:az} (hm:kq m=true):SG (xT s m).aF a:=by
 obtain⟨_,hc,_,he,_⟩:=tF hm
 rw[xT]
 cases !pX s m||(ltB m.aR s.aR||(eqB m.aR s.aR&&!eqB m.aU s.aU))
 ·exact⟨{h.sp with page:=N9,ep:=he,ce:=hc,qu:=⟨by simp[uT],by simp[uT]⟩,rt:=⟨by simp[uT],by simp[uT]⟩},h.b1,h.b2,h.mo⟩
 ·exact h
theorem Pm {s:ag} {a:aj} (h:SG s a) (m:az):SG (FW s m).aF a:=by
 rw[FW]
 cases !pX s m||ltB s.an.bj m.bM
 ·exact(Cf h m.bM).1
 ·exact h
theorem Rk {s:ag} {a:aj} (h:SG s a) (m:az):SG (sUp s m).aF a:=by
 rw[sUp]
 cases hm:kq m
 ·exact h
 ·cases eqB m.aP 1
  ·cases eqB m.aP 3
   ·cases eqB m.aP 5
    ·cases eqB m.aP 8
     ·exact h
     ·exact Pm h m
    ·exact Ng h hm
   ·exact Nh h hm
  ·exact Po h m
theorem Nd {s:ag} {a:aj} (h:SG s a):SG (jj s) a:=
 ⟨{h.sp with page:=N9,k2:=fun e=>by simp[jj] at e,ps:=⟨by simp[jj],by simp[jj]⟩,qu:=⟨by simp[jj],by simp[jj]⟩,rt:=⟨by simp[jj],by simp[jj]⟩},h.b1,h.b2,h.mo⟩
theorem Pq {s:ag} {a:aj} (h:SG s a) {b:List Int} (hb:okB b):SG (pL s b).1 a:=by
 rw[pL]
 cases h1:leB 24 ((s.ao.length:Nat):Int)||ltB 60 ((b.length:Nat):Int)
 ·simp only[SX] at h1
  have h2:=vG h1.1
  have h3:=oF h1.2
  have hnx:=h.sp.nx
  refine⟨{h.sp with ok:=⟨h.sp.ok.1,⟨by simp;omega,fun p hp=>?_⟩,h.sp.ok.2.2⟩,sl:=by simp;omega,sd:=fun p hp=>?_,nx:=by simp;omega,un:=fun x hx=>?_},fun p hp=>?_,h.b2,h.mo⟩
  ·rcases List.mem_append.1 hp with hp|hp
   ·exact h.sp.ok.2.1.2 p hp
   ·simp at hp;subst hp;exact⟨by simp only;omega,fun _ _=>trivial⟩
  ·rcases List.mem_append.1 hp with hp|hp
   ·exact h.sp.sd p hp
   ·simp at hp;subst hp;simp only;omega
  ·have hu:=h.sp.un x hx
   have hs:=NM h.sp.win hx
   simp only[AP,cond_false] at hu ⊢
   rw[RY (by omega)]
   exact hu
  ·rcases List.mem_append.1 hp with hp|hp
   ·exact h.b1 p hp
   ·simp at hp;subst hp;exact hb
 ·exact h
theorem NE {p:cP} (ha:0≤p.fT∧p.fT≤2) (hp:POK p) (m:aK):jz (wL p m).1=true:=by
 have h1:=hp.a
 have h2:=hp.w
 rw[wL]
 simp only[jz,hV,bp]
 cases hb:ltB 0 p.fU
 ·simp only[cond_false]
  refine⟨ha,?_,by omega⟩
  cases hc:ltB p.eK 4
  ·simp
  ·have:=km hc
   simp only[cond_true];omega
 ·have:=km hb
  simp only[cond_true];omega
theorem FA {p:cP} (h:jz p=true):POK p:=by
 simp only[jz,hV,bp] at h;exact⟨h.2.1,h.2.2⟩
theorem JH {m:aK} (h:nr m=true) (c:Int):0≤nH m c∧nH m c≤2:=by
 rw[nH]
 cases hc:ew m c
 ·simp
 ·obtain⟨d,_,_,h2⟩:=CQ hc
  simp only[nr,hV,eo] at h
  have:=h.2 _ d h2
  simp only[AX,hV,bp] at this
  rw[h2];exact this.1
theorem At {s:ag} {a:aj} (h:SG s a) {m:aK} (hm:nr m=true):SG (md s a m).aF (md s a m).dQ:=by
 rw[md]
 cases eqB s.bg 1
 ·exact h
 ·simp only[TF,cond_false]
  have hq:=vQ h.sp
  cases ltB 4 (jh s)
  ·exact F6 2 _ _ _ (h.upd hq (vW h.sp))
  ·have h1:=h.upd hq h.sp.rt
   have hp:=FA h.sp.page
   exact⟨{h1.sp with page:=NE (p:={s.ik with fT:=nH m s.aU}) (JH hm _) ⟨hp.a,hp.w⟩ m},h1.b1,h1.b2,h1.mo⟩
end Go.AM
