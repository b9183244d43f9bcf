/- A part. -/
import Derived.Test.YtljhooecmjejiaaGreatP1
set_option linter.unusedVariables false
set_option linter.unusedSimpArgs false
open Option renaming bind_some→Vm,bind→Vj
open Bool renaming and_eq_true→hV,not_true→UY,not_eq_true'→Ue,or_eq_false_iff→Ua,not_eq_false'→VL,or_self→VP,not_false→VN,true_and→VK,and_true→VO
open List renaming mem_append→TW,getElem?_eq_some_iff→Tm,mem_cons→Tq,pairwise_cons→VI,pairwise_append→VJ,nil_append→UZ,mem_of_getElem?→Tn,length_cons→TY,getElem?_of_mem→T0,getElem?_eq_getElem→v0,mem_singleton→UJ,cons_append→TD,all_eq_true→TX,dropWhile_subset→VS,length_singleton→VM,takeWhile_append_dropWhile→VT,length_nil→Vp,length_append→Ut,rel_of_pairwise_cons→V0,takeWhile_subset→V1,length_filter_le→VU,getElem?_eq_none→Vy,getElem?_zipIdx→VW,takeWhile_cons→Vu,find?_eq_none→VX,any_eq_false→UQ,length→VQ,filter_cons→VY,foldl_cons→VR,range→TU,take_left→VZ,drop_left→V2,mem_map→Ur
open Int renaming toNat_natCast→Vn
namespace Go.AM
attribute [local simp] bE be a8
def wl (d:az):aA:=tK d.aK ⟨5,d.aX,d.aa,d.aO,0,cr,0⟩
def ud (d:az):aA:={dO with aR:=1,aX:=d.aX}
def qh (d:az):aU:=
 bif ltB 0 d.f7 then⟨{d with f7:=d.f7-1},[]⟩ else bif eqB d.bi 1 then⟨{d with f7:=3},[ud d]⟩ else bif eqB d.bi 2&&!d.dm then⟨{d with f7:=3},[wl d]⟩ else⟨d,[]⟩
def dOn (d:az):aU:=bif eqB d.bi 0 then⟨{d with bi:=1,f7:=3},[ud d]⟩ else⟨d,[]⟩
def vq (d:az):aU:=⟨{d with dm:=false,f7:=3},[wl d]⟩
def rV (d:az) (c:Int):aU:=
 bif eqB c d.aX||!inR c 0 5 then⟨d,[]⟩ else bif eqB d.bi 2&&ltB d.aO 999999 then vq {d with aX:=c,aO:=d.aO+1} else⟨{d with aX:=c},[]⟩
def FZ (d:az) (m:aA):aU:=
 bif eqB (jk d.dw.eY d.dw.dD m.bR) 0 then
  ⟨{d with dw:={d.dw with dD:=unm d.dw.eY m.bR.eQ m.bR.gx},aa:=m.aa,aK:=(vec d.dw.eY m.bR.eQ (unm d.dw.eY m.bR.eQ m.bR.gx)).eY},
   [⟨3,d.aX,m.aa,0,d8 d.dw.eY [3,m.bR.eQ],cr,0⟩]⟩
 else⟨d,[]⟩
def Ao (d:az) (m:aA):aU:=
 bif !kD m||(!eqB m.aX d.aX||eqB d.bi 0) then⟨d,[]⟩ else
 bif eqB m.aR 2&&eqB d.bi 1 then FZ d m else
 bif eqB m.aR 4&&(eqB d.bi 1&&(oU d.aK&&(eqB m.aa d.aa&&tY d.aK m))) then⟨{d with bi:=2,aO:=m.aO,dm:=true},[]⟩ else
 bif eqB m.aR 6&&(eqB d.bi 2&&(eqB m.aa d.aa&&(eqB m.aO d.aO&&tY d.aK m))) then⟨{d with dm:=true},[]⟩ else
 bif eqB m.aR 7&&(eqB d.bi 3&&ltB d.aO 999999) then vq {d with bi:=2,aO:=d.aO+1} else
 bif eqB m.aR 7&&eqB d.bi 2 then vq d else⟨d,[]⟩
def dAck (d:az) (r:aP):aA:=tK d.aK ⟨8,d.aX,d.aa,d.aO,r.bm,cr,0⟩
def An (d:az) (x:ao):aU:=
 let o:=ko d.aK d.aa d.aO x
 bif eqB d.bi 2&&o.2 then⟨{d with bM:=mC d.bM o.1},[dAck d (mC d.bM o.1)]⟩ else⟨d,[]⟩
def sN (d:az):az:=bif eqB d.bi 2 then {d with bi:=3} else d
theorem EC {d:az} (h:f9 d):oJ d=some ⟨d,[]⟩:=by simp[oJ,wu h]
theorem Iw (d:az):qG d=some (wl d):=by simp[qG,yw,wl]
theorem SU {d:az} (h:f9 d) (hw:d.f7≤3):pt d=some (qh d):=by
 simp only[pt,wu h,Vm,oI,jJ,Iw,qh]
 cases hb:ltB 0 d.f7
 ·cases eqB d.bi 1<;>cases eqB d.bi 2<;>cases hp:d.dm<;>rfl
 ·have:=im hb
  rw[bG (by omega)];rfl
theorem on_s {d:az} (h:f9 d):tC d=some (dOn d):=by
 simp only[tC,EC h,wu h,Vm,oI,jJ,dOn]
 cases eqB d.bi 0<;>rfl
theorem NU {d:az} (he:0≤d.aO∧d.aO≤999999):tN d=some (vq {d with aO:=d.aO+1}):=by
 simp only[tN,Iw,Vm,jJ]
 rw[bG (by omega)];rfl
theorem Sc {d:az} (h:f9 d) (he:0≤d.aO∧d.aO≤999999) (c:Int):pc d c=some (rV d c):=by
 simp only[pc,EC h,wu h,Vm,eC,NU (d:={d with aX:=c}) he,rV]
 cases eqB c d.aX<;>cases inR c 0 5<;>cases eqB d.bi 2<;>cases ltB d.aO 999999<;>rfl
theorem tok_s (k r last:Int):∃t,nE k r last=some t:=by
 simp only[nE,eC,Vm,dH (show [5,r,last].length≤100000 by simp),ur _ (show(1:Int)≤1000 by omega) (by omega)]
 cases inR last 0 999999<;>exact⟨_,rfl⟩
theorem ask_s {d:az} (h:f9 d) (hc:xG d.dw=true) (m:aA):uv d m=some (FZ d m):=by
 obtain⟨t,ht⟩:=tok_s d.dw.eY m.bR.eQ d.dw.dD
 simp only[uv,jp,O5,hc,KL,Rq,KN,dH (show [3,m.bR.eQ].length≤100000 by simp),ht,wu h,Vm,UY,cond_false,FZ]
 cases h0:eqB (jk d.dw.eY d.dw.dD m.bR) 0
 ·cases h2:eqB (jk d.dw.eY d.dw.dD m.bR) 2<;>cases h3:eqB (jk d.dw.eY d.dw.dD m.bR) 3<;>simp[h0]
 ·simp[gK]
theorem sig_s {d:az} (h:f9 d) (hc:xG d.dw=true) (he:0≤d.aO∧d.aO≤999999) (m:aA):kX d m=some (Ao d m):=by
 simp only[kX,Kf,EC h,wu h,ask_s h hc,Gw,Fm,NU (d:={d with bi:=2}) he,Iw,jJ,Vm,Ao]
 cases kD m<;>cases eqB m.aX d.aX<;>cases eqB d.bi 0<;>try rfl
 simp only[UY,VP,cond_false,Vm]
 cases eqB m.aR 2<;>cases eqB d.bi 1<;>try rfl
 all_goals cases eqB m.aR 4<;>cases oU d.aK<;>cases eqB m.aa d.aa<;>cases tY d.aK m<;>cases eqB m.aR 6<;>cases eqB d.bi 2<;>cases eqB m.aO d.aO<;>cases eqB m.aR 7<;>cases eqB d.bi 3<;>cases ltB d.aO 999999<;>rfl
def Ri (x:ao):Prop:=okB x.aT.aQ
theorem rad_s {d:az} (h:f9 d) {x:ao} (hx:Ri x):lZ d x=some (An d x):=by
 simp only[lZ,(C5 hx _ _ _).2,EC h,wu h,SS h,yw,Vm,An]
 cases eqB d.bi 2<;>cases(ko d.aK d.aa d.aO x).2<;>rfl
theorem OR {r:aP} (h:eV r) (x:ae):eV (mC r x):=by
 rw[mC]
 cases hlt:zi r x
 ·simp only[zi,Ua,VL] at hlt
  obtain⟨l1,l2,l3,l4,l5⟩:=hlt
  have hv:=uE l1
  have l2:=nn l2
  have hi:okL ga (nm x r.aF):=by
   refine⟨by rw[qo];omega,fun y hy=>?_⟩
   simp only[nm,TW,UJ] at hy
   rcases hy with(hy|hy)|hy
   ·exact h.1.2 y (V1 _ hy)
   ·subst hy;exact⟨by omega,fun _ _=>trivial⟩
   ·exact h.1.2 y (VS _ hy)
  have hd:∀(xs:List ae) (n:Int) (dl:List b9),okL ga xs→(∀p∈dl,rm p)→dl.length≤24→eV (n8 xs n dl):=by
   intro xs
   induction xs with
   |nil=>exact fun n dl h1 h2 h3=>⟨h1,by show dl.length≤1048576;omega,h2⟩
   |cons y ys ih=>
    intro n dl h1 h2 h3
    rw[n8];split
    ·exact ih _ _ ⟨by have:=h1.1;simp at this;omega,fun z hz=>h1.2 z (by simp[hz])⟩ (fun p hp=>by
      rcases TW.1 hp with hp|hp
      ·exact h2 p hp
      ·simp at hp;subst hp;exact h1.2 y (by simp)) (by simp;omega)
    ·exact⟨h1,by show dl.length≤1048576;omega,h2⟩
  have:=hd _ r.bm r.aS hi h.2.2 (by omega)
  simp only[cond_false]
  cases leB 24 (((n8 (nm x r.aF) r.bm r.aS).aS.length:Nat):Int)
  ·exact this
  ·exact⟨⟨by simp,by simp⟩,this.2⟩
 ·exact h
theorem RT {d:az} (h:f9 d):rx d=some (sN d):=by
 simp only[rx,wu h,Vm,sN];cases eqB d.bi 2<;>rfl
end Go.AM
namespace Go.AM
attribute [local simp] bE be a8
theorem JL {α:Type} (p:α→Bool) (x:α) (d:List α) (hx:p x=true):∀(t:List α) (i:Nat),(∀y∈t,p y=false)→mL p (i:Int) (t++x::d)=((i+t.length:Nat):Int)
 |[],i,_=>by simp[mL,hx]
 |y::t,i,h=>by
  rw[TD,mL,h y (by simp),cond_false]
  have:=JL p x d hx t (i+1) (fun z hz=>h z (by simp[hz]))
  rw[show((i+1:Nat):Int)=(i:Int)+1 by omega] at this
  rw[this];simp;omega
theorem JN {α:Type} (p:α→Bool):∀(t:List α) (i:Int),(∀y∈t,p y=false)→mL p i t= -1
 |[],i,_=>rfl
 |y::t,i,h=>by rw[mL,h y (by simp),cond_false];exact JN p t _ fun z hz=>h z (by simp[hz])
def DT:List av→Int→Int→List av
 |[],i,n=>[⟨i,n⟩]
 |x::xs,i,n=>if x.au<i then x::DT xs i n else if x.au=i then⟨i,x.eg+n⟩::xs else⟨i,n⟩::x::xs
def K2:List av→Int→Int→List av
 |[],i,n=>[]
 |x::xs,i,n=>if x.au=i then(if n<x.eg then⟨i,x.eg-n⟩::xs else xs) else x::K2 xs i n
def rO (h:List av):Int:=(h.map av.eg).sum
structure nU (a:aj):Prop where
 t:0≤a.eZ∧a.eZ≤100000
 v:0≤a.bQ∧a.bQ≤a.eZ
 s:0≤a.eH∧a.eH≤a.eZ
 l:a.aD.length≤8
 r:∀x∈a.aD,0≤x.au∧1≤x.eg∧x.eg≤100000
 o:a.aD.Pairwise fun x y=>x.au<y.au
 e:a.bQ+a.eH+rO a.aD=a.eZ
theorem C8 {α:Type} {key:α→Int}:∀{xs:List α},(∀(k:Nat) (x y:α),xs[k]?=some x→xs[k+1]?=some y→key x<key y)→xs.Pairwise fun x y=>key x<key y
 |[],_=>.nil
 |[x],_=>by simp
 |x::y::xs,h=>by
  have ih:=C8 (xs:=y::xs) (key:=key) fun k a b h1 h2=>h (k+1) a b (by simpa using h1) (by simpa using h2)
  have hxy:=h 0 x y rfl rfl
  refine List.Pairwise.cons (fun z hz=>?_) ih
  rcases Tq.1 hz with e|hz
  ·subst e;exact hxy
  ·exact Int.lt_trans hxy (V0 ih hz)
theorem CE {α:Type} {key:α→Int} {xs:List α} (h:∀(k:Nat) (x:α),xs[k]?=some x→kE key xs k x=true):xs.Pairwise fun x y=>key x<key y:=by
 refine C8 fun k x y h1 h2=>?_
 have:=h (k+1) y h2
 simp only[kE,h1,Ue] at this
 exact leB_f.1 this
theorem zK {α:Type} {key:α→Int} {xs:List α} (h:xs.Pairwise fun x y=>key x<key y) {k:Nat} {x:α} (hx:xs[k]?=some x):kE key xs k x=true:=by
 cases k with
 |zero=>rfl
 |succ k=>
  have hl:=(Tm.1 hx).1
  simp only[kE,v0 (show k<xs.length by omega),Ue]
  rw[leB_f]
  have:=List.pairwise_iff_getElem.1 h k (k+1) (by omega) hl (by omega)
  rwa [(Tm.1 hx).2] at this
theorem Rb:∀(h:List av) (s:Int),(∀x∈h,0≤x.eg∧x.eg≤100000)→0≤s→s+100000*h.length≤9000000000000→h.foldl (fun s x=>WR (s+x.eg)) s=s+rO h
 |[],s,_,_,_=>by simp[rO]
 |x::h,s,hx,h0,h1=>by
  have hh:=hx x (by simp)
  simp only[TY] at h1
  rw[VR,bG (by omega),Rb h _ (fun y hy=>hx y (by simp[hy])) (by omega) (by omega)]
  simp[rO];omega
theorem KF {a:aj} (l:a.aD.length≤8) (r:∀x∈a.aD,0≤x.au∧1≤x.eg∧x.eg≤100000):OX a=rO a.aD:=by
 rw[OX,Rb _ _ (fun x hx=>by have:=r x hx;omega) (by omega) (by omega)];omega
theorem pO:∀{h:List av},(∀x∈h,0≤x.au∧1≤x.eg∧x.eg≤100000)→0≤rO h∧rO h≤100000*h.length∧∀x∈h,x.eg≤rO h
 |[],_=>by simp[rO]
 |x::h,r=>by
  have ih:=pO (h:=h) fun y hy=>r y (by simp[hy])
  have hx:=r x (by simp)
  have e:rO (x::h)=x.eg+rO h:=by simp[rO]
  rw[e]
  refine⟨by omega,by simp only[TY];omega,fun y hy=>?_⟩
  rcases Tq.1 hy with e|hy
  ·subst e;omega
  ·have:=ih.2.2 y hy;omega
theorem zu {a:aj}:iN a=true↔nU a:=by
 constructor
 ·intro h
  simp only[iN,hV,bu,eK] at h
  obtain⟨h1,h2,h3,h4,h5,h6⟩:=h
  have h4:=uO h4
  have r:∀x∈a.aD,0≤x.au∧1≤x.eg∧x.eg≤100000:=fun x hx=>by
   obtain⟨k,hk⟩:=T0 hx
   have:=h5 k x hk
   simp only[G4,hV,Ue,bu] at this
   have h0:=nn this.1
   omega
  have hs:=pO r
  refine⟨h1,h2,h3,by omega,r,CE fun k x hk=>?_,?_⟩
  ·have:=h5 k x hk
   simp only[G4,hV] at this
   exact this.2.2
  ·have h6:=lA h6
   rw[KF (by omega) r,bG (n:=a.bQ+a.eH) (by omega),bG (by omega)] at h6
   exact h6
 ·rintro⟨h1,h2,h3,h4,r,h5,h6⟩
  have hs:=pO r
  simp only[iN,hV,bu,eK]
  refine⟨h1,h2,h3,leB_t.2 (by omega),fun k x hk=>?_,eqB_t.2 ?_⟩
  ·have hx:=r x (Tn hk)
   simp only[G4,hV,Ue,bu]
   exact⟨ltB_f.2 (by omega),by omega,zK h5 hk⟩
  ·rw[KF (by omega) r,bG (n:=a.bQ+a.eH) (by omega),bG (by omega)]
   exact h6
theorem nU.ok {a:aj} (h:nU a):jZ a:=⟨by have:=h.l;omega,fun _ _=>trivial⟩
theorem K3 {h:List av} (o:h.Pairwise fun x y=>x.au<y.au) (i:Int):
 (∃t m d,h=t++⟨i,m⟩::d∧(∀x∈t,x.au<i)∧∀x∈d,i<x.au)∨(∃t d,h=t++d∧(∀x∈t,x.au<i)∧∀x∈d,i<x.au):=by
 induction h with
 |nil=>exact .inr ⟨[],[],rfl,by simp,by simp⟩
 |cons x h ih=>
  have hx:=fun y hy=>V0 o (a':=y) hy
  by_cases h1:x.au<i
  ·rcases ih (VI.1 o).2 with⟨t,m,d,e,h2,h3⟩|⟨t,d,e,h2,h3⟩
   ·exact .inl ⟨x::t,m,d,by rw[e];rfl,fun y hy=>by rcases Tq.1 hy with e|hy;(subst e;exact h1);exact h2 y hy,h3⟩
   ·exact .inr ⟨x::t,d,by rw[e];rfl,fun y hy=>by rcases Tq.1 hy with e|hy;(subst e;exact h1);exact h2 y hy,h3⟩
  ·by_cases h2:x.au=i
   ·exact .inl ⟨[],x.eg,h,by rw[←h2];rfl,by simp,fun y hy=>by have:=hx y hy;omega⟩
   ·refine .inr ⟨[],x::h,rfl,by simp,fun y hy=>?_⟩
    rcases Tq.1 hy with e|hy
    ·subst e;omega
    ·have:=hx y hy;omega
theorem Jk {t d:List av} {i m n:Int} (h:∀x∈t,x.au<i):DT (t++⟨i,m⟩::d) i n=t++⟨i,m+n⟩::d:=by
 induction t with
 |nil=>simp[DT]
 |cons x t ih=>rw[TD,DT,if_pos (h x (by simp)),ih fun y hy=>h y (by simp[hy])];rfl
theorem Jl {t d:List av} {i n:Int} (h:∀x∈t,x.au<i) (h2:∀x∈d,i<x.au):DT (t++d) i n=t++⟨i,n⟩::d:=by
 induction t with
 |nil=>cases d with
  |nil=>rfl
  |cons y d=>have:=h2 y (by simp);rw[UZ,DT,if_neg (by omega),if_neg (by omega)];rfl
 |cons x t ih=>rw[TD,DT,if_pos (h x (by simp)),ih fun y hy=>h y (by simp[hy])];rfl
theorem Jr {t d:List av} {i m n:Int} (h:∀x∈t,x.au<i):K2 (t++⟨i,m⟩::d) i n=t++(if n<m then⟨i,m-n⟩::d else d):=by
 induction t with
 |nil=>simp[K2]
 |cons x t ih=>rw[TD,K2,if_neg (by have:=h x (by simp);omega),ih fun y hy=>h y (by simp[hy])];rfl
theorem lK {a:aj} {t d:List av} {i m:Int} (e:a.aD=t++⟨i,m⟩::d) (h:∀x∈t,x.au<i):ip a i=m:=by
 rw[ip,e,List.find?_append,show t.find? (fun x=>eqB x.au i)=none from by rw[VX];intro x hx;have:=h x hx;simp[eqB];omega]
 simp[eqB]
theorem qw {a:aj} {i:Int} (h:∀x∈a.aD,x.au≠i):ip a i=0:=by
 rw[ip,show a.aD.find? (fun x=>eqB x.au i)=none from by rw[VX];intro x hx;have:=h x hx;simp[eqB];omega]
theorem Rp {t d:List av} {i:Int} (h:∀x∈t,x.au<i) (h2:∀x∈d,i≤x.au):((t++d).takeWhile fun x=>ltB x.au i)=t:=by
 rw[List.takeWhile_append_of_pos (fun x hx=>ltB_t.2 (h x hx))]
 cases d with
 |nil=>simp
 |cons y d=>rw[Vu,show ltB y.au i=false from ltB_f.2 (h2 y (by simp))];simp
theorem JD {L:Int→Option (cp Int Int)} {a:aj} {i:Int} (ok:nU a) (hL:∀v1,L v1=bif ltB v1 ((a.aD.length:Nat):Int) then(Vj (ix a.aD v1) fun x2=>bif eqB x2.au i then(dn (some v1)) else(some (.next (WR (v1+1))))) else(dn (some (-1)))):
 iter L FU 0=some (mL (fun x=>eqB x.au i) 0 a.aD):=by
 have:=ok.l
 exact xU (L:=L) a.aD (fun x=>eqB x.au i) (by omega) (fun k x hx hk=>by
  simp only[hL,cN hk,a8,hx,cd (show k<9223372036854775807 by omega),Vm,cond_true]
  cases eqB x.au i<;>rfl) (by simp[hL,dn])
theorem IR {a:aj} (ok:nU a) {i n:Int} (h0:0≤n∧n≤100000):zM a.aD i n=some (DT a.aD i n):=by
 have hl:=ok.l
 have hrun:=BW (L:=rE a.aD i) a.aD (fun x=>ltB x.au i) (by omega) (fun k x hx=>by
  have hk:=(Tm.1 hx).1
  simp[rE,cN hk,hx]) (by simp[rE])
 rw[zM,hrun]
 rcases K3 ok.o i with⟨t,m,d,e,h1,h2⟩|⟨t,d,e,h1,h2⟩
 ·have hm:m≤100000∧1≤m:=by have:=ok.r ⟨i,m⟩ (by rw[e];simp);simp only at this;omega
  have htl:t.length+1≤8:=by have:=congrArg VQ e;simp at this;omega
  rw[e,Rp h1 (fun x hx=>by rcases Tq.1 hx with e|hx;(subst e;simp);have:=h2 x hx;omega),Jk h1]
  have hx:(t++(⟨i,m⟩:av)::d)[t.length]?=some ⟨i,m⟩:=by simp
  have a1:cM 16 (t++(⟨i,m⟩:av)::d).length=true:=cE (by omega) (by rw[←e];omega)
  simp only[cN (show t.length<(t++(⟨i,m⟩:av)::d).length by simp),a8,hx,UZ,a1,Vm,cond_true,be,Vn,bG (n:=m+n) (by omega)]
  simp
 ·have htl:t.length≤8∧d.length≤8:=by have:=congrArg VQ e;simp at this;omega
  rw[e,Rp h1 (fun x hx=>by have:=h2 x hx;omega),Jl h1 h2]
  have hc:(bif ltB ((t.length:Nat):Int) (((t++d).length:Nat):Int) then(Vj (ix (t++d) ((t.length:Nat):Int)) fun x8=>some (eqB x8.au i)) else some false)=some false:=by
   cases d with
   |nil=>simp
   |cons y d=>
    have:=h2 y (by simp)
    rw[cN (show t.length<(t++y::d).length by simp),a8,show(t++y::d)[t.length]?=some y by simp,Vm,eqB_f.2 (show y.au≠i by omega)];rfl
  have a1:fL (t++d) 0 ((t.length:Nat):Int)=true:=by simp[fL];omega
  have a2:fL (t++d) ((t.length:Nat):Int) (((t++d).length:Nat):Int)=true:=by simp[fL];omega
  have a3:cM 16 t.length=true:=cE (by omega) (by omega)
  have a4:cM 16 (t++[(⟨i,n⟩:av)]).length=true:=cE (by omega) (by simp;omega)
  have a5:cM 16 (t++[(⟨i,n⟩:av)]++d).length=true:=cE (by omega) (by simp;omega)
  simp only[Vm,hc,cond_false,a1,a2,cond_true,UZ,Vn,VZ,V2,a3,a4,a5]
  simp
theorem Nn {t d:List av} {i m:Int} (h1:∀x∈t,x.au<i):mL (fun x=>eqB x.au i) 0 (t++(⟨i,m⟩:av)::d)=((t.length:Nat):Int):=by
 have:=JL (fun x:av=>eqB x.au i) ⟨i,m⟩ d (by simp) t 0 (fun y hy=>eqB_f.2 (by have:=h1 y hy;omega))
 simpa using this
theorem RU {t d:List av} {i:Int} (h1:∀x∈t,x.au<i) (h2:∀x∈d,i<x.au):mL (fun x=>eqB x.au i) 0 (t++d)= -1:=
 JN _ _ _ fun y hy=>eqB_f.2 (by rcases TW.1 hy with hy|hy;(have:=h1 y hy;omega);have:=h2 y hy;omega)
theorem IS {a:aj} (ok:nU a) {t d:List av} {i m n:Int} (e:a.aD=t++⟨i,m⟩::d) (h1:∀x∈t,x.au<i) (hn:0≤n∧n≤m):zN a.aD ((t.length:Nat):Int) n=some (K2 a.aD i n):=by
 have hl:=ok.l
 have hm:m≤100000∧1≤m:=by have:=ok.r ⟨i,m⟩ (by rw[e];simp);simp only at this;omega
 have htl:t.length+1+d.length≤8:=by have:=congrArg VQ e;simp at this;omega
 rw[e,Jr h1]
 have hx:(t++(⟨i,m⟩:av)::d)[t.length]?=some ⟨i,m⟩:=by simp
 have a1:cM 16 (t++(⟨i,m⟩:av)::d).length=true:=cE (by omega) (by rw[←e];omega)
 simp only[zN,UZ,a1,cond_true,a8,hx,Vm,Vn]
 by_cases hb:n<m
 ·rw[ltB_t.2 hb,if_pos hb]
  simp only[cond_true,bG (n:=m-n) (by omega)]
  simp
 ·rw[ltB_f.2 (by omega),if_neg hb]
  have a2:fL (t++(⟨i,m⟩:av)::d) 0 ((t.length:Nat):Int)=true:=by simp[fL];omega
  have a3:fL (t++(⟨i,m⟩:av)::d) ((t.length+1:Nat):Int) (((t++(⟨i,m⟩:av)::d).length:Nat):Int)=true:=by simp[fL];omega
  have e2:(t++(⟨i,m⟩:av)::d).drop (t.length+1)=d:=by rw[←List.drop_drop,V2];rfl
  have a4:cM 16 (t++d).length=true:=cE (by omega) (by simp;omega)
  simp only[cond_false,a2,cd (show t.length<9223372036854775807 by omega),a3,cond_true,Vn,e2,VZ,a4]
def full (a:aj) (i:Int):Bool:=leB 8 ((a.aD.length:Nat):Int)&&!a.aD.any fun x=>eqB x.au i
def oo (x y:Int):Int:=if y<x then y else x
def iu (a:aj) (i n:Int):aj×Int:=
 bif ltB i 0||(!inR n 1 100000||(eqB a.bQ 0||full a i)) then(a,0) else({a with bQ:=a.bQ-oo n a.bQ,aD:=DT a.aD i (oo n a.bQ)},oo n a.bQ)
def wq (a:aj) (i n:Int):aj:=bif ltB 0 n then {a with eH:=a.eH+n,aD:=K2 a.aD i n} else a
theorem J4 (x y:Int):Bg x y=some (oo x y):=by
 rw[Bg,oo];by_cases h:y<x
 ·rw[ltB_t.2 h,if_pos h];rfl
 ·rw[ltB_f.2 (by omega),if_neg h];rfl
def Ce (x y:Int):Int:=if x<y then y else x
theorem J2 (x y:Int):Bf x y=some (Ce x y):=by
 rw[Bf,Ce];by_cases h:x<y
 ·rw[ltB_t.2 h,if_pos h];rfl
 ·rw[ltB_f.2 (by omega),if_neg h];rfl
theorem any_A {t d:List av} {i m:Int}:((t++(⟨i,m⟩:av)::d).any fun x=>eqB x.au i)=true:=by simp
theorem Q6 {t d:List av} {i:Int} (h1:∀x∈t,x.au<i) (h2:∀x∈d,i<x.au):((t++d).any fun x=>eqB x.au i)=false:=by
 rw[UQ];intro y hy
 rcases TW.1 hy with hy|hy
 ·have:=h1 y hy;simp[eqB];omega
 ·have:=h2 y hy;simp[eqB];omega
theorem LO {a:aj} (ok:nU a) (i n:Int):xg a i n=some (iu a i n):=by
 have hv:=zu.2 ok
 have hd:=ok.v
 have ht:=ok.t
 have hfind:mB a i=some (mL (fun x=>eqB x.au i) 0 a.aD):=JD ok fun v=>rfl
 have hf:(bif leB 8 ((a.aD.length:Nat):Int) then(Vj (mB a i) fun r5=>some (ltB r5 0)) else some false)=some (full a i):=by
  rw[hfind,full]
  cases leB 8 ((a.aD.length:Nat):Int)
  ·rfl
  ·rcases K3 ok.o i with⟨t,m,d,e,h1,h2⟩|⟨t,d,e,h1,h2⟩
   ·rw[e,Nn h1,any_A];simp[ltB]
   ·rw[e,RU h1 h2,Q6 h1 h2];simp[ltB]
 simp only[xg,zZ ok.ok,t0 ok.ok,hv,hf,eC,J4,Vm,UY,cond_false,iu]
 cases h1:ltB i 0<;>cases h2:inR n 1 100000<;>cases h3:eqB a.bQ 0<;>cases h4:full a i<;>try rfl
 rw[bu] at h2
 have h3:=F7 h3
 have hmin:1≤oo n a.bQ∧oo n a.bQ≤100000∧oo n a.bQ≤a.bQ:=by unfold oo;split<;>omega
 simp only[UY,cond_false,Vm,IR ok (show 0≤oo n a.bQ∧oo n a.bQ≤100000 by omega),bG (n:=a.bQ-oo n a.bQ) (by omega),VP]
theorem Dj {a:aj} (ok:nU a) (i:Int):0≤ip a i∧ip a i≤100000:=by
 rcases K3 ok.o i with⟨t,m,d,e,h1,h2⟩|⟨t,d,e,h1,h2⟩
 ·rw[lK e h1];have:=ok.r ⟨i,m⟩ (by rw[e];simp);simp only at this;omega
 ·rw[qw (fun x hx=>by rw[e] at hx;rcases TW.1 hx with hx|hx;(have:=h1 x hx;omega);have:=h2 x hx;omega)];omega
theorem PJ {a:aj} (ok:nU a) {i n:Int} (hn:0≤n∧n≤ip a i):EN a i n=some (wq a i n,true):=by
 have hv:=zu.2 ok
 have ht:=ok.t
 have hs:=ok.s
 have hr:=Dj ok i
 have hfind:mB a i=some (mL (fun x=>eqB x.au i) 0 a.aD):=JD ok fun v=>rfl
 have hin:inR n 0 (ip a i)=true:=bu.2 hn
 simp only[EN,zZ ok.ok,t0 ok.ok,hv,hfind,G5 ok.ok,eC,hin,Vm,UY,cond_false,wq]
 cases h0:ltB 0 n
 ·rfl
 ·have h0:=im h0
  rcases K3 ok.o i with⟨t,m,d,e,h1,h2⟩|⟨t,d,e,h1,h2⟩
  ·rw[lK e h1] at hn hr
   have hc:=IS ok e h1 hn
   rw[show mL (fun x=>eqB x.au i) 0 a.aD=((t.length:Nat):Int) by rw[e];exact Nn h1]
   simp only[hc,Vm,cond_true,bG (n:=a.eH+n) (by omega)]
  ·rw[qw (fun x hx=>by rw[e] at hx;rcases TW.1 hx with hx|hx;(have:=h1 x hx;omega);have:=h2 x hx;omega)] at hn
   omega
end Go.AM
namespace Go.AM
attribute [local simp] bE be a8
structure WOK (w:a9):Prop where
 n:1≤w.bm∧w.bm≤100000
 l:w.aw.length≤8
 f:1≤w.bm-w.aw.length
 u:∀(k:Nat) (x:ae),w.aw[k]?=some x→x.cT=w.bm-w.aw.length+k∧x.aQ.length≤60
theorem WOK.ok {w:a9} (h:WOK w):lW w:=⟨by have:=h.l;omega,fun x hx=>by
 obtain⟨k,hk⟩:=T0 hx
 exact⟨by have:=(h.u k x hk).2;omega,fun _ _=>trivial⟩⟩
theorem o4 {n:Nat}:uL n=true↔n≤60:=by simp[uL,ltB];omega
theorem Fp {w:a9}:jh w=true↔WOK w:=by
 constructor
 ·intro h
  simp only[jh,hV,bu,eK,unB,o4] at h
  obtain⟨h1,h2,h3,h4⟩:=h
  have h2:=uO h2
  have h3:=uO h3
  rw[bG (by omega)] at h3
  refine⟨h1,by omega,h3,fun k x hx=>?_⟩
  have hk:=(Tm.1 hx).1
  have:=h4 k x hx
  have e:=lA this.1
  rw[bG (n:=w.bm-(w.aw.length:Int)) (by omega),bG (by omega)] at e
  exact⟨e,this.2⟩
 ·rintro⟨h1,h2,h3,h4⟩
  simp only[jh,hV,bu,eK,unB,o4]
  refine⟨h1,leB_t.2 (by omega),leB_t.2 (by rw[bG (by omega)];omega),fun k x hx=>?_⟩
  have hk:=(Tm.1 hx).1
  have:=h4 k x hx
  exact⟨eqB_t.2 (by rw[bG (n:=w.bm-(w.aw.length:Int)) (by omega),bG (by omega)];exact this.1),this.2⟩
def fw (xs:List ae):Int:=(xs.map fun x=>(x.aQ.length:Int)).sum
theorem uD:∀{xs:List ae},(∀x∈xs,x.aQ.length≤60)→0≤fw xs∧fw xs≤60*xs.length
 |[],_=>by simp[fw]
 |x::xs,h=>by
  have ih:=uD (xs:=xs) fun y hy=>h y (by simp[hy])
  have:=h x (by simp)
  have e:fw (x::xs)=x.aQ.length+fw xs:=by simp[fw]
  rw[e];simp only[TY];omega
theorem GI {xs:List ae} (h:∀x∈xs,x.aQ.length≤60) (hl:xs.length≤1000):vF xs=fw xs:=by
 have key:∀(xs:List ae) (s:Int),(∀x∈xs,x.aQ.length≤60)→0≤s→s+60*xs.length≤9000000000→xs.foldl (fun a x=>WR (a+((x.aQ.length:Nat):Int))) s=s+fw xs:=by
  intro xs
  induction xs with
  |nil=>intro s _ _ _;simp[fw]
  |cons x xs ih=>
   intro s h h0 h1
   have hx:=h x (by simp)
   simp only[TY] at h1
   rw[VR,bG (by omega),ih _ (fun y hy=>h y (by simp[hy])) (by omega) (by omega)]
   simp[fw];omega
 have:=key xs 0 h (by omega) (by omega)
 rw[vF,this];omega
theorem WOK.d {w:a9} (h:WOK w):∀x∈w.aw,x.aQ.length≤60:=fun x hx=>by
 obtain⟨k,hk⟩:=T0 hx;exact(h.u k x hk).2
structure QOK (q:dh):Prop where
 i:0≤q.au
 u:0≤q.er
 g:q.er≤q.cL
 m:q.cL≤100000
theorem Db {q:dh}:jq q=true↔QOK q:=by
 simp only[jq,hV,leB_t]
 exact⟨fun⟨a,b,c,d⟩=>⟨a,b,c,d⟩,fun⟨a,b,c,d⟩=>⟨a,b,c,d⟩⟩
theorem EG {q:dh} (h:QOK q):LI q=q.cL-q.er:=by
 rw[LI,Db.2 h];obtain⟨a,b,c,d⟩:=h
 simp only[cond_true];rw[bG (by omega)]
structure SP (s:ag):Prop where
 ok:eW s
 rcd:rP s.bv=true
 plan:pS s.gL=true
 page:jS s.il=true
 win:WOK s.aq
 q:QOK s.bW
 st:0≤s.bi∧s.bi≤1
 k1:s.bi=1→oU s.aK=true
 k2:0<s.bF→oU s.aF.eY=true
 ps:0≤s.bF∧s.bF≤999999
 gn:0≤s.aa∧s.aa≤999999
 ep:0≤s.aO∧s.aO≤999999
 rk:0≤s.aK∧s.aK≤2147483646
 ce:0≤s.aX∧s.aX≤5
 qu:0≤s.ef∧s.ef≤5
 rt:0≤s.d4∧s.d4≤3
 sl:s.ax.length≤24
 sd:∀p∈s.ax,p.aQ.length≤60
 nx:s.aq.bm≤s.ax.length+1
 un:∀x∈s.aq.aw,BN s x=true
 pd:fw s.aq.aw≤s.bW.cL-s.bW.er
theorem xm {s:ag} (ok:eW s):iO s=true↔SP s:=by
 constructor
 ·intro h
  simp only[iO,hV,bu,Fp,Db,TX,zr,o4,tj,CY] at h
  obtain⟨h1,h2,h3,h4,h5,h6,⟨h7,h8⟩,h9,h10,h11,h12,h13,h14,h15,h16,h17,h18,h19,h20⟩:=h
  have h16:=uO h16
  have h18:=uO h18
  have h20:=uO h20
  rw[bG (by omega)] at h18
  rw[EG h5,GI h4.d (by have:=h4.l;omega)] at h20
  refine⟨ok,h1,h2,h3,h4,h5,h6,fun e=>?_,fun e=>?_,h9,h10,h11,h12,h13,h14,h15,by omega,h17,h18,h19,h20⟩
  ·rw[eqB_t.2 e] at h7;simpa using h7
  ·rw[ltB_t.2 e] at h8;simpa using h8
 ·rintro⟨_,h1,h2,h3,h4,h5,h6,h7,h8,h9,h10,h11,h12,h13,h14,h15,h16,h17,h18,h19,h20⟩
  simp only[iO,hV,bu,Fp,Db,TX,zr,o4,tj,CY]
  refine⟨h1,h2,h3,h4,h5,h6,⟨?_,?_⟩,h9,h10,h11,h12,h13,h14,h15,leB_t.2 (by omega),h17,leB_t.2 (by rw[bG (by omega)];omega),h19,leB_t.2 (by rw[EG h5,GI h4.d (by have:=h4.l;omega)];omega)⟩
  ·cases e:eqB s.bi 1
   ·rfl
   ·exact h7 (lA e)
  ·cases e:ltB 0 s.bF
   ·rfl
   ·exact h8 (im e)
def p8 (s:ag) (b:List Int):ag×Bool:=bif leB 24 ((s.ax.length:Nat):Int)||ltB 60 ((b.length:Nat):Int) then(s,false) else({s with ax:=s.ax++[⟨b⟩]},true)
theorem Ro {s:ag} (h:eW s) {b:List Int}:jF s b=some (p8 s b):=by
 simp only[jF,mR h,Vm,p8,BB,UZ]
 cases h1:leB 24 ((s.ax.length:Nat):Int)<;>cases h2:ltB 60 ((b.length:Nat):Int)<;>try rfl
 have h1:=wM h1
 have h2:=nn h2
 simp only[cond_false,VP,Vm,cE (by_:=1) (n:=b.length) (by omega) (by omega),cond_true,cE (by_:=24) (n:=(s.ax++[(⟨b⟩:b9)]).length) (by omega) (by simp;omega)]
def Ha (s:ag) (m:aA):bK:=
 let q:=s.bv.cT+1
 let v:=vec s.bv.eY (FO s.bv.ID q) q
 bif eqB s.bv.cT 999999 then⟨s,[]⟩ else⟨{s with bv:={s.bv with cT:=q},aF:=v,bF:=q},[⟨2,m.aX,q,0,0,v,0⟩]⟩
def ut (s:ag) (k:Int):aA:=tK s.aK ⟨k,s.aX,s.aa,s.aO,0,cr,0⟩
def uS (s:ag) (c:Int):ag:=⟨s.bv,s.gL,1,cr,0,s.bF,s.aF.eY,s.aO+1,c,0,fa,s.ax,s.aq,s.d4,s.bW⟩
def yS (s:ag) (m:aA):bK:=
 bif leB s.bF 0||(!eqB m.aa s.bF||(!eqB m.bN s.aF.uW||leB 999999 s.aO)) then⟨s,[]⟩ else⟨uS s m.aX,[ut (uS s m.aX) 4]⟩
def qq (s:ag) (m:aA):Bool:=eqB s.bi 1&&(eqB m.aa s.aa&&tY s.aK m)
def vM (s:ag) (m:aA):ag:={s with aO:=m.aO,aX:=m.aX,ef:=0,il:=fa,d4:=0}
def yR (s:ag) (m:aA):bK:=
 bif !qq s m||(ltB m.aO s.aO||(eqB m.aO s.aO&&!eqB m.aX s.aX)) then⟨s,[]⟩ else⟨vM s m,[ut (vM s m) 6]⟩
def jl (w:a9) (k:Int):a9:=bif ltB w.bm k then w else⟨w.bm,w.aw.filter fun x=>leB k x.cT⟩
def uc (q:dh) (n:Int):dh:=bif inR n 0 (q.cL-q.er) then {q with er:=q.er+n} else q
def kG (s:ag) (k:Int):ag:={s with ef:=0,aq:=jl s.aq k,bW:=uc s.bW (fw s.aq.aw-fw (jl s.aq k).aw)}
def G9 (s:ag) (m:aA):bK:=bif !qq s m||ltB s.aq.bm m.bN then⟨s,[]⟩ else⟨kG s m.bN,[]⟩
def sUp (s:ag) (m:aA):bK:=
 bif !kD m then⟨s,[]⟩ else bif eqB m.aR 1 then Ha s m else bif eqB m.aR 3 then yS s m else bif eqB m.aR 5 then yR s m else bif eqB m.aR 8 then G9 s m else⟨s,[]⟩
def jz (s:ag):ag:={s with aF:=cr,bF:=0,ef:=0,il:=fa,d4:=0}
theorem wQ {s:ag} (h:eW s):lg s=some ⟨s,[]⟩:=by simp[lg,mR h]
theorem RJ {s:ag} (h:eW s):uq s=some (jz s):=by simp[uq,mR h,jz]
theorem Ks {r:aC} (h:rP r=true):0≤r.cT∧r.cT≤999999:=by
 simp only[rP,hV,bu] at h;omega
theorem att_s {s:ag} (h:SP s) (m:aA):kV s m=some (Ha s m):=by
 have hr:=Ks h.rcd
 simp only[kV,MA,mM,Og,h.rcd,KN,wQ h.ok,mR h.ok,Vm,UY,cond_false,bG (n:=s.bv.cT+1) (by omega),Ha]
 cases he:eqB s.bv.cT 999999
 ·simp only[cond_false,Vm,be,eqB_f.2 (show s.bv.cT+1≠s.bv.cT by omega),VK,VO]
 ·simp only[cond_true,Vm,be,VK]
theorem Sz {s:ag} (h:SP s) (m:aA):jc s m=some (yS s m):=by
 have he:=h.ep
 simp only[jc,lO,wQ h.ok,mR h.ok,oL,yw,Vm,bG (n:=s.aO+1) (by omega),yS]
 cases leB s.bF 0<;>cases eqB m.aa s.bF<;>cases eqB m.bN s.aF.uW<;>cases leB 999999 s.aO<;>rfl
theorem JS (s:ag) (m:aA):qH s m=some (qq s m):=by
 simp only[qH,Fm,Vm,qq];cases eqB s.bi 1<;>cases eqB m.aa s.aa<;>rfl
theorem Qv {s:ag} (h:SP s) (m:aA):gR s m=some (yR s m):=by
 simp only[gR,JS,wQ h.ok,mR h.ok,oL,yw,Vm,yR]
 cases qq s m<;>cases ltB m.aO s.aO<;>cases eqB m.aO s.aO<;>cases eqB m.aX s.aX<;>rfl
end Go.AM
namespace Go.AM
attribute [local simp] bE be a8
theorem Rv {w:a9} (h:WOK w) (k:Int):iv w k=some (jl w k):=by
 have hl:=h.l
 simp only[iv,Bw h.ok,Vm,jl]
 cases ltB w.bm k
 ·have:=eD (step:=fk w k) w.aw (fun i s=>((i:Int),s)) (sV 32 (fun x=>leB k x.cT) (fun x=>x)) some (by omega)
   (fun i x s hx hi=>by
    have hd:=h.d x (Tn hx)
    simp only[fk,cN hi,a8,hx,Vm,cond_true,UZ,cE (by_:=1) (n:=x.aQ.length) (by omega) (by omega),cd (show i<9223372036854775807 by omega),sV]
    cases leB k x.cT<;>simp
    cases cM 32 (s.length+1)<;>rfl) (fun s=>by simp[fk]) ([]:List ae)
  rw[ug (by omega) _ _ _ _ (by simp;omega)] at this
  simp only[cond_false,Vm,show iter (fk w k) FU (0,[])=_ from this,UZ,List.map_id']
 ·rfl
theorem K1 {q:dh} (h:QOK q) (n:Int):∃b,lX q n=some (uc q n,b):=by
 obtain⟨a,b,c,d⟩:=h
 simp only[lX,wY,Db.2 ⟨a,b,c,d⟩,eC,Vm,UY,cond_false,bG (n:=q.cL-q.er) (by omega),uc]
 cases hn:inR n 0 (q.cL-q.er)
 ·exact⟨false,rfl⟩
 ·rw[bu] at hn
  simp only[UY,cond_false,bG (n:=q.er+n) (by omega)];exact⟨true,rfl⟩
theorem Du (p:ae→Bool):∀xs:List ae,fw xs=fw (xs.filter p)+fw (xs.filter fun x=>!p x)
 |[]=>rfl
 |x::xs=>by
  have ih:=Du p xs
  have e:∀ys,fw (x::ys)=x.aQ.length+fw ys:=fun ys=>by simp[fw]
  rw[VY,VY,e]
  cases p x<;>simp[e]<;>omega
theorem Pr {w:a9} (h:WOK w) {k:Int} (hk:ltB w.bm k=false):fw w.aw-fw (jl w k).aw=fw (w.aw.filter fun x=>ltB x.cT k):=by
 rw[jl,hk,Du (fun x=>leB k x.cT) w.aw]
 simp only[cond_false]
 have:(fun x:ae=>ltB x.cT k)=fun x=>!leB k x.cT:=by funext x;rw[JW]
 rw[this];omega
theorem ack_s {s:ag} (h:SP s) (m:aA):jP s m=some (G9 s m):=by
 obtain⟨b,hb⟩:=K1 h.q (fw s.aq.aw-fw (jl s.aq m.bN).aw)
 have hu:=h.win.d
 have hl:=h.win.l
 have hu2:∀x∈(jl s.aq m.bN).aw,x.aQ.length≤60:=fun x hx=>by
  rw[jl] at hx;revert hx
  cases ltB s.aq.bm m.bN
  ·exact fun hx=>hu x (List.mem_filter.1 hx).1
  ·exact hu x
 have hl2:(jl s.aq m.bN).aw.length≤8:=by
  rw[jl];cases ltB s.aq.bm m.bN
  ·have:=VU (fun x:ae=>leB m.bN x.cT) s.aq.aw
   simp only[cond_false];omega
  ·exact hl
 have s1:=uD hu
 have s2:=uD hu2
 have e1:WR (vF s.aq.aw-vF (jl s.aq m.bN).aw)=fw s.aq.aw-fw (jl s.aq m.bN).aw:=by
  rw[GI hu (by omega),GI hu2 (by omega),bG (by omega)]
 simp only[jP,JS,wQ h.ok,mR h.ok,Rv h.win,Qn (show s.aq.aw.length≤1048576 by omega),Qn (show(jl s.aq m.bN).aw.length≤1048576 by omega),Vm,e1,hb,G9]
 cases qq s m<;>cases ltB s.aq.bm m.bN<;>rfl
theorem up_s {s:ag} (h:SP s) (m:aA):kY s m=some (sUp s m):=by
 simp only[kY,Kf,wQ h.ok,att_s h,Sz h,Qv h,ack_s h,Vm,sUp]
 cases kD m<;>cases eqB m.aR 1<;>cases eqB m.aR 3<;>cases eqB m.aR 5<;>cases eqB m.aR 8<;>rfl
end Go.AM
namespace Go.AM
attribute [local simp] bE be a8
theorem oS (t d:List av):rO (t++d)=rO t+rO d:=by simp[rO,List.sum_append]
@[simp] theorem sumR_cons (x:av) (d:List av):rO (x::d)=x.eg+rO d:=by simp[rO]
theorem Oc {t d:List av} {i m m':Int} (h:(t++⟨i,m⟩::d).Pairwise fun x y=>x.au<y.au):(t++⟨i,m'⟩::d).Pairwise fun x y=>x.au<y.au:=by
 rw[VJ,VI] at h ⊢
 obtain⟨h1,⟨h2,h3⟩,h4⟩:=h
 exact⟨h1,⟨fun y hy=>h2 y hy,h3⟩,fun x hx y hy=>by
  rcases Tq.1 hy with e|hy
  ·subst e;exact h4 x hx ⟨i,m⟩ (by simp)
  ·exact h4 x hx y (by simp[hy])⟩
theorem Sw {t d:List av} {i m:Int} (h:(t++d).Pairwise fun x y=>x.au<y.au) (h1:∀x∈t,x.au<i) (h2:∀x∈d,i<x.au):(t++(⟨i,m⟩:av)::d).Pairwise fun x y=>x.au<y.au:=by
 rw[VJ] at h ⊢
 obtain⟨a,b,c⟩:=h
 exact⟨a,VI.2 ⟨fun y hy=>h2 y hy,b⟩,fun x hx y hy=>by
  rcases Tq.1 hy with e|hy
  ·subst e;exact h1 x hx
  ·exact c x hx y hy⟩
theorem EB {t d:List av} {i:Int} (h1:∀x∈t,x.au<i) (h2:∀x∈d,i<x.au):∀x∈t++d,x.au≠i:=fun x hx=>by
 rcases TW.1 hx with hx|hx
 ·have:=h1 x hx;omega
 ·have:=h2 x hx;omega
theorem A7 {a:aj} (ok:nU a) (i n:Int):
 nU (iu a i n).1∧ip (iu a i n).1 i=ip a i+(iu a i n).2∧0≤(iu a i n).2∧(iu a i n).2≤a.bQ∧(iu a i n).1.bQ=a.bQ-(iu a i n).2∧(iu a i n).1.eH=a.eH∧(iu a i n).1.eZ=a.eZ:=by
 have hv:=ok.v
 have ht:=ok.t
 have hs:=ok.s
 have hl:=ok.l
 have he:=ok.e
 rw[iu]
 cases h1:ltB i 0<;>cases h2:inR n 1 100000<;>cases h3:eqB a.bQ 0<;>cases h4:full a i<;>simp only[UY,VN,Bool.or_false,Bool.or_true,Bool.true_or,Bool.false_or,cond_true,cond_false]<;>try exact⟨ok,by omega,by omega,by omega,by omega,by simp,by simp⟩
 rw[bu] at h2
 have h1:=nn h1
 have h3:=F7 h3
 have hmin:1≤oo n a.bQ∧oo n a.bQ≤100000∧oo n a.bQ≤a.bQ:=by unfold oo;split<;>omega
 generalize oo n a.bQ=g at*
 rcases K3 ok.o i with⟨t,m,d,e,k1,k2⟩|⟨t,d,e,k1,k2⟩
 ·have hm:=ok.r ⟨i,m⟩ (by rw[e];simp)
  have hsum:=(pO ok.r).2.2 ⟨i,m⟩ (by rw[e];simp)
  simp only at hm hsum
  rw[e,oS,sumR_cons] at he
  simp only at he
  have hs1:=pO (h:=t) fun x hx=>ok.r x (by rw[e];simp[hx])
  have hs2:=pO (h:=d) fun x hx=>ok.r x (by rw[e];simp[hx])
  have ho:=ok.o
  rw[e] at ho
  rw[lK e k1]
  simp only[e,Jk k1]
  have hll:(t++(⟨i,m+g⟩:av)::d).length=a.aD.length:=by rw[e];simp
  refine⟨⟨ht,by simp only;omega,hs,by simp only;omega,fun x hx=>?_,Oc ho,by simp only[oS,sumR_cons];omega⟩,lK (t:=t) (d:=d) rfl k1,by omega,by omega,trivial,trivial,trivial⟩
  rcases TW.1 hx with hx|hx
  ·exact ok.r x (by rw[e];simp[hx])
  ·rcases Tq.1 hx with e'|hx
   ·subst e';simp only;omega
   ·exact ok.r x (by rw[e];simp[hx])
 ·rw[qw (a:=a) (fun x hx=>by rw[e] at hx;exact EB k1 k2 x hx)]
  have hb:a.aD.length<8:=by
   rw[full,e,Q6 k1 k2] at h4
   simp only[VN,VO] at h4
   have:=wM h4
   rw[e];omega
  rw[e,oS] at he
  have ho:=ok.o
  rw[e] at ho
  simp only[e,Jl k1 k2]
  refine⟨⟨ht,by simp only;omega,hs,by simp only;rw[e] at hb;simp at hb ⊢;omega,fun x hx=>?_,Sw ho k1 k2,by simp only[oS,sumR_cons];omega⟩,Eq.trans (lK (t:=t) (d:=d) rfl k1) (by omega),by omega,by omega,trivial,trivial,trivial⟩
  rcases TW.1 hx with hx|hx
  ·exact ok.r x (by rw[e];simp[hx])
  ·rcases Tq.1 hx with e'|hx
   ·subst e';simp only;omega
   ·exact ok.r x (by rw[e];simp[hx])
theorem MO {a:aj} (ok:nU a) {i n:Int} (hn:0≤n∧n≤ip a i):
 nU (wq a i n)∧ip (wq a i n) i=ip a i-n∧(wq a i n).eH=a.eH+n∧(wq a i n).bQ=a.bQ∧(wq a i n).eZ=a.eZ:=by
 have hv:=ok.v
 have ht:=ok.t
 have hs:=ok.s
 have hl:=ok.l
 have he:=ok.e
 rw[wq]
 cases h0:ltB 0 n
 ·have h0:=nn h0
  have:n=0:=by omega
  subst this
  simp only[cond_false]
  exact⟨ok,by omega,by omega,by simp,by simp⟩
 ·have h0:=im h0
  simp only[cond_true]
  rcases K3 ok.o i with⟨t,m,d,e,k1,k2⟩|⟨t,d,e,k1,k2⟩
  ·rw[lK e k1] at hn ⊢
   have hm:=ok.r ⟨i,m⟩ (by rw[e];simp)
   simp only at hm
   rw[e,oS,sumR_cons] at he
   have hs1:=pO (h:=t) fun x hx=>ok.r x (by rw[e];simp[hx])
   have hs2:=pO (h:=d) fun x hx=>ok.r x (by rw[e];simp[hx])
   have ho:=ok.o
   rw[e] at ho
   have hll:t.length+1+d.length=a.aD.length:=by rw[e];simp;omega
   simp only at he
   simp only[e,Jr k1]
   by_cases hb:n<m
   ·simp only[if_pos hb]
    refine⟨⟨ht,by simp only;omega,by simp only;omega,by simp;omega,fun x hx=>?_,Oc ho,by simp only[oS,sumR_cons];omega⟩,lK (t:=t) (d:=d) rfl k1,trivial,trivial,trivial⟩
    rcases TW.1 hx with hx|hx
    ·exact ok.r x (by rw[e];simp[hx])
    ·rcases Tq.1 hx with e'|hx
     ·subst e';simp only;omega
     ·exact ok.r x (by rw[e];simp[hx])
   ·simp only[if_neg hb]
    have ho2:(t++d).Pairwise fun x y=>x.au<y.au:=ho.sublist (by simp)
    refine⟨⟨ht,by simp only;omega,by simp only;omega,by simp;omega,fun x hx=>ok.r x (by rw[e];rcases TW.1 hx with hx|hx<;>simp[hx]),ho2,by simp only[oS];omega⟩,?_,trivial,trivial,trivial⟩
    rw[qw (a:={a with eH:=a.eH+n,aD:=t++d}) (EB k1 k2)];omega
  ·rw[qw (fun x hx=>by rw[e] at hx;exact EB k1 k2 x hx)] at hn
   omega
structure MOK (a:aj) (q:dh):Prop where
 acc:nU a
 quo:QOK q
 res:ip a q.au=q.cL
theorem um {a:aj} {q:dh}:wa a q=true↔MOK a q:=by
 simp only[wa,hV,zu,Db,eqB_t]
 exact⟨fun⟨x,y,z⟩=>⟨x,y,z⟩,fun⟨x,y,z⟩=>⟨x,y,z⟩⟩
def i9 (a:aj) (q:dh) (n:Int):aj×dh:=
 let r:=iu a q.au n
 (r.1,{q with cL:=q.cL+r.2})
theorem A6 {a:aj} {q:dh} (h:MOK a q) (n:Int):MOK (i9 a q n).1 (i9 a q n).2∧q.cL≤(i9 a q n).2.cL:=by
 obtain⟨h1,h2,h3,h4,h5,h6,h7⟩:=A7 h.acc q.au n
 have:=Dj h1 q.au
 have hr:=h.res
 obtain⟨a1,a2,a3,a4⟩:=h.quo
 exact⟨⟨h1,⟨a1,a2,by simp only[i9];omega,by simp only[i9];omega⟩,by simp only[i9];omega⟩,by simp only[i9];omega⟩
theorem LL {a:aj} {q:dh} (h:MOK a q) (n:Int):ma a q n=some (i9 a q n):=by
 have h0:=(A6 h n).1.quo
 have hq:=h.quo
 simp only[i9] at h0
 have hg:=h0.m
 have hg2:=h0.g
 simp only at hg hg2
 simp only[ma,LO h.acc,Ep h.acc.ok,um.2 h,wY,Vm,UY,cond_false,bG (n:=q.cL+(iu a q.au n).2) (by have:=hq.u;omega),Db.2 h0,i9]
def kc (a:aj) (q:dh):aj×dh:=(wq a q.au q.er,⟨q.au,q.cL-q.er,0⟩)
theorem LJ {a:aj} {q:dh} (h:MOK a q):MOK (kc a q).1 (kc a q).2∧(kc a q).1.eH=a.eH+q.er∧(kc a q).1.eZ=a.eZ∧(kc a q).1.bQ=a.bQ:=by
 obtain⟨a1,a2,a3,a4⟩:=h.quo
 have hr:=h.res
 obtain⟨h1,h2,h3,h4,h5⟩:=MO h.acc (i:=q.au) (n:=q.er) (by omega)
 exact⟨⟨h1,⟨a1,by simp[kc],by simp only[kc];omega,by simp only[kc];omega⟩,by simp only[kc];omega⟩,h3,h5,h4⟩
theorem On {a:aj} {q:dh} (h:MOK a q):nD a q=some (kc a q):=by
 obtain⟨a1,a2,a3,a4⟩:=h.quo
 have hr:=h.res
 simp only[nD,Ep h.acc.ok,um.2 h,PJ h.acc (i:=q.au) (n:=q.er) (by omega),Vm,UY,cond_false,bG (n:=q.cL-q.er) (by omega),kc]
def km (s:ag) (n:Int):Int:=Ce 0 (fw s.aq.aw+n-(s.bW.cL-s.bW.er))
theorem NT {s:ag} (hw:WOK s.aq) (hq:QOK s.bW) {n:Int} (hn:0≤n∧n≤1000):kU s n=some (km s n):=by
 have hs:=uD hw.d
 have hl:=hw.l
 obtain⟨a1,a2,a3,a4⟩:=hq
 simp only[kU,kT,Qn (show s.aq.aw.length≤1048576 by omega),GI hw.d (show s.aq.aw.length≤1000 by omega),Rj,EG ⟨a1,a2,a3,a4⟩,J2,Vm,km,bG (n:=fw s.aq.aw+n) (by omega),bG (n:=fw s.aq.aw+n-(s.bW.cL-s.bW.er)) (by omega)]
def cV (s:ag) (a:aj) (n:Int):ag×aj:=
 bif leB (km s n) 0 then(s,a) else
  let r:=i9 a s.bW (Ce (km s n) s.gL.eA)
  ({s with bW:=r.2},r.1)
theorem M1 {s:ag} (h:SP s) {a:aj} (hm:MOK a s.bW) {n:Int} (hn:0≤n∧n≤1000):nB s a n=some (cV s a n):=by
 simp only[nB,mR h.ok,NT h.win h.q hn,zZ hm.acc.ok,J2,LL hm,Vm,cV]
 cases leB (km s n) 0<;>rfl
def mQ (w:a9) (b:List Int):a9:=⟨w.bm+1,w.aw++[⟨w.bm,b⟩]⟩
theorem EW {w:a9} (h:WOK w) {b:List Int} (hn:w.bm<100000) (hl:w.aw.length<8) (hb:b.length≤60):WOK (mQ w b):=by
 have h1:=h.n
 have h3:=h.f
 refine⟨by simp only[mQ];omega,by simp[mQ];omega,by simp[mQ];omega,fun k x hx=>?_⟩
 simp only[mQ] at hx ⊢
 rw[Ut,VM]
 by_cases hk:k<w.aw.length
 ·rw[List.getElem?_append_left hk] at hx
  have:=h.u k x hx
  omega
 ·have hk2:=(Tm.1 hx).1
  simp at hk2
  have:k=w.aw.length:=by omega
  subst this
  simp at hx
  subst hx
  simp only
  omega
theorem SH {w:a9} (h:WOK w) {b:List Int} (hn:w.bm<100000) (hl:w.aw.length<8) (hb:b.length≤60):my w b=some (mQ w b,⟨w.bm,b⟩,true):=by
 have h1:=h.n
 have hs:=EW h hn hl hb
 have e:(⟨WR (w.bm+1),w.aw++[(⟨w.bm,b⟩:ae)]⟩:a9)=mQ w b:=by rw[bG (by omega)];rfl
 simp only[my,Bw h.ok,UZ,Vm,cE (by_:=1) (n:=b.length) (by omega) (by omega),cE (by_:=32) (n:=(w.aw++[(⟨w.bm,b⟩:ae)]).length) (by omega) (by simp;omega),cond_true,e,Hl hs.ok,Fp.2 hs,UY,cond_false]
end Go.AM
namespace Go.AM
attribute [local simp] bE be a8
structure SG (s:ag) (a:aj):Prop where
 sp:SP s
 b1:∀p∈s.ax,okB p.aQ
 b2:∀x∈s.aq.aw,okB x.aQ
 mo:MOK a s.bW
def o6 (s:ag):Option b9:=bif leB s.aq.bm ((s.ax.length:Nat):Int)&&ltB ((s.aq.aw.length:Nat):Int) 8 then s.ax[(s.aq.bm-1).toNat]? else none
def gJ:Nat→ag→aj→List ao→ag×aj×List ao
 |0,s,a,r=>(s,a,r)
 |k+1,s,a,r=>match o6 s with
  |none=>(s,a,r)
  |some x=>
   let e:=cV s a ((x.aQ.length:Nat):Int)
   bif ltB 0 (km e.1 ((x.aQ.length:Nat):Int)) then(e.1,e.2,r)
   else gJ k {e.1 with aq:=mQ e.1.aq x.aQ} e.2 (r++[gI e.1.aK e.1.aa e.1.aO ⟨e.1.aq.bm,x.aQ⟩])
theorem lF {s:ag} (h:SP s) {x:b9} (e:o6 s=some x):x∈s.ax∧ix s.ax (WR (s.aq.bm-1))=some x∧s.ax[(s.aq.bm-1).toNat]?=some x∧s.aq.bm≤s.ax.length∧s.aq.aw.length<8∧x.aQ.length≤60:=by
 have hn:=h.win.n
 rw[o6] at e
 cases h1:leB s.aq.bm ((s.ax.length:Nat):Int)<;>cases h2:ltB ((s.aq.aw.length:Nat):Int) 8<;>rw[h1,h2] at e<;>try cases e
 have h1:=uO h1
 have h2:=im h2
 have e:s.ax[(s.aq.bm-1).toNat]?=some x:=e
 have hm:=Tn e
 refine⟨hm,?_,e,h1,by omega,h.sd x hm⟩
 rw[bG (by omega),ix,leB_t.2 (show 0≤s.aq.bm-1 by omega)]
 exact e
theorem Ir {s:ag} (h:SP s) (e:o6 s=none):(leB s.aq.bm ((s.ax.length:Nat):Int)&&ltB ((s.aq.aw.length:Nat):Int) 8)=false:=by
 have hn:=h.win.n
 cases h1:leB s.aq.bm ((s.ax.length:Nat):Int)&&ltB ((s.aq.aw.length:Nat):Int) 8
 ·rfl
 ·rw[o6,h1] at e
  rw[hV] at h1
  have h1:=uO h1.1
  have e:s.ax[(s.aq.bm-1).toNat]?=none:=e
  rw[List.getElem?_eq_none_iff] at e
  omega
theorem uf {s:ag} {a:aj} (h:SG s a) {n:Int} (hn:0≤n∧n≤60):SG (cV s a n).1 (cV s a n).2:=by
 rw[cV]
 cases leB (km s n) 0
 ·obtain⟨h1,h2⟩:=A6 h.mo (Ce (km s n) s.gL.eA)
  have hp:=h.sp.pd
  have hu:(i9 a s.bW (Ce (km s n) s.gL.eA)).2.er=s.bW.er:=rfl
  exact⟨{h.sp with q:=h1.quo,pd:=by simp only[cond_false] at hp ⊢;rw[hu];omega},h.b1,h.b2,h1⟩
 ·exact h
theorem L3 (x:ByteArray):strB x x=true:=by simp[strB]
theorem zL {s:ag} {a:aj} (h:SG s a) {x:b9} (e:o6 s=some x) (hq:ltB 0 (km s ((x.aQ.length:Nat):Int))=false):SG {s with aq:=mQ s.aq x.aQ} a:=by
 obtain⟨hm,_,hx,hn,hl,hb⟩:=lF h.sp e
 have hs:=h.sp.sl
 have hq:=nn hq
 have hnn:=h.sp.win.n
 have hpd:fw (s.aq.aw++[⟨s.aq.bm,x.aQ⟩])≤s.bW.cL-s.bW.er:=by
  have e1:fw (s.aq.aw++[⟨s.aq.bm,x.aQ⟩])=fw s.aq.aw+x.aQ.length:=by simp[fw]
  rw[km,Ce] at hq
  rw[e1]
  split at hq<;>omega
 refine⟨{h.sp with ok:=⟨h.sp.ok.1,h.sp.ok.2.1,(EW h.sp.win (by omega) hl hb).ok⟩,win:=EW h.sp.win (by omega) hl hb,nx:=by simp only[mQ];omega,un:=fun y hy=>?_,pd:=hpd},h.b1,fun y hy=>?_,h.mo⟩
 ·simp only[mQ,TW,UJ] at hy
  rcases hy with hy|rfl
  ·exact h.sp.un y hy
  ·simp only[BN,hx,Kx];exact L3 _
 ·simp only[mQ,TW,UJ] at hy
  rcases hy with hy|rfl
  ·exact h.b2 y hy
  ·exact h.b1 x hm
theorem mg (s:ag) (a:aj) (n:Int):∃q,(cV s a n).1={s with bW:=q}:=by
 rw[cV];cases leB (km s n) 0
 ·exact⟨_,rfl⟩
 ·exact⟨s.bW,rfl⟩
theorem Bv (s0:ag):∀(k fu:Nat) (s:ag) (a:aj) (g:List aA) (r:List ao),SG s a→s.ax=s0.ax→s.aK=s0.aK→s.aa=s0.aa→s.aO=s0.aO→k≤2→k<fu→r.length+k≤1000→
 iter (pp s0) fu ((2:Int)-(k:Nat),⟨s,a,g,r⟩)=some ⟨(gJ k s a r).1,(gJ k s a r).2.1,g,(gJ k s a r).2.2⟩
 |0,fu,s,a,g,r,h,c1,c2,c3,c4,h1,h2,h3=>by
  cases fu with
  |zero=>omega
  |succ fu=>rw[iter];simp[pp,gJ]
 |k+1,fu,s,a,g,r,h,c1,c2,c3,c4,h1,h2,h3=>by
  cases fu with
  |zero=>omega
  |succ fu=>
   have hlt:ltB ((2:Int)-((k+1:Nat):Int)) 2=true:=ltB_t.2 (by omega)
   have hc:(bif leB s.aq.bm ((s0.ax.length:Nat):Int) then some (ltB ((s.aq.aw.length:Nat):Int) 8) else some false)=some (leB s.aq.bm ((s.ax.length:Nat):Int)&&ltB ((s.aq.aw.length:Nat):Int) 8):=by
    rw[←c1]
    cases leB s.aq.bm ((s.ax.length:Nat):Int)<;>rfl
   rw[iter]
   simp only[pp,hlt,hc,cond_true,Vm,gJ]
   cases e:o6 s with
   |none=>rw[Ir h.sp e];rfl
   |some x=>
    obtain⟨hm,hx,_,hn,hl,hb⟩:=lF h.sp e
    have hcc:(leB s.aq.bm ((s.ax.length:Nat):Int)&&ltB ((s.aq.aw.length:Nat):Int) 8)=true:=by rw[leB_t.2 hn,ltB_t.2 (by omega)];rfl
    have he:=uf h (n:=((x.aQ.length:Nat):Int)) (by omega)
    have hsl:=h.sp.sl
    have hnn:=h.sp.win.n
    rw[c1] at hx
    simp only[hcc,cond_true,hx,Vm,M1 h.sp h.mo (n:=((x.aQ.length:Nat):Int)) (by omega),NT he.sp.win he.sp.q (n:=((x.aQ.length:Nat):Int)) (by omega)]
    cases hq:ltB 0 (km (cV s a ((x.aQ.length:Nat):Int)).1 ((x.aQ.length:Nat):Int))
    ·obtain⟨q,hk⟩:=mg s a ((x.aQ.length:Nat):Int)
     have e2:o6 (cV s a ((x.aQ.length:Nat):Int)).1=some x:=by rw[hk];exact e
     have hg:=zL he e2 hq
     have hw:(cV s a ((x.aQ.length:Nat):Int)).1.aq=s.aq:=by rw[hk]
     have hww:=he.sp.win
     have d1:(cV s a ((x.aQ.length:Nat):Int)).1.aK=s0.aK:=by rw[hk];exact c2
     have d2:(cV s a ((x.aQ.length:Nat):Int)).1.aa=s0.aa:=by rw[hk];exact c3
     have d3:(cV s a ((x.aQ.length:Nat):Int)).1.aO=s0.aO:=by rw[hk];exact c4
     simp only[cond_false,SH hww (b:=x.aQ) (by rw[hw];omega) (by rw[hw];omega) hb,Vm,cond_true,tR,IM (x:=⟨(cV s a ((x.aQ.length:Nat):Int)).1.aq.bm,x.aQ⟩) (by rw[hw];simp only;omega) (by rw[hw];simp only;omega) (h.b1 x hm) (by simp only;omega),←d1,←d2,←d3,cE (by_:=64) (n:=(r++[gI (cV s a ((x.aQ.length:Nat):Int)).1.aK (cV s a ((x.aQ.length:Nat):Int)).1.aa (cV s a ((x.aQ.length:Nat):Int)).1.aO ⟨(cV s a ((x.aQ.length:Nat):Int)).1.aq.bm,x.aQ⟩]).length) (by omega) (by simp;omega),bG (n:=(2:Int)-((k+1:Nat):Int)+1) (by omega)]
     rw[show(2:Int)-((k+1:Nat):Int)+1=2-(k:Nat) by omega]
     exact Bv s0 k fu _ _ _ _ hg (by simp only;rw[hk];exact c1) d1 d2 d3 (by omega) (by omega) (by simp;omega)
    ·rfl
theorem LS {s:ag} {a:aj} (h:SG s a) (hs:s.bi=1):tH s a=some ⟨(gJ 2 s a []).1,(gJ 2 s a []).2.1,[],(gJ 2 s a []).2.2⟩:=by
 have:=Bv s 2 FU s a [] [] h rfl rfl rfl rfl (by omega) (by have:=kt;omega) (by simp)
 rw[show(2:Int)-((2:Nat):Int)=0 by omega] at this
 have hz:({cY with aJ:=s,dX:=a}:bY)=⟨s,a,[],[]⟩:=rfl
 simp only[tH,oN,tO,mR h.sp.ok,zZ h.mo.acc.ok,yv h.sp.ok,(xm h.sp.ok).2 h.sp,eqB_t.2 hs,Vm,UY,cond_false,hz,this]
theorem Hk:∀(k:Nat) (s:ag) (a:aj) (r:List ao),SG s a→SG (gJ k s a r).1 (gJ k s a r).2.1
 |0,s,a,r,h=>h
 |k+1,s,a,r,h=>by
  rw[gJ]
  cases e:o6 s with
  |none=>exact h
  |some x=>
   obtain⟨hm,hx,_,hn,hl,hb⟩:=lF h.sp e
   have he:=uf h (n:=((x.aQ.length:Nat):Int)) (by omega)
   simp only
   cases hq:ltB 0 (km (cV s a ((x.aQ.length:Nat):Int)).1 ((x.aQ.length:Nat):Int))
   ·obtain⟨q,hk⟩:=mg s a ((x.aQ.length:Nat):Int)
    exact Hk k _ _ _ (zL he (by rw[hk];exact e) hq)
   ·exact he
end Go.AM
namespace Go.AM
attribute [local simp] bE be a8
theorem Ge {α:Type} (xs:List α):(xs.filter fun _=>true)=xs:=List.filter_eq_self.2 (by simp)
def we (s:ag):List ao:=bif eqB s.bi 1 then(s.aq.aw.take 2).map fun x=>gI s.aK s.aa s.aO x else []
theorem O1 {s:ag} (h:WOK s.aq) {x:ae} (hx:x∈s.aq.aw):1≤x.cT∧x.cT<s.aq.bm∧x.cT≤100000∧x.aQ.length≤60:=by
 obtain⟨k,hk⟩:=T0 hx
 have hl:=(Tm.1 hk).1
 have:=h.u k x hk
 have h1:=h.f
 have h2:=h.n
 omega
theorem Ps {s:ag} {a:aj} (h:SG s a):kq s=some (we s):=by
 have key:∀(n:Nat) (fu k:Nat) (r:List ao),n=(s.aq.aw.take 2).length-k→k≤(s.aq.aw.take 2).length→n<fu→r.length+n≤100→eqB s.bi 1=true→
  iter (gH s) fu ((k:Int),r)=some (r++((s.aq.aw.take 2).drop k).map fun x=>gI s.aK s.aa s.aO x):=by
  intro n
  have hle:(s.aq.aw.take 2).length=min 2 s.aq.aw.length:=by simp
  induction n with
  |zero=>
   intro fu k r hn hk hf hr hs
   cases fu with
   |zero=>omega
   |succ fu=>
    have hk':k=(s.aq.aw.take 2).length:=by omega
    have hc:(bif ltB (k:Int) ((s.aq.aw.length:Nat):Int) then(bif ltB (k:Int) 2 then some (eqB s.bi 1) else some false) else some false)=some false:=by
     by_cases h2:k<s.aq.aw.length
     ·rw[cN h2,ltB_f.2 (show(2:Int)≤k by omega)];rfl
     ·rw[ltB_f.2 (show((s.aq.aw.length:Nat):Int)≤k by omega)];rfl
    rw[iter]
    simp only[gH,hc,Vm,cond_false]
    rw[hk',List.drop_length];simp
  |succ n ih=>
   intro fu k r hn hk hf hr hs
   cases fu with
   |zero=>omega
   |succ fu=>
    have hlt:k<(s.aq.aw.take 2).length:=by omega
    have hc:(bif ltB (k:Int) ((s.aq.aw.length:Nat):Int) then(bif ltB (k:Int) 2 then some (eqB s.bi 1) else some false) else some false)=some true:=by
     rw[cN (show k<s.aq.aw.length by omega),ltB_t.2 (show(k:Int)<2 by omega),hs];rfl
    obtain⟨x,hx⟩:∃x,s.aq.aw[k]?=some x:=⟨_,v0 (show k<s.aq.aw.length by omega)⟩
    have hxm:=Tn hx
    have hu:=O1 h.sp.win hxm
    have hd:(s.aq.aw.take 2).drop k=x::(s.aq.aw.take 2).drop (k+1):=by
     rw[List.drop_eq_getElem_cons hlt];congr 1
     have:=(Tm.1 hx).2
     simpa using this
    rw[iter]
    simp only[gH,hc,Vm,cond_true,a8,hx,tR,IM (x:=x) (by omega) (by omega) (h.b2 x hxm) (by omega),cE (by_:=64) (n:=(r++[gI s.aK s.aa s.aO x]).length) (by omega) (by simp;omega),cd (show k<9223372036854775807 by omega)]
    rw[ih fu (k+1) _ (by omega) (by omega) (by omega) (by simp;omega) hs,hd]
    simp
 rw[kq,we]
 cases hs:eqB s.bi 1
 ·have h0:iter (gH s) FU (0,[])=some []:=by
   have:FU=(FU-1)+1:=by have:=kt;omega
   rw[this,iter]
   have hc:(bif ltB 0 ((s.aq.aw.length:Nat):Int) then(bif ltB 0 2 then some (eqB s.bi 1) else some false) else some false)=some false:=by
    rw[hs];cases ltB 0 ((s.aq.aw.length:Nat):Int)<;>cases ltB 0 2<;>rfl
   simp only[gH,hc,Vm,cond_false]
  rw[h0];rfl
 ·have:=key _ FU 0 [] rfl (by omega) (by have:=kt;simp;omega) (by simp;omega) hs
  rw[show((0:Nat):Int)=0 from rfl] at this
  rw[this];simp
def na (m:aM) (a:Int):List Int:=(m.aZ.zipIdx.filter fun y=>eqB y.1.f5 a).map fun y=>(y.2:Int)
def Pt (m:aM):List Int:=(TU m.aZ.length).map fun(k:Nat)=>(k:Int)
def C7 (m:aM) (a t:Int):List Int:=bif eqB t 1&&ltB 0 (((na m a).length:Nat):Int) then na m a else bif inR t 1 4 then Pt m else []
theorem KQ {α:Type} {xs:List α} {k:Nat} {y:α×Nat} (h:xs.zipIdx[k]?=some y):xs[k]?=some y.1∧y.2=k:=by
 rw[VW] at h
 cases hx:xs[k]? with
 |none=>rw[hx] at h;cases h
 |some x=>rw[hx] at h;simp at h;subst h;exact⟨rfl,rfl⟩
theorem Rw {m:aM} (h:m.aZ.length≤1000) (a:Int):nz m a=some (na m a):=by
 have hrun:=eD (step:=g6 m a) m.aZ.zipIdx (fun i r=>((i:Int),r)) (sV 8 (fun y=>eqB y.1.f5 a) (fun y=>(y.2:Int))) some (by simp;omega)
  (fun i y r hy hi=>by
   obtain⟨hx,e⟩:=KQ hy
   have hi:i<m.aZ.length:=by simpa using hi
   simp only[g6,cN hi,a8,hx,Vm,cond_true,cd (show i<9223372036854775807 by omega),sV,e]
   cases eqB y.1.f5 a
   ·rfl
   ·cases cM 8 (r++[(i:Int)]).length<;>rfl) (fun r=>by simp[g6]) ([]:List Int)
 rw[ug (by omega) _ _ _ _ (by simp;omega)] at hrun
 rw[nz,show iter (g6 m a) FU (0,[])=_ from hrun]
 rfl
theorem Np (n:Nat):∀(v:List Int),v.length=n→(∀k:Nat,k<n→v[k]?=some (k:Int))→v=(TU n).map fun(k:Nat)=>(k:Int):=by
 intro v hv h
 apply List.ext_getElem?
 intro k
 by_cases hk:k<n
 ·rw[h k hk];simp[hk]
 ·rw[Vy (by omega),Vy (by simp;omega)]
theorem Qu {m:aM} (h:m.aZ.length≤1000) (a t:Int):nC m a t=some (C7 m a t):=by
 simp only[nC,Rw h,Vm,C7,Pt]
 cases hb:inR t 1 4
 ·have h0:iter (fD m t) FU (0,[])=some []:=by
   have:FU=(FU-1)+1:=by have:=kt;omega
   rw[this,iter]
   simp only[fD,eC,hb,Vm]
   cases ltB 0 ((m.aZ.length:Nat):Int)<;>rfl
  rw[h0]
  have h1:eqB t 1=false:=eqB_f.2 fun e=>by subst e;simp[inR,leB] at hb
  rw[h1];rfl
 ·have hrun:=eD (step:=fD m t) m.aZ.zipIdx (fun i r=>((i:Int),r)) (sV 8 (fun _=>true) (fun y=>(y.2:Int))) some (by simp;omega)
   (fun i y r hy hi=>by
    obtain⟨hx,e⟩:=KQ hy
    have hi:i<m.aZ.length:=by simpa using hi
    simp only[fD,cN hi,eC,hb,Vm,cond_true,cd (show i<9223372036854775807 by omega),sV,e]
    cases cM 8 (r++[(i:Int)]).length<;>rfl) (fun r=>by simp[fD]) ([]:List Int)
  rw[ug (by omega) _ _ _ _ (by simp;omega)] at hrun
  have hall:(m.aZ.zipIdx.filter fun _=>true).map (fun y:fx×Nat=>(y.2:Int))=(TU m.aZ.length).map fun(k:Nat)=>(k:Int):=by
   rw[Ge]
   refine Np _ _ (by simp) fun k hk=>?_
   simp[VW,v0 hk]
  rw[show iter (fD m t) FU (0,[])=_ from hrun,hall]
  cases eqB t 1
  ·rfl
  ·cases ltB 0 (((na m a).length:Nat):Int)<;>rfl
def xF (p:cU) (m:aM):cU×List Int:=
 bif ltB 0 p.f7 then({p with f7:=p.f7-1},[]) else
  let t:=bif ltB p.eR 4 then p.eR+1 else 1
  (⟨p.f5,t,3⟩,C7 m p.f5 t)
structure POK (p:cU):Prop where
 a:0≤p.eR∧p.eR≤4
 w:0≤p.f7∧p.f7≤3
theorem QT {p:cU} (hp:POK p) {m:aM} (h:m.aZ.length≤1000):pu p m=some (xF p m):=by
 have h1:=hp.a
 have h2:=hp.w
 simp only[pu,Qu h,Vm,xF,bG (n:=p.f7-1) (by omega),bG (n:=p.eR+1) (by omega),CH]
def nY (m:aM) (c:Int):Int:=bif eL m c then(match m.aZ[c.toNat]? with|some x=>x.f5|none=>0) else 0
def GP (c:Int):aA:={dO with aR:=7,aX:=c}
def Hf (s:ag) (a:aj) (m:aM):bY:=
 let r:=xF {s.il with f5:=nY m s.aX} m
 ⟨{s with il:=r.1},a,r.2.map GP,[]⟩
theorem LD {L:Int×List aA→Option (cp (Int×List aA) (List aA))} (xs:List Int) (hl:xs.length≤10000)
 (hL:∀(v:Int) (r:List aA),L (v,r)=bif ltB v ((xs.length:Nat):Int) then(Vj (ix xs v) fun x10=>bif cM 88 (r++[{dO with aR:=7,aX:=x10}]).length then(some (.next (WR (v+1),(r++[{dO with aR:=7,aX:=x10}])))) else none) else(some (.done r))):
 iter L FU (0,[])=some (xs.map GP):=by
 have hrun:=eD (step:=L) xs (fun i r=>((i:Int),r)) (sV 88 (fun _=>true) GP) some (by omega)
  (fun i x r hx hi=>by
   simp only[hL,cN hi,a8,hx,Vm,cond_true,cd (show i<9223372036854775807 by omega),sV,GP]
   cases cM 88 (r++[{dO with aR:=7,aX:=x}]).length<;>rfl) (fun r=>by simp[hL]) ([]:List aA)
 rw[ug (by omega) _ _ _ _ (by simp;omega)] at hrun
 refine Eq.trans (show iter L FU (0,[])=_ from hrun) (by rw[Ge,UZ])
theorem Dw {p:cU} {m:aM} (h:m.aZ.length≤1000):(xF p m).2.length≤1000:=by
 have hc:(na m p.f5).length≤1000:=by
  simp only[na,List.length_map]
  have:=VU (fun y:fx×Nat=>eqB y.1.f5 p.f5) m.aZ.zipIdx
  simp at this;omega
 rw[xF];cases ltB 0 p.f7
 ·simp only[cond_false,C7]
  cases eqB (bif ltB p.eR 4 then p.eR+1 else 1) 1&&ltB 0 (((na m p.f5).length:Nat):Int)
  ·cases inR (bif ltB p.eR 4 then p.eR+1 else 1) 1 4<;>simp[Pt];omega
  ·exact hc
 ·simp
theorem Ss {s:ag} {a:aj} (h:SP s) (ha:nU a) (hp:POK s.il) {m:aM} (hm:1≤m.aZ.length∧m.aZ.length≤1000):tQ s a m=some (Hf s a m):=by
 have hz:({cY with aJ:=s,dX:=a}:bY)=⟨s,a,[],[]⟩:=rfl
 have hin:(bif eL m s.aX then(Vj (ix m.aZ s.aX) fun x4=>some x4.f5) else some 0)=some (nY m s.aX):=by
  rw[nY]
  cases hc:eL m s.aX
  ·rfl
  ·obtain⟨d,_,h1,h2⟩:=D2 hc
   rw[h1,h2];rfl
 have hpp:POK {s.il with f5:=nY m s.aX}:=⟨hp.a,hp.w⟩
 have hr:=LD (L:=y6 (xF {s.il with f5:=nY m s.aX} m)) _ (by have:=Dw (p:={s.il with f5:=nY m s.aX}) hm.2;omega) (fun v r=>rfl)
 simp only[tQ,oN,mR h.ok,zZ ha.ok,eC,Vm,bG (n:=((m.aZ.length:Nat):Int)-1) (by omega),hz]
 rw[show inR s.aX 0 (((m.aZ.length:Nat):Int)-1)=eL m s.aX from rfl,hin]
 simp only[Vm,QT hpp hm.2,hr,Hf]
end Go.AM
namespace Go.AM
attribute [local simp] bE be a8
def f4 (s:ag) (a:aj):aj×dh:=bif leB s.gL.eA s.bW.er then kc a s.bW else(a,s.bW)
def B4 (s:ag):Bool:=ltB 0 ((s.aq.aw.length:Nat):Int)
def jx (s:ag):Int:=bif B4 s then oo 5 (s.ef+1) else 0
def mr (s:ag):List ao×Int:=bif B4 s&&ltB 0 s.d4 then([],s.d4-1) else bif B4 s then(we s,3) else([],s.d4)
def Kw (s:ag) (a:aj) (m:aM):bY:=
 let g:=f4 s a
 let t:=gJ 2 {s with ef:=jx s,d4:=(mr s).2,bW:=g.2} g.1 []
 ⟨t.1,t.2.1,[],(mr s).1++t.2.2⟩
def mz (s:ag) (a:aj) (m:aM):bY:=
 bif !eqB s.bi 1 then⟨s,a,[],[]⟩ else bif ltB 4 (jx s) then Hf {s with ef:=jx s,bW:=(f4 s a).2} (f4 s a).1 m else Kw s a m
theorem AC {s:ag} {a:aj} (h:SG s a):MOK (f4 s a).1 (f4 s a).2∧(f4 s a).2.cL-(f4 s a).2.er=s.bW.cL-s.bW.er∧(f4 s a).2.au=s.bW.au∧(f4 s a).1.eH+(f4 s a).2.er=a.eH+s.bW.er∧(f4 s a).1.eZ=a.eZ∧(f4 s a).1.bQ=a.bQ:=by
 rw[f4]
 cases leB s.gL.eA s.bW.er
 ·exact⟨h.mo,rfl,rfl,rfl,rfl,rfl⟩
 ·obtain⟨h1,h2,h3,h4⟩:=LJ h.mo
  simp only[cond_true]
  exact⟨h1,by simp[kc],rfl,by rw[h2];simp[kc],h3,h4⟩
theorem wX {s:ag} (h:SP s):0≤jx s∧jx s≤5:=by
 have:=h.qu
 rw[jx];cases B4 s
 ·simp
 ·simp only[cond_true,oo];split<;>omega
theorem w8 {s:ag} (h:SP s):0≤(mr s).2∧(mr s).2≤3:=by
 have:=h.rt
 rw[mr];cases B4 s
 ·exact this
 ·cases hb:ltB 0 s.d4
  ·simp
  ·have:=im hb
   simp;omega
theorem SG.upd {s:ag} {a:aj} (h:SG s a) {q r:Int} (hq:0≤q∧q≤5) (hr:0≤r∧r≤3):SG {s with ef:=q,d4:=r,bW:=(f4 s a).2} (f4 s a).1:=by
 obtain⟨h1,h2,_⟩:=AC h
 have hp:=h.sp.pd
 exact⟨{h.sp with q:=h1.quo,qu:=hq,rt:=hr,pd:=by simp only;omega},h.b1,h.b2,h1⟩
theorem KT (s:ag):(we s).length≤2:=by
 rw[we];cases eqB s.bi 1<;>simp;omega
theorem Dk (s:ag):(mr s).1.length≤2:=by
 have:=KT s
 rw[mr];cases B4 s<;>cases ltB 0 s.d4<;>simp<;>omega
theorem yu:∀(k:Nat) (s:ag) (a:aj) (r:List ao),(gJ k s a r).2.2.length≤r.length+k
 |0,s,a,r=>by simp[gJ]
 |k+1,s,a,r=>by
  rw[gJ]
  cases o6 s with
  |none=>simp
  |some x=>
   simp only
   cases ltB 0 (km (cV s a ((x.aQ.length:Nat):Int)).1 ((x.aQ.length:Nat):Int))
   ·have:=yu k {(cV s a ((x.aQ.length:Nat):Int)).1 with aq:=mQ (cV s a ((x.aQ.length:Nat):Int)).1.aq x.aQ} (cV s a ((x.aQ.length:Nat):Int)).2 (r++[gI (cV s a ((x.aQ.length:Nat):Int)).1.aK (cV s a ((x.aQ.length:Nat):Int)).1.aa (cV s a ((x.aQ.length:Nat):Int)).1.aO ⟨(cV s a ((x.aQ.length:Nat):Int)).1.aq.bm,x.aQ⟩])
    simp only[Ut,VM] at this
    simp only[cond_false];omega
   ·simp only[cond_true];omega
theorem QU {s:ag} {a:aj} (h:SG s a) {m:aM} (hm:1≤m.aZ.length∧m.aZ.length≤1000) (hp:POK s.il):nI s a m=some (mz s a m):=by
 have hz:({cY with aJ:=s,dX:=a}:bY)=⟨s,a,[],[]⟩:=rfl
 have hqu:=h.sp.qu
 have hrt:=h.sp.rt
 simp only[nI,tO,oN,mR h.sp.ok,zZ h.mo.acc.ok,yv h.sp.ok,(xm h.sp.ok).2 h.sp,Vm,hz,mz]
 cases hs:eqB s.bi 1
 ·rfl
 ·have hst:=lA hs
  have hq:=wX h.sp
  have hr:=w8 h.sp
  have hqq:∀(k:Int→Option bY),(Vj (bif ltB 0 ((s.aq.aw.length:Nat):Int) then(Vj (Bg 5 (WR (s.ef+1))) fun r9=>some r9) else some 0) k)=k (jx s):=fun k=>by
   rw[jx,B4,bG (n:=s.ef+1) (by omega),J4]
   cases ltB 0 ((s.aq.aw.length:Nat):Int)<;>rfl
  have hrr:∀(u:dh) (k:List ao×Int→Option bY),SG {s with ef:=jx s,d4:=3,bW:=u} (f4 s a).1→
   (Vj (bif ltB 0 ((s.aq.aw.length:Nat):Int) then some (ltB 0 s.d4) else some false) fun(v11:Bool)=>Vj (bif v11 then(some (([]:List ao),WR (s.d4-1))) else(Vj (bif ltB 0 ((s.aq.aw.length:Nat):Int) then(Vj (kq {s with ef:=jx s,d4:=3,bW:=u}) fun r16=>some (r16,3)) else(some (([]:List ao),s.d4))) fun x=>some (x.1,x.2))) k)=k ((mr s).1,(mr s).2):=fun u k hu=>by
   rw[mr,B4,bG (n:=s.d4-1) (by omega),Ps hu]
   cases ltB 0 ((s.aq.aw.length:Nat):Int)<;>cases ltB 0 s.d4<;>rfl
  have hl:cM 64 ((mr s).1++(gJ 2 {s with ef:=jx s,d4:=(mr s).2,bW:=(f4 s a).2} (f4 s a).1 []).2.2).length=true:=by
   have h1:=Dk s
   have h2:=yu 2 {s with ef:=jx s,d4:=(mr s).2,bW:=(f4 s a).2} (f4 s a).1 []
   simp only[Vp] at h2
   exact cE (by omega) (by simp;omega)
  have hu:=h.upd hq (show(0:Int)≤3∧(3:Int)≤3 by omega)
  have hv:=h.upd hq hr
  have hw:=h.upd hq h.sp.rt
  have hpp:POK ({s with ef:=jx s,bW:=(f4 s a).2}:ag).il:=hp
  have e1:=Ss (s:={s with ef:=jx s,bW:=(f4 s a).2}) hw.sp hw.mo.acc hpp hm
  have e2:=LS hv hst
  rw[f4] at hu e1 e2 hl
  simp only[UY,cond_false]
  rw[Kw,f4]
  cases hg:leB s.gL.eA s.bW.er
  ·rw[hg] at hu e1 e2 hl
   simp only[cond_false] at hu e1 e2 hl ⊢
   have hu':=hrr s.bW
   rw[f4,hg] at hu'
   rw[hqq]
   cases ltB 4 (jx s)
   ·simp only[cond_false]
    rw[hu' _ hu]
    simp only[e2,Vm,hl,cond_true,cond_false]
   ·simp only[cond_true,cond_false,e1,Vm]
  ·rw[hg] at hu e1 e2 hl
   simp only[cond_true] at hu e1 e2 hl ⊢
   have hu':=hrr (kc a s.bW).2
   rw[f4,hg] at hu'
   simp only[On h.mo,Vm]
   rw[hqq]
   cases ltB 4 (jx s)
   ·simp only[cond_false]
    rw[hu' _ hu]
    simp only[e2,Vm,hl,cond_true,cond_false]
   ·simp only[cond_true,cond_false,e1,Vm]
end Go.AM
namespace Go.AM
attribute [local simp] bE be a8
structure RP (r:aP):Prop where
 ok:eV r
 v:pR r=true
 b1:∀x∈r.aF,okB x.aQ
 b2:∀p∈r.aS,okB p.aQ
structure DP (d:az):Prop where
 card:xG d.dw=true
 st:0≤d.bi∧d.bi≤3
 ce:0≤d.aX∧d.aX≤5
 gn:0≤d.aa∧d.aa≤999999
 ep:0≤d.aO∧d.aO≤999999
 rk:0≤d.aK∧d.aK≤2147483646
 k:2≤d.bi→oU d.aK=true
 wt:0≤d.f7∧d.f7≤3
 rc:RP d.bM
theorem DP.ok {d:az} (h:DP d):f9 d:=h.rc.ok
theorem DP.v {d:az} (h:DP d):lq d=true:=by
 have:=h.st
 simp only[lq,hV,bu]
 refine⟨h.card,h.st,h.ce,h.gn,h.ep,h.rk,?_,h.wt,h.rc.v⟩
 cases e:inR d.bi 2 3
 ·rfl
 ·rw[bu] at e;rw[h.k e.1];rfl
theorem DP.of {d:az} (h:lq d=true) (ok:f9 d) (b1:∀x∈d.bM.aF,okB x.aQ) (b2:∀p∈d.bM.aS,okB p.aQ):DP d:=by
 simp only[lq,hV,bu] at h
 obtain⟨h1,h2,h3,h4,h5,h6,h7,h8,h9⟩:=h
 refine⟨h1,h2,h3,h4,h5,h6,fun e=>?_,h8,⟨ok,h9,b1,b2⟩⟩
 rw[bu.2 ⟨e,h2.2⟩] at h7;simpa using h7
theorem wm {d:az} (h:DP d):DP (qh d).aN:=by
 have hw:=h.wt
 rw[qh]
 cases hb:ltB 0 d.f7
 ·cases eqB d.bi 1
  ·cases eqB d.bi 2&&!d.dm
   ·exact h
   ·exact {h with wt:=⟨by simp,by simp⟩}
  ·exact {h with wt:=⟨by simp,by simp⟩}
 ·have:=im hb
  exact {h with wt:=⟨by simp only[cond_true];omega,by simp only[cond_true];omega⟩}
theorem RB {d:az} (h:DP d):DP (dOn d).aN:=by
 rw[dOn]
 cases eqB d.bi 0
 ·exact h
 ·exact {h with st:=⟨by simp,by simp⟩,wt:=⟨by simp,by simp⟩,k:=fun e=>by simp at e}
theorem D5 {d:az} (h:DP d):DP (vq d).aN:={h with wt:=⟨by simp[vq],by simp[vq]⟩}
theorem F3 {d:az} (h:DP d) (c:Int):DP (rV d c).aN:=by
 have he:=h.ep
 rw[rV]
 cases h1:eqB c d.aX||!inR c 0 5
 ·simp only[Ua,VL] at h1
  have hc:=bu.1 h1.2
  cases h2:eqB d.bi 2&&ltB d.aO 999999
  ·exact {h with ce:=hc}
  ·rw[hV] at h2
   have:=im h2.2
   exact D5 {h with ce:=hc,ep:=⟨by simp only;omega,by simp only;omega⟩}
 ·exact h
theorem ML {d:az} (h:DP d):DP (sN d):=by
 rw[sN]
 cases e:eqB d.bi 2
 ·exact h
 ·have e:=lA e
  exact {h with st:=⟨by simp,by simp⟩,k:=fun _=>h.k (by omega)}
theorem KM {k r q:Int} (h0:0≤q) (h1:q≤999999):1≤(vec k r q).eY∧(vec k r q).eY≤2147483646:=by
 rw[vec,bu.2 ⟨h0,h1⟩];exact Qe _ _
theorem uo {m:aA} (h:kD m=true):(1≤m.aR∧m.aR≤8)∧(0≤m.aX∧m.aX≤5)∧(0≤m.aa∧m.aa≤999999)∧(0≤m.aO∧m.aO≤999999)∧0≤m.bN∧m.bN≤1000000000000:=by
 simp only[kD,hV,bu] at h;exact h
theorem PF {d:az} (h:DP d) {m:aA} (hm:kD m=true) (h1:d.bi=1):DP (FZ d m).aN:=by
 obtain⟨_,_,hg,_⟩:=uo hm
 have hu:=O2 d.dw.eY m.bR.eQ m.bR.gx
 have hk:=KM (k:=d.dw.eY) (r:=m.bR.eQ) hu.1 hu.2
 rw[FZ]
 cases eqB (jk d.dw.eY d.dw.dD m.bR) 0
 ·exact h
 ·refine {h with card:=?_,gn:=hg,rk:=⟨by simp only[cond_true];omega,by simp only[cond_true];omega⟩,k:=fun e=>by simp only[cond_true] at e;omega}
  have hc:=h.card
  simp only[xG,hV] at hc ⊢
  exact⟨hc.1,hc.2.1,bu.2 hu⟩
theorem PH {d:az} (h:DP d) (m:aA):DP (Ao d m).aN:=by
 have he:=h.ep
 rw[Ao]
 cases h1:!kD m||(!eqB m.aX d.aX||eqB d.bi 0)
 ·have hm:kD m=true:=by revert h1;cases kD m<;>simp
  obtain⟨_,_,hg,hep,_⟩:=uo hm
  simp only[cond_false]
  cases h2:eqB m.aR 2&&eqB d.bi 1
  ·simp only[cond_false]
   cases h4:eqB m.aR 4&&(eqB d.bi 1&&(oU d.aK&&(eqB m.aa d.aa&&tY d.aK m)))
   ·simp only[cond_false]
    cases h6:eqB m.aR 6&&(eqB d.bi 2&&(eqB m.aa d.aa&&(eqB m.aO d.aO&&tY d.aK m)))
    ·simp only[cond_false]
     cases h7:eqB m.aR 7&&(eqB d.bi 3&&ltB d.aO 999999)
     ·simp only[cond_false]
      cases h8:eqB m.aR 7&&eqB d.bi 2
      ·exact h
      ·exact D5 h
     ·simp only[hV] at h7
      have h3:=lA h7.2.1
      have:=im h7.2.2
      exact D5 {h with st:=⟨by simp,by simp⟩,ep:=⟨by simp only;omega,by simp only;omega⟩,k:=fun _=>h.k (by omega)}
    ·exact {h with}
   ·simp only[hV] at h4
    exact {h with st:=⟨by simp,by simp⟩,ep:=hep,k:=fun _=>h4.2.2.1}
  ·rw[hV] at h2
   exact PF h hm (lA h2.2)
 ·exact h
theorem Aq:∀(xs:List ae) (n:Int) (dl:List b9),∃t d,xs=t++d∧n8 xs n dl=⟨n+t.length,d,dl++t.map fun x=>⟨x.aQ⟩⟩∧(∀(k:Nat) (x:ae),t[k]?=some x→x.cT=n+k)∧((∃y ys,d=y::ys∧(y.cT≠n+t.length∨24≤dl.length+t.length))∨d=[])∧(t≠[]→dl.length+t.length≤24)
 |[],n,dl=>⟨[],[],rfl,by simp[n8],by simp,.inr rfl,by simp⟩
 |x::xs,n,dl=>by
  rw[n8]
  by_cases h:x.cT=n∧dl.length<24
  ·rw[if_pos h]
   obtain⟨t,d,e1,e2,e3,e4,e5⟩:=Aq xs (n+1) (dl++[⟨x.aQ⟩])
   refine⟨x::t,d,by rw[e1];rfl,?_,fun k y hy=>?_,?_,fun _=>?_⟩
   ·rw[e2];simp;omega
   ·cases k with
    |zero=>simp at hy;subst hy;simp;exact h.1
    |succ k=>have:=e3 k y (by simpa using hy);rw[this];omega
   ·rcases e4 with⟨y,ys,e,h4⟩|e
    ·left;refine⟨y,ys,e,?_⟩
     simp only[Ut,VM,TY,Vp] at h4 ⊢
     rcases h4 with h4|h4
     ·left;omega
     ·right;omega
    ·exact .inr e
   ·simp only[TY]
    by_cases ht:t=[]
    ·subst ht;simp;omega
    ·have:=e5 ht;simp at this;omega
  ·rw[if_neg h]
   refine⟨[],x::xs,rfl,by simp,by simp,.inl ⟨x,xs,rfl,?_⟩,by simp⟩
   simp only[Vp]
   by_cases hx:x.cT=n
   ·right;have:¬dl.length<24:=fun hl=>h ⟨hx,hl⟩;omega
   ·left;omega
structure RcV (r:aP):Prop where
 n:r.bm=(r.aS.length:Int)+1
 l:r.aS.length≤24
 d:∀p∈r.aS,p.aQ.length≤60
 pl:r.aF.length≤8
 pr:∀x∈r.aF,r.bm+1≤x.cT∧x.cT≤r.bm+7∧x.aQ.length≤60
 po:r.aF.Pairwise fun x y=>x.cT<y.cT
theorem EK {r:aP}:pR r=true↔RcV r:=by
 constructor
 ·intro h
  have hl:=uE h
  simp only[pR,hV,zr,TX,o4,eK] at h
  obtain⟨h1,h2,h3,h4,h5⟩:=h
  have hp:∀(k:Nat) (x:ae),r.aF[k]?=some x→(r.bm+1≤x.cT∧x.cT≤r.bm+7)∧kE ae.cT r.aF k x=true∧x.aQ.length≤60:=fun k x hx=>by
   have:=h5 k x hx
   simp only[A0,hV,bu,o4] at this
   rw[bG (n:=r.bm+1) (by omega),bG (n:=r.bm+8) (by omega),bG (n:=r.bm+8-1) (by omega)] at this
   exact⟨by omega,this.2⟩
  refine⟨hl.1,hl.2.1,h3,hl.2.2,fun x hx=>?_,CE fun k x hx=>(hp k x hx).2.1⟩
  obtain⟨k,hk⟩:=T0 hx
  have:=hp k x hk
  exact⟨this.1.1,this.1.2,this.2.2⟩
 ·rintro⟨h1,h2,h3,h4,h5,h6⟩
  simp only[pR,hV,zr,TX,o4,eK]
  refine⟨eqB_t.2 (by rw[bG (by omega)];exact h1),leB_t.2 (by omega),h3,leB_t.2 (by omega),fun k x hx=>?_⟩
  have:=h5 x (Tn hx)
  simp only[A0,hV,bu,o4]
  rw[bG (n:=r.bm+1) (by omega),bG (n:=r.bm+8) (by omega),bG (n:=r.bm+8-1) (by omega)]
  exact⟨by omega,zK h6 hx,this.2.2⟩
end Go.AM
namespace Go.AM
attribute [local simp] bE be a8
theorem Jm {α:Type} {key:α→Int}:∀{xs:List α} {a b:Int},(xs.Pairwise fun x y=>key x<key y)→(∀x∈xs,a≤key x∧key x≤b)→(xs.length:Int)≤max 0 (b-a+1)
 |[],a,b,_,_=>by simp;omega
 |x::xs,a,b,h,hr=>by
  have hx:=hr x (by simp)
  have ih:=Jm (xs:=xs) (a:=key x+1) (b:=b) (VI.1 h).2 fun y hy=>⟨by have:=(VI.1 h).1 y hy;omega,(hr y (by simp[hy])).2⟩
  simp only[TY];omega
theorem Q9 {x:ae}:∀{xs:List ae},(xs.Pairwise fun a b=>a.cT<b.cT)→∀y∈xs.dropWhile (before x.cT),x.cT≤y.cT
 |[],_,y,hy=>by simp at hy
 |z::xs,h,y,hy=>by
  rw[List.dropWhile_cons] at hy
  cases hb:before x.cT z<;>rw[hb] at hy
  ·have hz:=nn hb
   rcases Tq.1 hy with e|hy
   ·subst e;exact hz
   ·have:=(VI.1 h).1 y hy;omega
  ·exact Q9 (VI.1 h).2 y hy
theorem OZ {α:Type} (p:α→Bool):∀(xs:List α) (y:α),y∈xs.takeWhile p→p y=true
 |[],y,h=>by simp at h
 |x::xs,y,h=>by
  rw[Vu] at h
  cases hp:p x<;>rw[hp] at h
  ·simp at h
  ·rcases Tq.1 h with e|h
   ·subst e;exact hp
   ·exact OZ p xs y h
theorem tw_lt {q:Int} {xs:List ae}:∀y∈xs.takeWhile (before q),y.cT<q:=fun y hy=>im (show ltB y.cT q=true from OZ (before q) xs y hy)
theorem Nr {x:ae} {xs:List ae} (h:xs.Pairwise fun a b=>a.cT<b.cT) (hn:∀y∈xs,y.cT≠x.cT):(nm x xs).Pairwise fun a b=>a.cT<b.cT:=by
 have e:=VT (p:=before x.cT) (l:=xs)
 rw[←e,VJ] at h
 obtain⟨h1,h2,h3⟩:=h
 rw[nm,List.append_assoc,VJ]
 refine⟨h1,VI.2 ⟨fun y hy=>?_,h2⟩,fun a ha b hb=>?_⟩
 ·have hm:y∈xs:=VS _ hy
  have:=hn y hm
  have hge:x.cT≤y.cT:=by
   have hs:xs.Pairwise fun a b=>a.cT<b.cT:=by rw[←e,VJ];exact⟨h1,h2,h3⟩
   exact Q9 hs y hy
  omega
 ·rcases TW.1 hb with hb|hb
  ·simp at hb;subst hb;exact tw_lt a ha
  ·exact h3 a ha b hb
theorem wK {x y:ae} {xs:List ae}:y∈nm x xs↔y=x∨y∈xs:=by
 rw[nm]
 constructor
 ·intro h
  simp only[TW,UJ] at h
  rcases h with(h|h)|h
  ·exact .inr (V1 _ h)
  ·exact .inl h
  ·exact .inr (VS _ h)
 ·rintro(h|h)
  ·simp[h]
  ·rw[←VT (p:=before x.cT) (l:=xs)] at h
   simp only[TW,UJ] at h ⊢
   rcases h with h|h
   ·exact .inl (.inl h)
   ·exact .inr h
theorem BQ {r:aP} (h:RcV r) {x:ae} (hl:zi r x=false):
 ∃t d,nm x r.aF=t++d∧(∀(k:Nat) (y:ae),t[k]?=some y→y.cT=r.bm+k)∧(mC r x).bm=r.bm+t.length∧(mC r x).aS=r.aS++t.map (fun y=>⟨y.aQ⟩)∧RcV (mC r x)∧
  ((mC r x).aF=d∨(mC r x).aF=[])∧r.aS.length+t.length≤24∧(x.cT=r.bm→t≠[]):=by
 obtain⟨t,d,e1,e2,e3,e4,e5⟩:=Aq (nm x r.aF) r.bm r.aS
 have hl2:=hl
 simp only[zi,Ua,VL] at hl
 obtain⟨l1,l2,l3,l4,l5⟩:=hl
 have l2:=nn l2
 rw[bu] at l3
 have l5:=wM l5
 have hn:∀y∈r.aF,y.cT≠x.cT:=fun y hy=>by
  rw[UQ] at l4
  have:=l4 y hy
  simpa [eqB] using this
 have hasc:=Nr h.po hn
 have hrng:∀y∈nm x r.aF,r.bm≤y.cT∧y.cT≤r.bm+7∧y.aQ.length≤60:=fun y hy=>by
  rcases wK.1 hy with rfl|hy
  ·exact⟨l3.1,l3.2,by omega⟩
  ·have:=h.pr y hy;exact⟨by omega,by omega,this.2.2⟩
 have hlen:=Jm (key:=ae.cT) hasc (a:=r.bm) (b:=r.bm+7) fun y hy=>⟨(hrng y hy).1,(hrng y hy).2.1⟩
 have htl:r.aS.length+t.length≤24:=by
  by_cases ht:t=[]
  ·subst ht;have:=h.l;simp;omega
  ·exact e5 ht
 have hd:∀y∈d,r.bm+t.length≤y.cT:=fun y hy=>by
  by_cases ht:t=[]
  ·subst ht
   have:=(hrng y (by rw[e1];simp[hy])).1
   simp;omega
  ·obtain⟨k,hk⟩:∃k,t.length=k+1:=⟨t.length-1,by have:=List.length_pos_iff.2 ht;omega⟩
   obtain⟨z,hz⟩:∃z,t[k]?=some z:=⟨_,v0 (show k<t.length by omega)⟩
   have:=e3 k z hz
   rw[e1,VJ] at hasc
   have:=hasc.2.2 z (Tn hz) y hy
   omega
 have hdl:(r.aS++t.map fun y=>(⟨y.aQ⟩:b9)).length=r.aS.length+t.length:=by simp
 have hdata:∀p∈r.aS++t.map fun y=>(⟨y.aQ⟩:b9),p.aQ.length≤60:=fun p hp=>by
  rcases TW.1 hp with hp|hp
  ·exact h.d p hp
  ·obtain⟨y,hy,rfl⟩:=Ur.1 hp
   exact(hrng y (by rw[e1];simp[hy])).2.2
 have hnx:=h.n
 have hsome:x.cT=r.bm→t≠[]:=fun e ht=>by
  subst ht
  simp only[UZ] at e1
  rcases e4 with⟨y,ys,e,h4⟩|e
  ·simp only[Vp] at h4
   have hy:y.cT≤x.cT:=by
    have hx:x∈d:=by rw[←e1];exact wK.2 (.inl rfl)
    rw[e] at hx
    rcases Tq.1 hx with e'|hx
    ·rw[e'];omega
    ·rw[e1,e] at hasc
     have:=(VI.1 hasc).1 x hx
     omega
   have:=(hrng y (by rw[e1,e];simp)).1
   rcases h4 with h4|h4<;>omega
  ·have:(nm x r.aF).length=0:=by rw[e1,e];rfl
   rw[qo] at this;omega
 refine⟨t,d,e1,e3,?_⟩
 rw[mC,hl2]
 simp only[cond_false,e2,hdl]
 cases h24:leB 24 ((r.aS.length+t.length:Nat):Int)
 ·have h24:=wM h24
  simp only[cond_false]
  refine⟨trivial,trivial,⟨by simp only[hdl];omega,by simp only[hdl];omega,hdata,?_,fun y hy=>?_,?_⟩,.inl trivial,htl,hsome⟩
  ·have:t.length+d.length=(nm x r.aF).length:=by rw[e1];simp
   simp only;omega
  ·have h1:=hrng y (by rw[e1];simp[hy])
   have h2:=hd y hy
   refine⟨?_,by simp only;omega,h1.2.2⟩
   simp only
   rcases e4 with⟨z,zs,e,h4⟩|e
   ·have hz:=hd z (by rw[e];simp)
    have hzn:z.cT≠r.bm+t.length:=by rcases h4 with h4|h4;exact h4;omega
    rw[e] at hy
    rcases Tq.1 hy with e'|hy'
    ·rw[e'];omega
    ·rw[e1,e,VJ] at hasc
     have:=(VI.1 hasc.2.1).1 y hy'
     omega
   ·rw[e] at hy;simp at hy
  ·rw[e1,VJ] at hasc
   exact hasc.2.1
 ·have h24:=uO h24
  simp only[cond_true]
  exact⟨trivial,trivial,⟨by simp only[hdl];omega,by simp only[hdl];omega,hdata,by simp,by simp,.nil⟩,.inr trivial,htl,hsome⟩
theorem OQ {r:aP} (h:RP r) {x:ae} (hx:okB x.aQ):RP (mC r x):=by
 cases hl:zi r x
 ·have hv:=EK.1 h.v
  obtain⟨t,d,e1,e3,e4,e5,e6,e7,e8,e9⟩:=BQ hv hl
  have hb:∀y∈t++d,okB y.aQ:=fun y hy=>by
   rw[←e1] at hy
   rcases wK.1 hy with rfl|hy
   ·exact hx
   ·exact h.b1 y hy
  refine⟨OR h.ok x,EK.2 e6,fun y hy=>?_,fun p hp=>?_⟩
  ·rcases e7 with e|e<;>rw[e] at hy
   ·exact hb y (by simp[hy])
   ·simp at hy
  ·rw[e5] at hp
   rcases TW.1 hp with hp|hp
   ·exact h.b2 p hp
   ·obtain⟨y,hy,rfl⟩:=Ur.1 hp
    exact hb y (by simp[hy])
 ·rw[mC,hl];exact h
theorem N3 (root g e:Int) (x:ao):okB (ko root g e x).1.aQ:=by
 rw[ko];split
 ·exact PK _ _
 ·intro y hy;simp[eF] at hy
theorem PG {d:az} (h:DP d) (x:ao):DP (An d x).aN:=by
 simp only[An]
 cases eqB d.bi 2&&(ko d.aK d.aa d.aO x).2
 ·exact h
 ·exact {h with rc:=OQ h.rc (N3 _ _ _ _)}
end Go.AM
