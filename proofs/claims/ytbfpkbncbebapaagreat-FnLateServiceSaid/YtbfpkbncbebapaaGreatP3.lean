/- A part. -/
import Derived.Test.YtbfpkbncbebapaaGreatP2
set_option linter.unusedVariables false
set_option linter.unusedSimpArgs false
open List renaming getElem?_eq_getElem->YO,getElem?_eq_some_iff->YP,length_cons->YY,map_cons->Ze,sum_cons->abx
open Option renaming bind_some->aaE
namespace Go.AM
open Go.Proofs
attribute [local simp] bB aQ bk
structure LS (r:Nat) (n0 n:ab):Prop where
 q:EQ r n
 m:n.bX=n0.bX
 w:n.bp=n0.bp
 l:n.ah.length=n0.ah.length
 k:∀(i:Nat) s0 a0,n0.aj[i]?=some s0->n0.aB[i]?=some a0->∃s a,n.aj[i]?=some s/\n.aB[i]?=some a/\s.ax=s0.ax/\pH s a=pH s0 a0
theorem LS.refl {r:Nat} {n:ab} (h:EQ r n):LS r n n:=⟨h,rfl,rfl,rfl,λi s a h1 h2=>⟨s,a,h1,h2,rfl,rfl⟩⟩
theorem LS.round {r:Nat} {n0 n:ab} (h:LS (r+1) n0 n):LS r n0 (dN n):=by
 have hk:=rP (n:=n) (by have:=h.q.nw;omega)
 refine⟨(h.q.round).1,hk.1.trans h.m,hk.2.1.trans h.w,hk.2.2.2.trans h.l,λi s0 a0 h1 h2=>?_⟩
 obtain⟨s,a,e1,e2,e3,e4⟩:=h.k i s0 a0 h1 h2
 obtain⟨B,hn,_⟩:=h.q.np
 have hi:=(YP.1 e1).1
 obtain⟨d,hd⟩:∃d,n.ah[i]?=some d:=⟨_,YO (by rw[<-hn.ls];exact hi)⟩
 obtain⟨d',s',a',q1,q2,q3,q4,_⟩:=GI h.q hd e1 e2
 exact⟨s',a',q2,q3,q4.u.trans e3,q4.t.trans e4⟩
theorem LS.rounds:∀(c:Nat) {r:Nat} {n0 n:ab},LS (r+c) n0 n->LS r n0 (gW c n)
 |0,r,n0,n,h=>h
 |c+1,r,n0,n,h=>LS.rounds c (h.round (r:=r+c))
theorem EQ.ev {r:Nat} {n:ab} (h:EQ (r+1) n) {e:cr} (he:EP e) (hk:e.aS≠13):EQ r (dZ n e).2:=by
 obtain⟨B,hn,hB⟩:=h.np
 obtain⟨K,hl,hK⟩:=h.ln
 obtain⟨G,hg,hG⟩:=h.gb
 have hw:=h.nw
 have hh:=ph n hk
 have hp:=(yv hn he oaa).2.2
 have:=FK (n:=n) e oaa
 exact⟨⟨_,hp,by omega⟩,De hn oaa h.pi he hh,⟨_,Dd oaa hn oaa h.pi hl hh,by omega⟩,⟨_,Jj hn hg e,by omega⟩,Jk hn oaa h.ra e,by omega⟩
structure Own (k:Int) (i:Nat) (n n':ab):Prop where
 s:n'.aj=n.aj
 a:n'.aB=n.aB
 m:n'.bX=n.bX
 w:n'.bp=n.bp
 l:n'.ah.length=n.ah.length
 d:∀(j:Nat) d',n'.ah[j]?=some d'->∃d,n.ah[j]?=some d/\(d.aG≠0->d'.aG≠0)/\(k=5->j=i->d'.aG≠0)
theorem OD {n:ab} {i:Nat} {d:aw} (hd:n.ah[i]?=some d) {r:bg} {k:Int} (h1:d.aG≠0->r.aJ.aG≠0) (h2:k=5->r.aJ.aG≠0):Own k i n (dM n i r):=by
 have hk:=cU (r.bL.map (b9 i true)) {n with ah:=n.ah.set i r.aJ}
 have hdl:(dM n i r).ah=n.ah.set i r.aJ:=hk.1
 refine⟨hk.2.1,hk.2.2.1,hk.2.2.2.1,hk.2.2.2.2.1,by rw[hdl];simp,λj d' hj=>?_⟩
 rw[hdl] at hj
 rcases gI hj with⟨e1,e2⟩|⟨e1,e2⟩
 .subst e1;subst e2;exact⟨d,hd,h1,λq _=>h2 q⟩
 exact⟨d',e2,λq=>q,λ_ q=>absurd q.symm e1⟩
theorem X8 {B:Int} {n:ab} (hn:NP B n) {k:Int} (hk:k=5\/k=6\/k=7) {i:Nat} (hi:i<n.ah.length) (c:Int):Own k i n (dZ n ⟨k,i,c,[],bU⟩).2:=by
 obtain⟨d,s,a,e1,e2,e3,hm⟩:=hn.at_ hi
 have hr:inR (i:Int) 0 ((n.ah.length:Int)-1)=true:=bu.2 oaa
 have same:k≠5\/d.aG≠0->Own k i n n:=λq=>⟨rfl,rfl,rfl,rfl,rfl,λj d' hj=>⟨d',hj,λx=>x,λx y=>by
  subst y;rw[e1] at hj;cases hj
  rcases q with q|q
  .exact absurd x q
  exact q⟩⟩
 rw[dZ,if_neg (show ¬(⟨k,i,c,[],bU⟩:cr).aS=1 by simp only;omega),if_neg (show ¬((⟨k,i,c,[],bU⟩:cr).aS=2\/(⟨k,i,c,[],bU⟩:cr).aS=3\/(⟨k,i,c,[],bU⟩:cr).aS=4) by simp only;omega),if_pos (show(⟨k,i,c,[],bU⟩:cr).aS=5\/(⟨k,i,c,[],bU⟩:cr).aS=6\/(⟨k,i,c,[],bU⟩:cr).aS=7\/(⟨k,i,c,[],bU⟩:cr).aS=8 by simp only;omega)]
 simp only[wX,hr,Int.toNat_natCast,e1,e2,au]
 rcases hk with rfl|rfl|rfl
 .rw[aQ]
  simp only[cond_true]
  cases hz:eqB d.aG 0
  .simp only[au];exact same (.inr (Cd hz))
  simp only[au]
  have:(dOn d).aJ.aG=1:=by rw[dOn,hz];rfl
  exact OD e1 (λ_=>by omega) (λ_=>by omega)
 .rw[show eqB (6:Int) 5=false from by simp[eqB],aQ]
  simp only[au]
  cases eqB c d.aE||!ew n.bX c
  .simp only[cond_false]
   have:(qg d c).aJ.aG=d.aG:=by
    rw[qg];cases eqB c d.aE||!inR c 0 5
    .simp only[cond_false];cases eqB d.aG 2&&ltB d.aF 999999<;>rfl
    rfl
   exact OD e1 (λq=>by rw[this];exact q) (λq=>by omega)
  simp only[cond_true];exact same (.inl oaa)
 rw[show eqB (7:Int) 5=false from by simp[eqB],show eqB (7:Int) 6=false from by simp[eqB],aQ]
 simp only[au]
 cases hz:eqB d.aG 2
 .simp only[au];exact same (.inl oaa)
 simp only[au]
 refine⟨rfl,rfl,rfl,rfl,by simp,λj d' hj=>?_⟩
 simp only at hj
 rcases gI hj with⟨e1',e2'⟩|⟨e1',e2'⟩
 .subst e1';subst e2'
  refine⟨d,e1,λ_=>?_,λq=>by omega⟩
  rw[sh,hz];simp
 exact⟨d',e2',λq=>q,λq=>by omega⟩
theorem LS.ev {r:Nat} {n0 n:ab} (h:LS (r+1) n0 n) {k:Int} (hk:k=5\/k=6\/k=7) {i:Nat} (hi:i<n0.ah.length) (c:Int):LS r n0 (dZ n ⟨k,i,c,[],bU⟩).2/\Own k i n (dZ n ⟨k,i,c,[],bU⟩).2:=by
 obtain⟨B,hn,_⟩:=h.q.np
 have ho:=X8 hn hk (i:=i) (by rw[h.l];exact hi) c
 refine⟨⟨h.q.ev (wi (by intro x hx;simp at hx)) (by simp only;omega),ho.m.trans h.m,ho.w.trans h.w,ho.l.trans h.l,λj s0 a0 h1 h2=>?_⟩,ho⟩
 rw[ho.s,ho.a]
 exact h.k j s0 a0 h1 h2
theorem LS.ev3 {r:Nat} {n0 n:ab} (h:LS (r+3) n0 n) {i:Nat} (hi:i<n0.ah.length) (c:Int):
 LS r n0 (dZ (dZ (dZ n ⟨5,i,0,[],bU⟩).2 ⟨7,i,0,[],bU⟩).2 ⟨6,i,c,[],bU⟩).2/\
 ∀(j:Nat) d',(dZ (dZ (dZ n ⟨5,i,0,[],bU⟩).2 ⟨7,i,0,[],bU⟩).2 ⟨6,i,c,[],bU⟩).2.ah[j]?=some d'->(j=i\/∀d,n.ah[j]?=some d->d.aG≠0)->d'.aG≠0:=by
 obtain⟨h1,o1⟩:=h.ev (r:=r+2) (.inl rfl) hi 0
 obtain⟨h2,o2⟩:=h1.ev (r:=r+1) (.inr (.inr rfl)) hi 0
 obtain⟨h3,o3⟩:=h2.ev (r:=r) (.inr (.inl rfl)) hi c
 refine⟨h3,λj d' hj hq=>?_⟩
 obtain⟨d2,g2,k2,_⟩:=o3.d j d' hj
 obtain⟨d1,g1,k1,_⟩:=o2.d j d2 g2
 obtain⟨d0,g0,k0,k5⟩:=o1.d j d1 g1
 refine k2 (k1 ?_)
 rcases hq with hq|hq
 .exact k5 rfl hq
 exact k0 (hq d0 g0)
open Go.Proofs
attribute [local simp] bB aQ bk
theorem JO:∀(xs:List bm) (v:Int),0<=v->v+60*xs.length<=1000000->(∀p∈xs,p.a8.length<=60)->kN (λ(v:Int) (x:bm)=>some (cK.next (WR (v+(x.a8.length:Int))))) some xs v=some (v+(xs.map λp=>(p.a8.length:Int)).sum)
 |[],v,_,_,_=>by simp[kN]
 |x::xs,v,h1,h2,h3=>by
  have hx:=h3 x (by simp)
  simp only[YY] at h2
  rw[kN]
  simp only[bP (n:=v+(x.a8.length:Int)) oaa]
  rw[JO xs _ oaa oaa (λp hp=>h3 p (by simp[hp]))]
  simp only[Ze,abx];congr 1;omega
theorem U2 {s:ae} (h:SP s) (k:Int):oX s k=some (dX s.ax k.toNat):=by
 have hl:=h.sl
 obtain⟨m,hm,hm2,hm3⟩:∃m:Nat,m=min k.toNat s.ax.length/\m<=s.ax.length/\s.ax.take m=s.ax.take k.toNat:=
  ⟨_,rfl,Nat.min_le_right _ _,by rw[List.take_eq_take_min (i:=k.toNat)]⟩
 have hlt:(s.ax.take m).length=m:=by simp;omega
 have hspec:=fP (step:=hO s k) (s.ax.take m) (λj (v:Int)=>(v,(j:Int))) (λv x=>some (.next (WR (v+(x.a8.length:Int))))) some oaa
  (λj x v hx hj=>by
   rw[hlt] at hj
   have hx':s.ax[j]?=some x:=by rw[List.getElem?_take,if_pos hj] at hx;exact hx
   have h1:ltB (j:Int) k=true:=ltB_t.2 oaa
   have h2:ltB (j:Int) (s.ax.length:Int)=true:=dm oaa
   simp[hO,h1,h2,hx',cp (show j<9223372036854775807 by omega)]) (λv=>by
   rw[hlt]
   have:ltB (m:Int) (s.ax.length:Int)=false\/ltB (m:Int) k=false:=by
    simp only[ltB_f];omega
   rcases this with h1|h1
   .simp[hO,h1]
   simp only[hO,h1];cases ltB (m:Int) (s.ax.length:Int)<;>rfl) 0
 simp only[oX]
 rw[show iter (hO s k) FU (0,0)=_ from hspec,JO _ _ oaa (by simp;omega) (λp hp=>h.sd p (List.mem_of_mem_take hp))]
 simp only[aaE,dX,hm3];congr 1;omega
section
variable {B:Int} {n:ab} (h:NP B n) {i:Nat} {d:aw} {s:ae} {a:av} (hd:n.ah[i]?=some d) (hs:n.aj[i]?=some s) (ha:n.aB[i]?=some a)
include h hd
theorem hasS:OZ n (i:Int)=some true/\pG n (i:Int)=some true:=by
 have h1:=h.ls
 have h2:=h.la
 have h3:=h.ld
 have hi:=(YP.1 hd).1
 simp only[OZ,pG,h1,h2,SX,wO,aaE,bP (n:=(n.ah.length:Int)-1) oaa,bu.2 (show(0:Int)<=(i:Int)/\(i:Int)<=(n.ah.length:Int)-1 by omega)]
 exact⟨trivial,trivial⟩
include hs ha
theorem Pr:oY n (i:Int)=some (a.dW+s.bC.d4):=by
 obtain⟨e1,e2⟩:=hasS h hd
 have hm:=h.m i d s a hd hs ha
 have q1:=hm.sg.mo.acc.s
 have q2:=hm.sg.mo.acc.t
 have q3:=hm.sg.sp.q
 have q4:=q3.u
 have q5:=q3.g
 have q6:=q3.m
 simp only[oY,e2,bk,ha,hs,bP (n:=a.dW+s.bC.d4) oaa,au]
end
open Go.Proofs
attribute [local simp] bB aQ bk
theorem SQ {xs:List Int} (hl:xs.length<=1048576) (hu:∀x∈xs,yT x) {i:Int} (h0:0<=i) (h1:i<=1000):∃r,lat xs i=some r/\0<=r/\r<=255:=by
 rw[lat]
 cases hb:ltB i (xs.length:Int)
 .simp only[cond_false]
  rw[bP (n:=i*31) oaa,bP (n:=(xs.length:Int)*7) oaa,bP oaa,Int.tmod_eq_emod_of_nonneg oaa]
  exact⟨_,rfl,by omega,by omega⟩
 have hb:=ko hb
 obtain⟨k,rfl⟩:∃k:Nat,i=k:=⟨i.toNat,by omega⟩
 obtain⟨x,hx⟩:∃x,xs[k]?=some x:=⟨_,YO oaa⟩
 have:=hu x (List.mem_of_getElem? hx)
 unfold yT at this
 simp only[bk,hx,bP (n:=x) oaa,au]
 exact⟨_,rfl,this.1,this.2⟩
open Go.Proofs
attribute [local simp] bB aQ bk
theorem ev5 (n:ab) (i c:Int):mh n ⟨5,i,c,[],bU⟩=iG n ⟨5,i,c,[],bU⟩:=by
 simp[mh,iG,mK,pU,f9,jC,eqB]
theorem ev6 (n:ab) (i c:Int):mj n ⟨6,i,c,[],bU⟩=iG n ⟨6,i,c,[],bU⟩:=by
 simp[mj,iG,mK,pV,f9,jD,eqB]
theorem ev7 (n:ab) (i c:Int):ml n ⟨7,i,c,[],bU⟩=iG n ⟨7,i,c,[],bU⟩:=by
 simp[ml,iG,mK,pW,f9,jE,eqB]
theorem Tx {n:ab} {k:Int} (hk:k=5\/k=6\/k=7) (i c:Int) (h:(dZ n ⟨k,i,c,[],bU⟩).1=false):(dZ n ⟨k,i,c,[],bU⟩).2=n:=by
 revert h
 rw[dZ,if_neg (show ¬(⟨k,i,c,[],bU⟩:cr).aS=1 by simp only;omega),if_neg (show ¬((⟨k,i,c,[],bU⟩:cr).aS=2\/(⟨k,i,c,[],bU⟩:cr).aS=3\/(⟨k,i,c,[],bU⟩:cr).aS=4) by simp only;omega),if_pos (show(⟨k,i,c,[],bU⟩:cr).aS=5\/(⟨k,i,c,[],bU⟩:cr).aS=6\/(⟨k,i,c,[],bU⟩:cr).aS=7\/(⟨k,i,c,[],bU⟩:cr).aS=8 by simp only;omega)]
 simp only[wX]
 cases !inR i 0 ((n.ah.length:Int)-1)
 .simp only[cond_false]
  cases n.ah[i.toNat]? with
  |none=>exact λ_=>rfl
  |some d=>
   cases n.aj[i.toNat]? with
   |none=>exact λ_=>rfl
   |some s=>
    simp only
    cases eqB k 5
    .simp only[cond_false]
     cases eqB k 6
     .simp only[cond_false]
      cases eqB k 7
      .simp only[cond_false];cases(mS s []).2<;>simp
      simp only[cond_true];cases eqB d.aG 2<;>simp
     simp only[cond_true];cases eqB c d.aE||!ew n.bX c<;>simp
    simp only[cond_true];cases eqB d.aG 0<;>simp
 exact λ_=>rfl
theorem Tw {r:Nat} {n0 n:ab} (h:LS r n0 n) {k:Int} (hk:k=5\/k=6\/k=7) (i c:Int):iG n ⟨k,i,c,[],bU⟩=some ((dZ n ⟨k,i,c,[],bU⟩).2,(dZ n ⟨k,i,c,[],bU⟩).1):=by
 obtain⟨B,hn,hB⟩:=h.q.np
 rw[Vm hn (wi (by intro x hx;simp at hx)) oaa]
 cases hb:(dZ n ⟨k,i,c,[],bU⟩).1
 .simp only[cond_false];rw[Tx hk i c hb]
 rfl
theorem Ws:∀c∈List.range 6,eqB (yw .i64 (Cc .i64 0 (c:Int)) 1) 0=true:=by decide+kernel
theorem Kb {xs:List Int} (hx:xs.length<=1048576) (hu:∀x∈xs,yT x) {n:ab} {z:Int} (hc:1<=n.bX.aZ.length/\n.bX.aZ.length<=6) (hm:n.ah.length<=4):
 ∀(c i fu:Nat) (x:ab),i+c=n.ah.length->c<fu->LS (80+3*c) n x->(∀(j:Nat) d,j<i->x.ah[j]?=some d->d.aG≠0)->∃y,iter (iL xs (n,z)) fu ((i:Int),x)=some y/\LS 80 n y/\∀(j:Nat) d,y.ah[j]?=some d->d.aG≠0
 |0,i,fu,x,h1,h2,h3,h4=>by
  cases fu with
  |zero=>omega
  |succ fu=>
   refine⟨x,?_,h3,λj d hj=>h4 j d ?_ hj⟩
   .rw[iter]
    simp only[iL,ltB_f.2 (show(n.ah.length:Int)<=(i:Int) by omega),cond_false]
   have:=(YP.1 hj).1;rw[h3.l] at this;omega
 |c+1,i,fu,x,h1,h2,h3,h4=>by
  cases fu with
  |zero=>omega
  |succ fu=>
   obtain⟨b,hb,hb1,hb2⟩:=SQ hx hu (i:=((i+1:Nat):Int)) oaa oaa
   obtain⟨k,hk⟩:∃k,k=Int.tmod b (n.bX.aZ.length:Int):=⟨_,rfl⟩
   have h5:=h3.ev (r:=80+3*c+2) (.inl rfl) (i:=i) oaa 0
   have h6:=h5.1.ev (r:=80+3*c+1) (.inr (.inr rfl)) (i:=i) oaa 0
   have hz:=h3.ev3 (r:=80+3*c) (i:=i) oaa k
   obtain⟨y,e,q⟩:=Kb hx hu (z:=z) hc hm c (i+1) fu _ oaa oaa hz.1 (λj d hj hd=>hz.2 j d hd (by
    by_cases e:j=i
    .exact .inl e
    exact .inr λd0 h0=>h4 j d0 oaa h0))
   refine⟨y,?_,q⟩
   rw[iter,<-e]
   have z5:({CY with aS:=5,bR:=(i:Int)}:cr)=⟨5,i,0,[],bU⟩:=rfl
   have z7:({CY with aS:=7,bR:=(i:Int)}:cr)=⟨7,i,0,[],bU⟩:=rfl
   simp only[iL,dm (show i<n.ah.length by omega),z5,z7,ev5,ev6,ev7,Tw h3 (.inl rfl),Tw h5.1 (.inr (.inr rfl)),Tw h6.1 (.inr (.inl rfl)),cp (show i<9223372036854775807 by omega),hb,eqB_f.2 (show(n.bX.aZ.length:Int)≠0 by omega),<-hk,au]
theorem FM:∀{l:List bm} (k:Nat),(∀p∈l,p.a8.length<=60)->dX l k<=60*(l.length:Int)
 |[],k,_=>by simp[dX]
 |p::l,0,_=>by simp only[dX,List.take_zero,List.map_nil,List.sum_nil];omega
 |p::l,k+1,h=>by
  have h1:=FM (l:=l) k (λq hq=>h q (by simp[hq]))
  have h2:=h p (by simp)
  simp only[dX] at h1 ⊢
  rw[List.take_succ_cons,Ze,abx,YY];omega
theorem Q6 {B:Int} {n:ab} (h:NP B n) {i:Nat} {d:aw} {s:ae} {a:av} (hd:n.ah[i]?=some d) (hs:n.aj[i]?=some s) (ha:n.aB[i]?=some a):vg n (i:Int)=some (leB (dX s.ax s.ax.length) (pH s a)):=by
 have hm:=h.m i d s a hd hs ha
 have q1:=hm.sg.mo.acc.s
 have q2:=hm.sg.mo.acc.t
 have q0:=hm.sg.mo.acc.v
 have q3:=hm.sg.sp.q
 have q4:=q3.u
 have q5:=q3.g
 have q6:=q3.m
 have hb:=Pn s.ax s.ax.length
 have hb2:=FM s.ax.length hm.sg.sp.sd
 have hsl:=hm.sg.sp.sl
 obtain⟨e1,e2⟩:=hasS h hd
 simp only[vg,e2,bk,hs,ha,U2 hm.sg.sp,Pr h hd hs ha,rem_s,CP q3,Int.toNat_natCast,bP (n:=dX s.ax s.ax.length-(a.dW+s.bC.d4)) oaa,bP (n:=a.bK+(s.bC.cB-s.bC.d4)) oaa,au]
 congr 1
 rw[Bool.eq_iff_iff,leB_t,leB_t,pH];omega
theorem zV (xs:List Int) (hp:preL yT xs):rE xs=some true:=by
 simp only[rE,XG,aaE]
 cases hb:ltB 1048576 (xs.length:Int) with
 |true=>rfl
 |false=>
  have hl:=nO hb
  have hu:=hp.2
  have hdr:Wp (qA xs) (λr=>∃l,(1<=l/\l<=3)/\RZ 40 l r.1):=by
   unfold qA
   obtain⟨c,e,hc,_⟩:=XY oaa hu
   exact Wp.eq e (Wp.call (Wv hc) λx hx=>Wp.call (qc hx.1 oaa) λy _=>Wp.some hx.2)
  obtain⟨⟨n,z⟩,hd,l,hl3,k,hr,hk,hlen,hdc⟩:=hdr.ex
  simp only at hr hlen hdc
  have hre:=hr.re
  obtain⟨b,hb0,hb1,hb2⟩:=SQ (xs:=xs) oaa hu (i:=0) oaa oaa
  obtain⟨m,hm⟩:∃m:Nat,Int.tmod b 12=m:=⟨(Int.tmod b 12).toNat,by have:=Int.tmod_nonneg 12 hb1;omega⟩
  have hm12:m<12:=by rw[Int.tmod_eq_emod_of_nonneg hb1] at hm;omega
  have hq:EQ (92+m) n:=hre.eq oaa oaa
  obtain⟨B,hn,hB⟩:=hq.np
  have hml:=iw hn.map
  have hx:=LS.rounds m (LS.refl (hq.mono (r':=80+3*n.ah.length+m) oaa))
  obtain⟨y,he,hy,hon⟩:=Kb (xs:=xs) oaa hu (z:=z) oaa oaa n.ah.length 0 FU (gW m n) oaa (by have:=kj;omega) hx (λj d hj=>by omega)
  obtain⟨By,hny,hBy⟩:=hy.q.np
  obtain⟨Bz,hnz,hBz⟩:=(EQ.rounds 80 (r:=0) hy.q).np
  have hpz:=(EQ.rounds 80 (r:=0) hy.q).pi
  have hlz:(gW 80 y).ah.length=n.ah.length:=(Ew 80 (r:=0) hy.q).trans hy.l
  have e80:xt y 80=some (gW 80 y):=KN hny (m:=80) oaa oaa
  simp only[hd,hb0,hm,KN hn (m:=m) oaa oaa,show iter (iL xs (n,z)) FU (0,gW m n)=some y from he,HR,e80,hlz,aQ,Re hnz hpz,au]
  refine D5 n.ah false oaa (λi d hdi hi=>?_) (by simp only[nN,bB,cond_false])
  obtain⟨d',s,a,e1,e2,e3,hmp⟩:=hn.at_ hi
  simp only[nN,dm hi,Q6 hn e1 e2 e3,cp (show i<9223372036854775807 by omega),au]
  cases hc:leB (dX s.ax s.ax.length) (pH s a)
  .rfl
  have hc:=sb hc
  obtain⟨s2,a2,f2,f3,f4,f5⟩:=hy.k i s a e2 e3
  obtain⟨d2,f1⟩:∃d2,y.ah[i]?=some d2:=⟨_,YO (by rw[hy.l];exact hi)⟩
  have hm2:=hny.m i d2 s2 a2 f1 f2 f3
  have hce:=hm2.dp.ce
  have hdc2:=hm2.dc
  have hup:upF y.bX y.bp d2.aE=true:=by
   rw[upF,hy.w,hdc,show ew y.bX d2.aE=true from bu.2 oaa]
   have:=Ws d2.aE.toNat (List.mem_range.2 (by have:=(iw hny.map).2;omega))
   rw[show(d2.aE.toNat:Int)=d2.aE by omega] at this
   rw[this];rfl
  obtain⟨d3,s3,g1,g2,g3,g4⟩:=FC hy.q f1 f2 f3 (hon i d2 f1) hup (by rw[f4,f5];exact hc)
  obtain⟨a3,g5⟩:∃a3,(gW 80 y).aB[i]?=some a3:=⟨_,YO (by rw[hnz.la,hlz];exact hi)⟩
  have hm3:=hnz.m i d3 s3 a3 g1 g2 g5
  have si:=hpz.si i d3 s3 a3 g1 g2 g5
  have heq:d3.aT.bj=s.ax:=by
   rw[<-f4,<-g4];exact si.pr.eq_of_length g3.d
  have hsl:=hm3.sg.sp.sl
  have hsame:ma d3.aT.bj s.ax=some true:=by
   rw[heq]
   exact Al (by rw[<-f4,<-g4];omega) (λp hp=>by
    rw[<-f4,<-g4] at hp
    have:=hm3.sg.sp.sd p hp;omega)
  have hsv:xr (gW 80 y) (i:Int)=some true:=by
   simp only[xr,(Sl hnz g1).1,bk,g1,g2,g3.d,aQ,Hl hnz g1 g2 g5,g3.a,au]
  simp only[hsv,bk,g1,e2,hsame,au]
end Go.AM
