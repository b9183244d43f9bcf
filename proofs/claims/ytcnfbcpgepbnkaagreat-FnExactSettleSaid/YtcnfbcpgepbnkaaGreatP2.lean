/- A part. -/
import Derived.Test.YtcnfbcpgepbnkaaGreatP1
set_option linter.unusedVariables false
set_option linter.unusedSimpArgs false
set_option maxHeartbeats 4000000
open Option renaming some->ς,none->ξ
open Bool renaming true->ζ,false->η
open True renaming intro->θ
open List renaming getElem?_eq_some_iff->f5,mem_map->adP,getElem?_of_mem->ac7,length_cons->acn,mem_of_getElem?->v0,mem_append->aau
open Option renaming bind_some->aeW,bind->aeP
namespace Go.AM
attribute [local simp] bZ bT bz
variable{n:Go.AM.ae}
theorem Rc(n:ae)(i:Nat)(r:aZ):(ki n i r).aH.length=n.aH.length/\(ki n i r).fH=n.fH/\(ki n i r).aT=n.aT/\(ki n i r).bu=n.bu/\(ki n i r).vU=n.vU:=by
 have:=um (r.dV.map (qa i ζ)) {n with aH:=n.aH.set i r.bS}
 rw[ki,this.1,this.2.1,this.2.2.1,this.2.2.2.1,this.2.2.2.2.2.2];simp
def DT:Nat->Nat->ae->ae
 |0,_,n=>n
 |c+1,i,n=>match n.aH[i]? with
  |none=>n
  |some d=>DT c (i+1) (ki n i (uD d))
theorem E5{L:Int×ae->Option (bJ (Int×ae) ae)}(N:Nat)(hN:N<=4)(hL:∀(i:Nat) (n:ae),n.aH.length=N->(i<N->∀d,n.aH[i]?=ς d->DP d->L ((i:Int),n)=ς (.next (((i+1:Nat):Int),ki n i (uD d))))/\(N<=i->L ((i:Int),n)=ς (.done n))):
 ∀(c i:Nat) {B:Int} (n:ae) (fu:Nat),NP B n->i+c=N->n.aH.length=N->c<fu->B+c<4611686018427387904->iter L fu ((i:Int),n)=ς (DT c i n)/\NP (B+c) (DT c i n)/\(DT c i n).aH.length=N/\(DT c i n).fH=n.fH
 |0,i,B,n,fu,h,h1,h2,h3,hB=>by
  cases fu with
  |zero=>omega
  |succ fu=>
   rw[iter,(hL i n h2).2 oaa]
   exact⟨rfl,by simpa [DT] using h,h2,rfl⟩
 |c+1,i,B,n,fu,h,h1,h2,h3,hB=>by
  cases fu with
  |zero=>omega
  |succ fu=>
   obtain⟨d,s,a,e1,e2,e3,hm⟩:=h.at_ (show i<n.aH.length by omega)
   have hp:=EL h e1 (G9 d) (Xf hm.dp) hm.dc oaa
   have hk:=Rc n i (uD d)
   rw[iter,(hL i n h2).1 oaa d e1 hm.dp,DT,e1]
   simp only
   have ih:=E5 N hN hL c (i+1) (ki n i (uD d)) fu hp oaa oaa oaa oaa
   grind
def Bk(x:am):Prop:=okB x.bH.be/\x.bH.be.length<=60
theorem IY(k g e:Int){x:ab}(h:x.be.length<=60):Bk (wE k g e x):=⟨LE _ _,by simp[wE,sealM];exact h⟩
theorem Nk{s:ag}(h:WOK s.aC):∀x∈Cw s,Bk x:=by
 rw[Cw];cases eqB s.bF 1
 .simp
 intro x hx
 obtain⟨y,hy,rfl⟩:=adP.1 hx
 exact IY _ _ _ (h.d y (List.mem_of_mem_take hy))
theorem UC(s:ag)(a:aj)(n:Int):(dB s a n).1.bM.ax=s.bM.ax:=by rw[dB];cases leB (pc s n) 0<;>rfl
theorem IZ:∀(k:Nat) (s:ag) (a:aj) (r:List am),SG s a->(∀x∈r,Bk x)->
 (g7 k s a r).1.bO=s.bO/\(g7 k s a r).1.bC=s.bC/\(g7 k s a r).1.bM.ax=s.bM.ax/\(g7 k s a r).1.aS=s.aS/\∀x∈(g7 k s a r).2.2,Bk x
 |0,s,a,r,h,hr=>⟨rfl,rfl,rfl,rfl,hr⟩
 |k+1,s,a,r,h,hr=>by
  rw[g7]
  cases e:wm s with
  |none=>simp_all
  |some x=>
   obtain⟨hm,hx,_,hn,hl,hb⟩:=tX h.sp e
   have he:=Ax h (n:=(x.be.length:Int)) oaa
   obtain⟨q,hk⟩:=uF s a (x.be.length:Int)
   have hid:=UC s a (x.be.length:Int)
   simp only
   cases hq:ltB 0 (pc (dB s a (x.be.length:Int)).1 (x.be.length:Int))
   .simp only[cond_false]
    have ih:=IZ k {(dB s a (x.be.length:Int)).1 with aC:=Bj (dB s a (x.be.length:Int)).1.aC x.be} (dB s a (x.be.length:Int)).2
     (r++[wE (dB s a (x.be.length:Int)).1.bp (dB s a (x.be.length:Int)).1.av (dB s a (x.be.length:Int)).1.a8 ⟨(dB s a (x.be.length:Int)).1.aC.bw,x.be⟩])
     (GI he (by rw[hk];exact e) hq) (λy hy=>by
      rcases aau.1 hy with hy|hy
      .exact hr y hy
      simp at hy;subst hy;exact IY _ _ _ hb)
    simp_all
   simp_all
theorem YP{m:aU}{a t:Int}:∀c∈Fk m a t,0<=c/\c<m.bh.length:=by
 intro c hc
 have h1:∀c∈uA m a,0<=c/\c<m.bh.length:=λc hc=>by
  obtain⟨y,hy,rfl⟩:=adP.1 hc
  grind
 have h2:∀c∈WP m,0<=c/\c<m.bh.length:=λc hc=>by
  obtain⟨k,hk,rfl⟩:=adP.1 hc
  simp_all
 rw[Fk] at hc;grind
structure TK(nc:Nat)(s:ag)(a:aj)(t:bk):Prop where
 rcd:t.aX.bO=s.bO
 cell:t.aX.bC=s.bC
 si:t.aX.bM.ax=s.bM.ax
 sub:t.aX.aS=s.aS
 pg:∀m∈t.ou,0<=m.bC/\m.bC<nc
 pl:t.ou.length<=1000
 rd:∀x∈t.cF,Bk x
 rl:t.cF.length<=4
theorem IX{s:ag}{a:aj}(h:SG s a){m:aU}(hm:m.bh.length<=1000):TK m.bh.length s a (uk s a m):=by
 rw[uk]
 cases eqB s.bF 1
 .exact⟨rfl,rfl,rfl,rfl,by simp,by simp,by simp,by simp⟩
 simp only[au]
 have hg:=NV h
 have hq:=Dw h.sp
 cases ltB 4 (jI s)
 .simp only[cond_false,TU]
  have hk:=IZ 2 _ _ [] (h.upd hq (DA h.sp)) (by simp)
  have hl:=A3 2 {s with dy:=jI s,du:=(oh s).2,bM:=(fA s a).2} (fA s a).1 []
  have hr:=EQ s
  refine⟨hk.1,hk.2.1,hk.2.2.1.trans hg.2.2.1,hk.2.2.2.1,by simp,by simp,λx hx=>?_,by grind⟩
  rcases aau.1 hx with hx|hx
  .rw[oh] at hx;revert hx
   cases Jz s
   .simp
   cases ltB 0 s.du
   .exact Nk h.sp.win x
   simp
  simp_all
 simp only[cond_true,K4]
 refine⟨rfl,rfl,hg.2.2.1,rfl,λx hx=>?_,by have:=E6 (p:={s.fJ with eO:=mA m s.bC}) hm;simp_all,by simp,by simp⟩
 obtain⟨c,hc,rfl⟩:=adP.1 hx
 simp only[OO]
 rw[yA] at hc;revert hc
 cases ltB 0 s.fJ.eG
 .exact YP c
 simp
def zW(n:ae)(i:Nat)(t:bk):ae:=
 kL (kL {n with aT:=n.aT.set i t.aX,bu:=n.bu.set i t.eu} (t.ou.map (qa i η))) (t.cF.map (wx i t.aX.bC))
theorem act{nd nc i:Nat}(hi:i<nd){c:Int}(hc:0<=c/\c<nc){x:am}(hx:Bk x):FP nd nc (wx i c x):=
 ⟨by simp only[wx];omega,hc,hx.1,⟨by have:=hx.2;simp only[wx];omega,λ_ _=>trivial⟩⟩
theorem Vz(n:ae)(i:Nat)(t:bk):(zW n i t).aH=n.aH/\(zW n i t).fH=n.fH/\(zW n i t).aT.length=n.aT.length/\(zW n i t).vU=n.vU:=by
 have h1:=um (t.ou.map (qa i η)) {n with aT:=n.aT.set i t.aX,bu:=n.bu.set i t.eu}
 have h2:=um (t.cF.map (wx i t.aX.bC)) (kL {n with aT:=n.aT.set i t.aX,bu:=n.bu.set i t.eu} (t.ou.map (qa i η)))
 rw[zW,h2.1,h2.2.1,h2.2.2.2.1,h2.2.2.2.2.2.2,h1.1,h1.2.1,h1.2.2.2.1,h1.2.2.2.2.2.2];simp
theorem Y0{B:Int}(h:NP B n){i:Nat}{s:ag}{a:aj}(hs:n.aT[i]?=ς s)(ha:n.bu[i]?=ς a){t:bk}(hk:TK n.fH.bh.length s a t)(hg:SG t.aX t.eu)(hB:B+2000<4611686018427387904):NP (B+2000) (zW n i t):=by
 have hi:=(f5.1 hs).1
 have hls:=h.ls
 obtain⟨d,s',a',h1,h2,h3,hm⟩:=h.at_ (show i<n.aH.length by omega)
 rw[hs] at h2;cases h2
 rw[ha] at h3;cases h3
 have hmp:MP n.fH.bh.length i d t.aX t.eu:=by
  refine⟨hm.dp,hm.dc,hg,by rw[hk.cell];exact hm.sc,by rw[hk.si];exact hm.si,?_⟩
  have:=hm.ids
  simp only[Qv,hk.rcd] at this ⊢;exact this
 have hn:=h.setM hmp
 rw[Ae h1] at hn
 have hpl:=hk.pl
 have hrl:=hk.rl
 have k1:=um (t.ou.map (qa i η)) {n with aT:=n.aT.set i t.aX,bu:=n.bu.set i t.eu}
 have p1:=Ac (t.ou.map (qa i η)) hn (λf hf=>by
  obtain⟨m,hm',rfl⟩:=adP.1 hf
  exact MR (show i<n.aH.length by omega) (hk.pg m hm')) (by simp;omega)
 have p2:=Ac (t.cF.map (wx i t.aX.bC)) p1 (λf hf=>by
  obtain⟨x,hx,rfl⟩:=adP.1 hf
  rw[k1.1,k1.2.2.2.1]
  exact act (show i<n.aH.length by omega) (by rw[hk.cell];exact⟨hm.sg.sp.ce.1,hm.sc⟩) (hk.rd x hx)) (by simp;omega)
 exact p2.mono (by simp;omega)
def Fw:Nat->Nat->ae->ae
 |0,_,n=>n
 |c+1,i,n=>match n.aT[i]?,n.bu[i]? with
  |some s,ς a=>Fw c (i+1) (zW n i (uk s a n.fH))
  |_,_=>n
theorem E7{L:Int×ae->Option (bJ (Int×ae) ae)}(N:Nat)(hN:N<=4)(hL:∀(i:Nat) (n:ae),n.aT.length=N->(i<N->∀s a,n.aT[i]?=ς s->n.bu[i]?=ς a->SG s a->DW n.fH=ζ->L ((i:Int),n)=ς (.next (((i+1:Nat):Int),zW n i (uk s a n.fH))))/\(N<=i->L ((i:Int),n)=ς (.done n))):
 ∀(c i:Nat) {B:Int} (n:ae) (fu:Nat),NP B n->i+c=N->n.aT.length=N->c<fu->B+2000*c<4611686018427387904->iter L fu ((i:Int),n)=ς (Fw c i n)/\NP (B+2000*c) (Fw c i n)/\(Fw c i n).aH=n.aH/\(Fw c i n).fH=n.fH
 |0,i,B,n,fu,h,h1,h2,h3,hB=>by
  cases fu with
  |zero=>omega
  |succ fu=>
   rw[iter,(hL i n h2).2 oaa]
   exact⟨rfl,by simpa [Fw] using h,rfl,rfl⟩
 |c+1,i,B,n,fu,h,h1,h2,h3,hB=>by
  cases fu with
  |zero=>omega
  |succ fu=>
   have hls:=h.ls
   obtain⟨d,s,a,e1,e2,e3,hm⟩:=h.at_ (show i<n.aH.length by omega)
   have hml:=Dg h.map
   have hp:=Y0 h e2 e3 (IX hm.sg oaa) (ZE hm.sg h.map) oaa
   have hk:=Vz n i (uk s a n.fH)
   rw[iter,(hL i n h2).1 oaa s a e2 e3 hm.sg h.map,Fw,e2,e3]
   simp only
   have ih:=E7 N hN hL c (i+1) (zW n i (uk s a n.fH)) fu hp oaa oaa oaa oaa
   grind
def OH(n:ae):Bool×ae:=
 bif leB 100000 n.vU then(η,n) else
  let n1:=DT n.aH.length 0 {n with vU:=n.vU+1}
  (ζ,Fw n1.aT.length 0 n1)
theorem E8{B:Int}{n:ae}(h:NP B n)(hB:B+10000<4611686018427387904):DO n=ς (OH n)/\SO n=ς (OH n)/\NP (B+10000) (OH n).2:=by
 have hnw:=h.nw
 have hld:=h.ld
 rw[OH,DO,SO]
 cases hb:leB 100000 n.vU
 .have hb:=FQ hb
  simp only[cond_false]
  have h1:NP B {n with vU:=n.vU+1}:={h with nw:=by grind}
  rw[bY (n:=n.vU+1) oaa]
  have rs:=E5 (L:=vp) n.aH.length hld (λi n' hn'=>⟨λhi d hd hp=>by
   simp only[vp,hn',ci hi,bz,hd,tick_s hp.ok hp.wt.2,IC (show i<n'.aH.length by omega) (show(uD d).dV.length<=1048576 by have:=(G9 d).len;omega),WRs (k:=i),au],λhi=>by
   simp only[vp,hn',ltB_f.2 (show(n.aH.length:Int)<=(i:Int) by omega),cond_false]⟩) n.aH.length 0 _ FU h1 oaa rfl (by have:=gP;omega) oaa
  have ri:=E5 (L:=C4 n) n.aH.length hld (λi n' hn'=>⟨λhi d hd hp=>by
   simp only[C4,ci hi,bz,hd,tick_i hp.ok hp.wt.2,IB (show i<n'.aH.length by omega) (show(uD d).dV.length<=1048576 by have:=(G9 d).len;omega),WRs (k:=i),au],λhi=>by
   simp only[C4,ltB_f.2 (show(n.aH.length:Int)<=(i:Int) by omega),cond_false]⟩) n.aH.length 0 _ FU h1 oaa rfl (by have:=gP;omega) oaa
  rw[show((0:Nat):Int)=0 from rfl] at rs ri
  have h2:=(rs).2.1
  have hls:=h2.ls
  have hl2:=h2.ld
  generalize DT n.aH.length 0 {n with vU:=n.vU+1}=n1 at*
  have radS:∀(n':ae) (i:Nat) (t:bk),(∀x∈t.cF,Bk x)->t.cF.length<=4->iter (om (i:Int) t) FU (0,n')=ς (kL n' (t.cF.map (wx i t.aX.bC))):=λn' i t ht hl=>by
   have:=eg (step:=om (i:Int) t) t.cF (λk n=>((k:Int),n)) (λn x=>aeP (pF n (wx i t.aX.bC x)) λr=>ς (.next r)) ς oaa
    (λk x n hx hk=>by
     simp only[om,ci hk,bz,hx,WRs (k:=k),wx,au]
     simp_all) (λn=>by simp[om]) n'
   refine Eq.trans (show iter (om (i:Int) t) FU (0,n')=_ from this) ?_
   clear this
   have key:∀(l:List am) (n':ae),(∀x∈l,Bk x)->lB (λ(n:ae) x=>aeP (pF n (wx i t.aX.bC x)) λr=>ς (bJ.next (ρ:=ae) r)) ς l n'=ς (kL n' (l.map (wx i t.aX.bC))):=by
    intro l
    induction l with
    |nil=>intro n' _;rfl
    |cons x l ih=>intro n' hx;rw[lB,Tp (f:=wx i t.aX.bC x) ⟨by have:=(hx x (by simp)).2;simp only[wx];omega,λ_ _=>trivial⟩];exact ih _ λy hy=>hx y (by simp[hy])
   simp_all
  have radI:∀(n':ae) (i:Nat) (t:bk),(∀x∈t.cF,Bk x)->t.cF.length<=4->iter (wi (i:Int) t) FU (0,n')=ς (kL n' (t.cF.map (wx i t.aX.bC))):=λn' i t ht hl=>by
   have:=eg (step:=wi (i:Int) t) t.cF (λk n=>((k:Int),n)) (λn x=>aeP (yu n (wx i t.aX.bC x)) λr=>ς (.next r)) ς oaa
    (λk x n hx hk=>by
     simp only[wi,ci hk,bz,hx,WRs (k:=k),wx,au]
     simp_all) (λn=>by simp[wi]) n'
   refine Eq.trans (show iter (wi (i:Int) t) FU (0,n')=_ from this) ?_
   clear this
   have key:∀(l:List am) (n':ae),(∀x∈l,Bk x)->lB (λ(n:ae) x=>aeP (yu n (wx i t.aX.bC x)) λr=>ς (bJ.next (ρ:=ae) r)) ς l n'=ς (kL n' (l.map (wx i t.aX.bC))):=by
    intro l
    induction l with
    |nil=>intro n' _;rfl
    |cons x l ih=>intro n' hx;rw[lB,Mm (f:=wx i t.aX.bC x) ⟨by have:=(hx x (by simp)).2;simp only[wx];omega,λ_ _=>trivial⟩];exact ih _ λy hy=>hx y (by simp[hy])
   simp_all
  have ss:=E7 (L:=vq) n1.aT.length oaa (λi n' hn'=>⟨λhi s a hs ha hg hm=>by
   have hml:=Dg hm
   have hk:=IX hg (m:=n'.fH) oaa
   simp only[vq,hn',ci hi,bz,hs,ha,acZ hg (m:=n'.fH) oaa (It hg.sp.page),Int.toNat_natCast,Rv _ _ _ (show(uk s a n'.fH).ou.length<=1048576 by have:=hk.pl;omega),radS _ i _ hk.rd hk.rl,zW,WRs (k:=i),au],λhi=>by
   simp only[vq,hn',ltB_f.2 (show(n1.aT.length:Int)<=(i:Int) by omega),cond_false]⟩) n1.aT.length 0 n1 FU h2 oaa rfl (by have:=gP;omega) oaa
  have si:=E7 (L:=C5 n1) n1.aT.length oaa (λi n' hn'=>⟨λhi s a hs ha hg hm=>by
   have hml:=Dg hm
   have hk:=IX hg (m:=n'.fH) oaa
   simp only[C5,ci hi,bz,hs,ha,acY hg (m:=n'.fH) oaa (It hg.sp.page),Int.toNat_natCast,Xn _ _ (show(uk s a n'.fH).ou.length<=1048576 by have:=hk.pl;omega),radI _ i _ hk.rd hk.rl,zW,WRs (k:=i),au],λhi=>by
   simp only[C5,ltB_f.2 (show(n1.aT.length:Int)<=(i:Int) by omega),cond_false]⟩) n1.aT.length 0 n1 FU h2 oaa rfl (by have:=gP;omega) oaa
  rw[show((0:Nat):Int)=0 from rfl] at ss si
  rw[rs.1]
  rw[ri.1]
  simp only[aeW]
  rw[ss.1]
  rw[si.1]
  exact⟨rt,rt,(ss).2.1.mono oaa⟩
 exact⟨rt,rt,h.mono oaa⟩
def wt(a b:Int):Int:=Int.tmod (WR (dS 17 [a,b]*dS 17 [a,b])) 2147483647
structure BY(n:ae):Prop where
 d1:∀d∈n.aH,∀x∈d.ct.aA,okB x.be
 d2:∀d∈n.aH,∀p∈d.ct.aY,okB p.be
 s1:∀s∈n.aT,∀p∈s.aS,okB p.be
 s2:∀s∈n.aT,∀x∈s.aC.ar,okB x.be
 f:∀f∈n.aJ,okB f.cF.bH.be
theorem NP.of(ok:ej n)(v:mV n=ζ)(b:BY n):NP 0 n:=by
 simp only[mV,FD,Bool.and_eq_true,cT,gN,List.all_eq_true,flB] at v
 obtain⟨v1,v2,v3,v4,v5,v6,v7,v8,v9,v10,v11,v12⟩:=v
 have v4:=BU v4
 have v5:=Ay v5
 have v6:=Ay v6
 have v8:=BU v8
 have v12:=BU v12
 refine⟨v1,ok.1,v2,XA (by simp_all),by omega,v5,v6,λi d s a hd hs ha=>?_,by omega,λf hf=>?_,cT.2 v10,v11,rfl⟩
 .have:=v7 i d hd
  simp only[JV,hs,ha,Bool.and_eq_true] at this
  obtain⟨m1,m2,m3,m4,m5,m6,m7,m8⟩:=this
  have hdm:=v0 hd
  have hsm:=v0 hs
  have c1:=cT.1 (show inR d.bC 0 ((n.fH.bh.length:Int)-1)=ζ from m5)
  have c2:=cT.1 (show inR s.bC 0 ((n.fH.bh.length:Int)-1)=ζ from m6)
  exact⟨DP.of m1 (ok.2.1.2 d hdm) (b.d1 d hdm) (b.d2 d hdm),by omega,⟨(Ad (ok.2.2.1.2 s hsm)).1 m2,b.s1 s hsm,b.s2 s hsm,wk.1 m8⟩,by omega,CH m7,m4⟩
 have:=v9 f hf
 have c2:=cT.1 (show inR f.bC 0 ((n.fH.bh.length:Int)-1)=ζ from this.2)
 exact⟨by omega,by omega,b.f f hf,ok.2.2.2.2.2 f hf⟩
theorem NP.okN{B:Int}(h:NP B n):ej n:=by
 have h1:=h.ld
 have h2:=h.ls
 have h3:=h.la
 have h4:=h.fl
 refine⟨h.mok,⟨by omega,λd hd=>?_⟩,⟨by omega,λs hs=>?_⟩,⟨by omega,λa ha=>?_⟩,⟨by omega,λf hf=>(h.fs f hf).ok⟩⟩
 .obtain⟨i,hi⟩:=ac7 hd
  have hlt:=(f5.1 hi).1
  obtain⟨d',s,a,e1,e2,e3,hm⟩:=h.at_ hlt
  rw[hi] at e1;cases e1;exact hm.dp.ok
 .obtain⟨i,hi⟩:=ac7 hs
  have hlt:=(f5.1 hi).1
  obtain⟨d',s,a,e1,e2,e3,hm⟩:=h.at_ (show i<n.aH.length by omega)
  rw[hi] at e2;cases e2;exact hm.sg.sp.ok
 obtain⟨i,hi⟩:=ac7 ha
 have hlt:=(f5.1 hi).1
 obtain⟨d',s,a,e1,e2,e3,hm⟩:=h.at_ (show i<n.aH.length by omega)
 rw[hi] at e3;cases e3;exact hm.sg.mo.acc.ok
open Go.Proofs
def D8:Nat->ae->ae
 |0,n=>n
 |c+1,n=>bif eqB (n.aJ.length:Int) 0 then n else D8 c (tV n 0)
theorem NP.z{B:Int}(h:NP B n):NP 0 n:={h with lo:=rfl}
theorem Gk:∀(c:Nat) {n:ae},NP 0 n->NP 0 (D8 c n)
 |0,n,h=>by simpa [D8] using h
 |c+1,n,h=>by
  rw[D8]
  cases eqB (n.aJ.length:Int) 0
  .exact Gk c (BH h 0 oaa).z
  exact h
theorem KQ:∀(c k fu:Nat) (m:Nat) {n:ae},NP 0 n->k+c=m->m<=4000->c<fu->iter (jC (m:Int)) fu ((k:Int),n)=ς (D8 c n)
 |0,k,fu,m,n,h,h1,h2,h3=>by
  cases fu with
  |zero=>omega
  |succ fu=>rw[iter];simp only[jC,ltB_f.2 (show(m:Int)<=(k:Int) by omega),D8,au]
 |c+1,k,fu,m,n,h,h1,h2,h3=>by
  cases fu with
  |zero=>omega
  |succ fu=>
   rw[iter,D8]
   simp only[jC,ltB_t.2 (show(k:Int)<(m:Int) by omega),au]
   by_cases e:n.aJ.length=0
   .simp_all
   rw[ltB_t.2 (show(0:Int)<(n.aJ.length:Int) by omega),eqB_f.2 (show(n.aJ.length:Int)≠0 by omega)]
   have hd:=Uy h (k:=0) oaa
   simp only[au]
   rw[show(0:Int)=((0:Nat):Int) from rfl,hd]
   simp only[aeW,WRs (k:=k)]
   exact KQ c (k+1) fu m (BH h 0 oaa).z oaa h2 oaa
theorem Kk:∀(c k fu:Nat) (m:Nat) {n:ae},NP 0 n->k+c=m->m<=4000->c<fu->iter (lT (m:Int)) fu ((k:Int),n)=ς (D8 c n)
 |0,k,fu,m,n,h,h1,h2,h3=>by
  cases fu with
  |zero=>omega
  |succ fu=>rw[iter];simp only[lT,ltB_f.2 (show(m:Int)<=(k:Int) by omega),D8,au]
 |c+1,k,fu,m,n,h,h1,h2,h3=>by
  cases fu with
  |zero=>omega
  |succ fu=>
   rw[iter,D8]
   simp only[lT,ltB_t.2 (show(k:Int)<(m:Int) by omega),au]
   by_cases e:n.aJ.length=0
   .simp_all
   rw[ltB_t.2 (show(0:Int)<(n.aJ.length:Int) by omega),eqB_f.2 (show(n.aJ.length:Int)≠0 by omega)]
   have hd:=Uz h (k:=0) oaa
   simp only[au]
   rw[show(0:Int)=((0:Nat):Int) from rfl,hd]
   simp only[aeW,WRs (k:=k)]
   exact Kk c (k+1) fu m (BH h 0 oaa).z oaa h2 oaa
theorem Tw(h:NP 0 n){m:Nat}(hm:m<=4000):qk n (m:Int)=ς (D8 m n)/\vr n (m:Int)=ς (D8 m n):=by
 have h1:=KQ m 0 FU m h oaa hm (by have:=gP;omega)
 have h2:=Kk m 0 FU m h oaa hm (by have:=gP;omega)
 constructor
 .rw[qk,show iter (jC (m:Int)) FU (0,n)=_ from h1];rfl
 rw[vr,show iter (lT (m:Int)) FU (0,n)=_ from h2];rfl
def nRound(n:ae):ae:=D8 4000 (OH n).2
def sF:Nat->ae->ae
 |0,n=>n
 |c+1,n=>sF c (nRound n)
theorem Im:∀(c:Nat) {n:ae},NP 0 n->NP 0 (sF c n)
 |0,n,h=>h
 |c+1,n,h=>Im c (Gk 4000 (E8 h oaa).2.2.z)
theorem Fp:∀(c k fu:Nat) (m:Nat) {n:ae},NP 0 n->k+c=m->m<=200->c<fu->iter (xe (m:Int)) fu ((k:Int),n)=ς (sF c n)
 |0,k,fu,m,n,h,h1,h2,h3=>by
  cases fu with
  |zero=>omega
  |succ fu=>rw[iter];simp only[xe,ltB_f.2 (show(m:Int)<=(k:Int) by omega),cond_false,sF]
 |c+1,k,fu,m,n,h,h1,h2,h3=>by
  cases fu with
  |zero=>omega
  |succ fu=>
   have ht:=E8 h oaa
   have hd:=(Tw ht.2.2.z (m:=4000) oaa).1
   rw[show((4000:Nat):Int)=4000 from rfl] at hd
   rw[iter,sF]
   simp only[xe,ltB_t.2 (show(k:Int)<(m:Int) by omega),ht.2.1,hd,WRs (k:=k),au]
   exact Fp c (k+1) fu m (Gk 4000 ht.2.2.z) oaa h2 oaa
theorem Fq:∀(c k fu:Nat) (m:Nat) {n:ae},NP 0 n->k+c=m->m<=200->c<fu->iter (qG (m:Int)) fu ((k:Int),n)=ς (sF c n)
 |0,k,fu,m,n,h,h1,h2,h3=>by
  cases fu with
  |zero=>omega
  |succ fu=>rw[iter];simp only[qG,ltB_f.2 (show(m:Int)<=(k:Int) by omega),cond_false,sF]
 |c+1,k,fu,m,n,h,h1,h2,h3=>by
  cases fu with
  |zero=>omega
  |succ fu=>
   have ht:=E8 h oaa
   have hd:=(Tw ht.2.2.z (m:=4000) oaa).2
   rw[show((4000:Nat):Int)=4000 from rfl] at hd
   rw[iter,sF]
   simp only[qG,ltB_t.2 (show(k:Int)<(m:Int) by omega),ht.1,hd,WRs (k:=k),au]
   exact Fq c (k+1) fu m (Gk 4000 ht.2.2.z) oaa h2 oaa
def nI(n:ae)(m:Int):ae:=bif mV n&&inR m 0 200 then sF m.toNat n else n
theorem IL(ok:ej n)(b:BY n){m:Int}:uQ n m=ς (nI n m):=by
 simp only[uQ,net_ci ok,Vl ok,aeW,nI,jl]
 cases hv:mV n
 .rfl
 cases hm:inR m 0 200
 .rfl
 have hm:=cT.1 hm
 have:=Fp m.toNat 0 FU m.toNat (NP.of ok hv b) oaa oaa (by have:=gP;omega)
 rw[show(m.toNat:Int)=m by omega] at this
 simp at this
 simp[this]
theorem IM(ok:ej n)(b:BY n){m:Int}:xX n m=ς (nI n m):=by
 simp only[xX,net_c ok,Vm ok,aeW,nI,gY,Cn]
 cases hv:mV n
 .rfl
 cases hm:inR m 0 200
 .rfl
 have hm:=cT.1 hm
 have:=Fq m.toNat 0 FU m.toNat (NP.of ok hv b) oaa oaa (by have:=gP;omega)
 rw[show(m.toNat:Int)=m by omega] at this
 simp at this
 simp[this]
theorem Cp(ok:ej n)(b:BY n){m:Int}:ej (nI n m):=by
 rw[nI]
 cases hv:mV n
 .exact ok
 cases hm:inR m 0 200
 .exact ok
 exact(Im m.toNat (NP.of ok hv b)).okN
def MX{β:Type}(f:β->Int->Option (Int×β))(h:β->Int->Option Int)(ok:β->Prop)(K:Int):Prop:=
 ∀x k,ok x->0<=k->k+K<=9223372036854775000->∃k' y,f x k=ς (k',y)/\k<=k'/\k'<=k+K/\h y k=ς k'
theorem qy{α:Type}{E:α->Int->Option (Int×α)}{ok:α->Prop}{K:Int}{h:List α->Int->Option Int}{Lh:List α->(Int×Int)->Option (bJ (Int×Int) Int)}(hK:0<=K)(hh:∀a k,h a k=iter (Lh a) FU (k,0))(hE:∀x k,ok x->0<=k->k+K<=9223372036854775000->∃k' y,E x k=ς (k',y)/\k<=k'/\k'<=k+K/\∀(zs:List α) (i:Nat),zs[i]?=ς y->Lh zs (k,(i:Int))=ς (.next (k',WR ((i:Int)+1))))(hend:∀(zs:List α) k,Lh zs (k,(zs.length:Int))=ς (.done k)):MX (mX E) h (okL ok) (1048576*K):=by
 have key:∀(xs:List α) (k:Int),(∀x∈xs,ok x)->0<=k->k+(xs.length:Int)*K<=9223372036854775000->∃k' ys,k<=k'/\k'<=k+(xs.length:Int)*K/\ys.length=xs.length/\
  (∀(pre:List α) (fu:Nat),xs.length<fu->pre.length+xs.length<=1048576->iter (LX E) fu (k,(pre.length:Int),pre++xs)=ς (k',pre++ys))/\
  (∀(pre:List α) (fu:Nat),xs.length<fu->pre.length+xs.length<=1048576->iter (Lh (pre++ys)) fu (k,(pre.length:Int))=ς k'):=by
  intro xs
  induction xs with
  |nil=>
   intro k _ h0 _
   refine⟨k,[],by omega,by simp,rfl,λpre fu hfu _=>?_,λpre fu hfu _=>?_⟩
   .obtain⟨fu,rfl⟩:∃g,fu=g+1:=⟨fu-1,by simp at hfu;omega⟩
    rw[iter];simp[LX]
   obtain⟨fu,rfl⟩:∃g,fu=g+1:=⟨fu-1,by simp at hfu;omega⟩
   have:=hend (pre++[]) k
   rw[List.append_nil] at this ⊢
   rw[iter,this]
  |cons x xs ih=>
   intro k hok h0 hk
   have hn:((x::xs).length:Int)*K=(xs.length:Int)*K+K:=by
    rw[acn,Int.natCast_add,Int.add_mul];simp
   rw[hn] at hk ⊢
   have hm:0<=(xs.length:Int)*K:=Int.mul_nonneg oaa hK
   obtain⟨k1,y,e1,b1,b2,e2⟩:=hE x k (hok x (by simp)) h0 oaa
   obtain⟨k',ys,c1,c2,c3,c4,c5⟩:=ih k1 (λz hz=>hok z (by simp[hz])) oaa oaa
   refine⟨k',y::ys,by omega,by omega,by simp[c3],λpre fu hfu hp=>?_,λpre fu hfu hp=>?_⟩
   .obtain⟨fu,rfl⟩:∃g,fu=g+1:=⟨fu-1,by simp at hfu;omega⟩
    simp only[acn] at hfu hp
    rw[iter,LX,ltB_t.2 (show(pre.length:Int)<(((pre++x::xs).length:Nat):Int) by simp;omega)]
    have h1:ix (pre++x::xs) (pre.length:Int)=ς x:=by rw[bz];simp
    have h2:(pre++x::xs).set (pre.length:Int).toNat y=(pre++[y])++xs:=by simp
    simp only[h1,e1,h2,WRs (k:=pre.length),au]
    have:=c4 (pre++[y]) fu oaa (by simp;omega)
    rw[show((pre++[y]).length)=pre.length+1 by simp] at this
    simpa using this
   obtain⟨fu,rfl⟩:∃g,fu=g+1:=⟨fu-1,by simp at hfu;omega⟩
   simp only[acn] at hfu hp
   rw[iter,e2 (pre++y::ys) pre.length (by simp)]
   simp only[WRs (k:=pre.length)]
   have:=c5 (pre++[y]) fu oaa (by simp;omega)
   rw[show((pre++[y]).length)=pre.length+1 by simp] at this
   simpa using this
 intro xs k hok h0 hk
 have hx:(xs.length:Int)*K<=1048576*K:=Int.mul_le_mul_of_nonneg_right (by have:=hok.1;omega) hK
 obtain⟨k',ys,c1,c2,c3,c4,c5⟩:=key xs k hok.2 h0 oaa
 refine⟨k',ys,?_,c1,by omega,?_⟩
 .rw[mX]
  have:=c4 [] FU (by have:=hok.1;have:=gP;omega) (by have:=hok.1;simpa using this)
  simp at this
  rw[this];rfl
 rw[hh]
 have:=c5 [] FU (by have:=hok.1;have:=gP;omega) (by have:=hok.1;simpa using this)
 simpa using this
end Go.AM
set_option maxRecDepth 100000
set_option maxHeartbeats 4000000
namespace Go.AM
open Go.Proofs
theorem gM{j:Int}(h0:0<=j)(h:j+1<=9223372036854775807):WR (j+1)=j+1:=bY oaa
theorem Ut(b:Bool):booB b b=true:=by simp[booB]
theorem Fb{k:Int}(h0:0<=k)(h:k+40<=9223372036854775807):Unit->WR (k+1)=k+1/\WR (k+1+1)=k+1+1/\WR (k+1+1+1)=k+1+1+1/\WR (k+1+1+1+1)=k+1+1+1+1/\WR (k+1+1+1+1+1)=k+1+1+1+1+1/\WR (k+1+1+1+1+1+1)=k+1+1+1+1+1+1/\WR (k+1+1+1+1+1+1+1)=k+1+1+1+1+1+1+1/\WR (k+1+1+1+1+1+1+1+1)=k+1+1+1+1+1+1+1+1/\WR (k+1+1+1+1+1+1+1+1+1)=k+1+1+1+1+1+1+1+1+1/\WR (k+1+1+1+1+1+1+1+1+1+1)=k+1+1+1+1+1+1+1+1+1+1/\WR (k+1+1+1+1+1+1+1+1+1+1+1)=k+1+1+1+1+1+1+1+1+1+1+1/\WR (k+1+1+1+1+1+1+1+1+1+1+1+1)=k+1+1+1+1+1+1+1+1+1+1+1+1/\WR (k+1+1+1+1+1+1+1+1+1+1+1+1+1)=k+1+1+1+1+1+1+1+1+1+1+1+1+1/\WR (k+1+1+1+1+1+1+1+1+1+1+1+1+1+1)=k+1+1+1+1+1+1+1+1+1+1+1+1+1+1/\WR (k+1+1+1+1+1+1+1+1+1+1+1+1+1+1+1)=k+1+1+1+1+1+1+1+1+1+1+1+1+1+1+1/\WR (k+1+1+1+1+1+1+1+1+1+1+1+1+1+1+1+1)=k+1+1+1+1+1+1+1+1+1+1+1+1+1+1+1+1/\WR (k+1+1+1+1+1+1+1+1+1+1+1+1+1+1+1+1+1)=k+1+1+1+1+1+1+1+1+1+1+1+1+1+1+1+1+1/\WR (k+1+1+1+1+1+1+1+1+1+1+1+1+1+1+1+1+1+1)=k+1+1+1+1+1+1+1+1+1+1+1+1+1+1+1+1+1+1/\WR (k+1+1+1+1+1+1+1+1+1+1+1+1+1+1+1+1+1+1+1)=k+1+1+1+1+1+1+1+1+1+1+1+1+1+1+1+1+1+1+1/\WR (k+1+1+1+1+1+1+1+1+1+1+1+1+1+1+1+1+1+1+1+1)=k+1+1+1+1+1+1+1+1+1+1+1+1+1+1+1+1+1+1+1+1/\WR (k+1+1+1+1+1+1+1+1+1+1+1+1+1+1+1+1+1+1+1+1+1)=k+1+1+1+1+1+1+1+1+1+1+1+1+1+1+1+1+1+1+1+1+1/\WR (k+1+1+1+1+1+1+1+1+1+1+1+1+1+1+1+1+1+1+1+1+1+1)=k+1+1+1+1+1+1+1+1+1+1+1+1+1+1+1+1+1+1+1+1+1+1/\WR (k+1+1+1+1+1+1+1+1+1+1+1+1+1+1+1+1+1+1+1+1+1+1+1)=k+1+1+1+1+1+1+1+1+1+1+1+1+1+1+1+1+1+1+1+1+1+1+1/\WR (k+1+1+1+1+1+1+1+1+1+1+1+1+1+1+1+1+1+1+1+1+1+1+1+1)=k+1+1+1+1+1+1+1+1+1+1+1+1+1+1+1+1+1+1+1+1+1+1+1+1/\WR (k+1+1+1+1+1+1+1+1+1+1+1+1+1+1+1+1+1+1+1+1+1+1+1+1+1)=k+1+1+1+1+1+1+1+1+1+1+1+1+1+1+1+1+1+1+1+1+1+1+1+1+1/\WR (k+1+1+1+1+1+1+1+1+1+1+1+1+1+1+1+1+1+1+1+1+1+1+1+1+1+1)=k+1+1+1+1+1+1+1+1+1+1+1+1+1+1+1+1+1+1+1+1+1+1+1+1+1+1/\WR (k+1+1+1+1+1+1+1+1+1+1+1+1+1+1+1+1+1+1+1+1+1+1+1+1+1+1+1)=k+1+1+1+1+1+1+1+1+1+1+1+1+1+1+1+1+1+1+1+1+1+1+1+1+1+1+1/\WR (k+1+1+1+1+1+1+1+1+1+1+1+1+1+1+1+1+1+1+1+1+1+1+1+1+1+1+1+1)=k+1+1+1+1+1+1+1+1+1+1+1+1+1+1+1+1+1+1+1+1+1+1+1+1+1+1+1+1/\WR (k+1+1+1+1+1+1+1+1+1+1+1+1+1+1+1+1+1+1+1+1+1+1+1+1+1+1+1+1+1)=k+1+1+1+1+1+1+1+1+1+1+1+1+1+1+1+1+1+1+1+1+1+1+1+1+1+1+1+1+1/\WR (k+1+1+1+1+1+1+1+1+1+1+1+1+1+1+1+1+1+1+1+1+1+1+1+1+1+1+1+1+1+1)=k+1+1+1+1+1+1+1+1+1+1+1+1+1+1+1+1+1+1+1+1+1+1+1+1+1+1+1+1+1+1/\WR (k+1+1+1+1+1+1+1+1+1+1+1+1+1+1+1+1+1+1+1+1+1+1+1+1+1+1+1+1+1+1+1)=k+1+1+1+1+1+1+1+1+1+1+1+1+1+1+1+1+1+1+1+1+1+1+1+1+1+1+1+1+1+1+1/\WR (k+1+1+1+1+1+1+1+1+1+1+1+1+1+1+1+1+1+1+1+1+1+1+1+1+1+1+1+1+1+1+1+1)=k+1+1+1+1+1+1+1+1+1+1+1+1+1+1+1+1+1+1+1+1+1+1+1+1+1+1+1+1+1+1+1+1/\WR (k+1+1+1+1+1+1+1+1+1+1+1+1+1+1+1+1+1+1+1+1+1+1+1+1+1+1+1+1+1+1+1+1+1)=k+1+1+1+1+1+1+1+1+1+1+1+1+1+1+1+1+1+1+1+1+1+1+1+1+1+1+1+1+1+1+1+1+1:=λ_=>⟨gM oaa oaa,gM oaa oaa,gM oaa oaa,gM oaa oaa,gM oaa oaa,gM oaa oaa,gM oaa oaa,gM oaa oaa,gM oaa oaa,gM oaa oaa,gM oaa oaa,gM oaa oaa,gM oaa oaa,gM oaa oaa,gM oaa oaa,gM oaa oaa,gM oaa oaa,gM oaa oaa,gM oaa oaa,gM oaa oaa,gM oaa oaa,gM oaa oaa,gM oaa oaa,gM oaa oaa,gM oaa oaa,gM oaa oaa,gM oaa oaa,gM oaa oaa,gM oaa oaa,gM oaa oaa,gM oaa oaa,gM oaa oaa,gM oaa oaa⟩
theorem JB{α:Type}{i:Nat}{zs:List α}{β:Type}{p q:β}(h:i<zs.length):(bif ltB (i:Int) (zs.length:Int) then p else q)=p:=by rw[ltB_t.2 (show(i:Int)<(zs.length:Int) by omega)];rfl
theorem eQ{α β:Type}{zs:List α}{i:Int}{y:α}{f:α->Int}{v:Int}{A:Option β}{B:α->Option β}(hi:ix zs i=ς y)(h:f y=v):(aeP (ix zs i) λx=>bif !eqB (f x) v then A else B x)=B y:=by rw[hi];subst h;simp[bT]
theorem hd_b{α β:Type}{zs:List α}{i:Int}{y:α}{f:α->Bool}{v:Bool}{A:Option β}{B:α->Option β}(hi:ix zs i=ς y)(h:f y=v):(aeP (ix zs i) λx=>bif !(booB (f x) v) then A else B x)=B y:=by rw[hi];subst h;simp[Ut]
theorem JC{α β:Type}{zs:List α}{i k:Int}{y:α}{f:α->Option Int}{A:Option β}{B:Int->Option β}(hi:ix zs i=ς y)(h:f y=ς k)(h0:0<=k):(aeP (ix zs i) λx=>aeP (f x) λr=>bif ltB r 0 then A else B r)=B k:=by rw[hi];simp only[h,ltB_f.2 h0,au]
theorem Md:MX j0 tK (okL (λ_=>True)) 1048576:=by
 refine qy (K:=1) (E:=xv) (Lh:=qq) oaa (λa k=>rfl) (λx k hx h0 hk=>?_) (λzs k=>by simp[qq,dn,bZ])
 have w0:=Fb (k:=k) oaa oaa
 refine⟨k+1,IntKind.u8.wrap (k),?_,by omega,by omega,λzs i hz=>?_⟩
 .simp only[xv,aeW,w0 ()]
 have hl:=(f5.1 hz).1
 have hi:=(bz zs i).trans hz
 unfold qq
 simp only[w0 ()]
 refine(JB oaa).trans ?_
 refine(eQ hi rfl).trans ?_
 rfl
theorem Yp:MX pT AK (okL (λ_=>True)) 1048576:=by
 refine qy (K:=1) (E:=zp) (Lh:=sE) oaa (λa k=>rfl) (λx k hx h0 hk=>?_) (λzs k=>by simp[sE,dn,bZ])
 have w0:=Fb (k:=k) oaa oaa
 refine⟨k+1,k,?_,by omega,by omega,λzs i hz=>?_⟩
 .simp only[zp,aeW,w0 ()]
 have hl:=(f5.1 hz).1
 have hi:=(bz zs i).trans hz
 unfold sE
 simp only[w0 ()]
 refine(JB oaa).trans ?_
 refine(eQ hi rfl).trans ?_
 rfl
theorem Ik:MX jf qs (okL fQ) 1099511627776:=by
 refine qy (K:=1048576) (E:=rF) (Lh:=mf) oaa (λa k=>rfl) (λx k hx h0 hk=>?_) (λzs k=>by simp[mf,dn,bZ])
 obtain⟨x_Data⟩:=x
 obtain⟨r1,y1,e1,a1,b1,c1⟩:=Md x_Data (k) hx oaa oaa
 have n1:ltB r1 0=false:=ltB_f.2 oaa
 refine⟨r1,⟨y1⟩,?_,by omega,by omega,λzs i hz=>?_⟩
 .simp only[rF,aeW,e1]
 have hl:=(f5.1 hz).1
 have hi:=(bz zs i).trans hz
 unfold mf
 refine(JB oaa).trans ?_
 refine(JC hi (k:=r1) c1 oaa).trans ?_
 rfl
theorem va:MX ew iM (okL dg) 1099512676352:=by
 refine qy (K:=1048577) (E:=ka) (Lh:=gA) oaa (λa k=>rfl) (λx k hx h0 hk=>?_) (λzs k=>by simp[gA,dn,bZ])
 obtain⟨x_Seq,x_Data⟩:=x
 obtain⟨r1,y1,e1,a1,b1,c1⟩:=Md x_Data (k+1) hx oaa oaa
 have n1:ltB r1 0=false:=ltB_f.2 oaa
 have w0:=Fb (k:=k) oaa oaa
 refine⟨r1,⟨k,y1⟩,?_,by omega,by omega,λzs i hz=>?_⟩
 .simp only[ka,aeW,w0 (),e1]
 have hl:=(f5.1 hz).1
 have hi:=(bz zs i).trans hz
 unfold gA
 simp only[w0 ()]
 refine(JB oaa).trans ?_
 refine(eQ hi rfl).trans ?_
 refine(JC hi (k:=r1) c1 oaa).trans ?_
 rfl
theorem Il:MX iO o3 (okL (λ_=>True)) 2097152:=by
 refine qy (K:=2) (E:=mF) (Lh:=iN) oaa (λa k=>rfl) (λx k hx h0 hk=>?_) (λzs k=>by simp[iN,dn,bZ])
 obtain⟨x_SessionID,x_Amount⟩:=x
 have w0:=Fb (k:=k) oaa oaa
 refine⟨k+1+1,⟨k,k+1⟩,?_,by omega,by omega,λzs i hz=>?_⟩
 .simp only[mF,aeW,w0 ()]
 have hl:=(f5.1 hz).1
 have hi:=(bz zs i).trans hz
 unfold iN
 simp only[w0 ()]
 refine(JB oaa).trans ?_
 refine(eQ hi rfl).trans ?_
 refine(eQ hi rfl).trans ?_
 rfl
theorem ab6:MX xA BZ (okL sG) 1099512676352:=by
 refine qy (K:=1048577) (E:=xB) (Lh:=qr) oaa (λa k=>rfl) (λx k hx h0 hk=>?_) (λzs k=>by simp[qr,dn,bZ])
 obtain⟨x_Area,x_Neighbors⟩:=x
 obtain⟨r1,y1,e1,a1,b1,c1⟩:=Yp x_Neighbors (k+1) hx oaa oaa
 have n1:ltB r1 0=false:=ltB_f.2 oaa
 have w0:=Fb (k:=k) oaa oaa
 refine⟨r1,⟨k,y1⟩,?_,by omega,by omega,λzs i hz=>?_⟩
 .simp only[xB,aeW,w0 (),e1]
 have hl:=(f5.1 hz).1
 have hi:=(bz zs i).trans hz
 unfold qr
 simp only[w0 ()]
 refine(JB oaa).trans ?_
 refine(eQ hi rfl).trans ?_
 refine(JC hi (k:=r1) c1 oaa).trans ?_
 rfl
theorem U2:MX xC xt (okL dD) 2305844108737904640:=by
 refine qy (K:=2199024304140) (E:=tN) (Lh:=nj) oaa (λa k=>rfl) (λx k hx h0 hk=>?_) (λzs k=>by simp[nj,dn,bZ])
 obtain⟨⟨⟨x_Card_ID_Network,x_Card_ID_Number⟩,x_Card_Key,x_Card_LastSeq⟩,x_State,x_Cell,x_Generation,x_RootKey,x_Epoch,x_PathConfirmed,x_Wait,⟨x_Receiver_Next,x_Receiver_Pending,x_Receiver_Delivered⟩⟩:=x
 obtain⟨r1,y1,e1,a1,b1,c1⟩:=va x_Receiver_Pending (k+1+1+1+1+1+1+1+1+1+1+1+1) hx.1 oaa oaa
 have n1:ltB r1 0=false:=ltB_f.2 oaa
 obtain⟨r2,y2,e2,a2,b2,c2⟩:=Ik x_Receiver_Delivered (r1) hx.2 oaa oaa
 have n2:ltB r2 0=false:=ltB_f.2 oaa
 have w0:=Fb (k:=k) oaa oaa
 refine⟨r2,⟨⟨⟨k,k+1⟩,k+1+1,k+1+1+1⟩,k+1+1+1+1,k+1+1+1+1+1,k+1+1+1+1+1+1,k+1+1+1+1+1+1+1,k+1+1+1+1+1+1+1+1,(eqB (Int.tmod (k+1+1+1+1+1+1+1+1+1) 3) 0),k+1+1+1+1+1+1+1+1+1+1,⟨k+1+1+1+1+1+1+1+1+1+1+1,y1,y2⟩⟩,?_,by omega,by omega,λzs i hz=>?_⟩
 .simp only[tN,aeW,w0 (),e1,e2]
 have hl:=(f5.1 hz).1
 have hi:=(bz zs i).trans hz
 unfold nj
 simp only[w0 ()]
 refine(JB oaa).trans ?_
 refine(eQ hi rfl).trans ?_
 refine(eQ hi rfl).trans ?_
 refine(eQ hi rfl).trans ?_
 refine(eQ hi rfl).trans ?_
 refine(eQ hi rfl).trans ?_
 refine(eQ hi rfl).trans ?_
 refine(eQ hi rfl).trans ?_
 refine(eQ hi rfl).trans ?_
 refine(eQ hi rfl).trans ?_
 refine(hd_b hi rfl).trans ?_
 refine(eQ hi rfl).trans ?_
 refine(eQ hi rfl).trans ?_
 refine(JC hi (k:=r1) c1 oaa).trans ?_
 refine(JC hi (k:=r2) c2 oaa).trans ?_
 rfl
theorem QH:MX vM vK (okL dw) 2305845208265261056:=by
 refine qy (K:=2199025352731) (E:=rH) (Lh:=mh) oaa (λa k=>rfl) (λx k hx h0 hk=>?_) (λzs k=>by simp[mh,dn,bZ])
 obtain⟨⟨⟨x_Record_ID_Network,x_Record_ID_Number⟩,x_Record_Key,x_Record_Seq⟩,⟨x_Plan_RateLimit,x_Plan_BestClass,x_Plan_GrantSize,x_Plan_RoamingNetworks⟩,x_State,⟨x_Pending_Rand,x_Pending_Autn,x_Pending_MAC,x_Pending_Res,x_Pending_Key⟩,x_PendingSeq,x_Generation,x_RootKey,x_Epoch,x_Cell,x_Quiet,⟨x_Page_Area,x_Page_Attempt,x_Page_Wait⟩,x_Submitted,⟨x_Window_Next,x_Window_Unacked⟩,x_Retry,⟨x_Usage_SessionID,x_Usage_Granted,x_Usage_Used⟩⟩:=x
 obtain⟨r1,y1,e1,a1,b1,c1⟩:=Yp x_Plan_RoamingNetworks (k+1+1+1+1+1+1+1) hx.1 oaa oaa
 have n1:ltB r1 0=false:=ltB_f.2 oaa
 obtain⟨r2,y2,e2,a2,b2,c2⟩:=Ik x_Submitted (r1+1+1+1+1+1+1+1+1+1+1+1+1+1+1+1) hx.2.1 oaa oaa
 have n2:ltB r2 0=false:=ltB_f.2 oaa
 obtain⟨r3,y3,e3,a3,b3,c3⟩:=va x_Window_Unacked (r2+1) hx.2.2 oaa oaa
 have n3:ltB r3 0=false:=ltB_f.2 oaa
 have w0:=Fb (k:=k) oaa oaa
 have w1:=Fb (k:=r1) oaa oaa
 have w2:=Fb (k:=r2) oaa oaa
 have w3:=Fb (k:=r3) oaa oaa
 refine⟨r3+1+1+1+1,⟨⟨⟨k,k+1⟩,k+1+1,k+1+1+1⟩,⟨k+1+1+1+1,k+1+1+1+1+1,k+1+1+1+1+1+1,y1⟩,r1,⟨r1+1,r1+1+1,r1+1+1+1,r1+1+1+1+1,r1+1+1+1+1+1⟩,r1+1+1+1+1+1+1,r1+1+1+1+1+1+1+1,r1+1+1+1+1+1+1+1+1,r1+1+1+1+1+1+1+1+1+1,r1+1+1+1+1+1+1+1+1+1+1,r1+1+1+1+1+1+1+1+1+1+1+1,⟨r1+1+1+1+1+1+1+1+1+1+1+1+1,r1+1+1+1+1+1+1+1+1+1+1+1+1+1,r1+1+1+1+1+1+1+1+1+1+1+1+1+1+1⟩,y2,⟨r2,y3⟩,r3,⟨r3+1,r3+1+1,r3+1+1+1⟩⟩,?_,by omega,by omega,λzs i hz=>?_⟩
 .simp only[rH,aeW,w0 (),w1 (),w2 (),w3 (),e1,e2,e3]
 have hl:=(f5.1 hz).1
 have hi:=(bz zs i).trans hz
 unfold mh
 simp only[w0 (),w1 (),w2 (),w3 ()]
 refine(JB oaa).trans ?_
 refine(eQ hi rfl).trans ?_
 refine(eQ hi rfl).trans ?_
 refine(eQ hi rfl).trans ?_
 refine(eQ hi rfl).trans ?_
 refine(eQ hi rfl).trans ?_
 refine(eQ hi rfl).trans ?_
 refine(eQ hi rfl).trans ?_
 refine(JC hi (k:=r1) c1 oaa).trans ?_
 try simp only[w0 (),w1 (),w2 (),w3 ()]
 refine(eQ hi rfl).trans ?_
 refine(eQ hi rfl).trans ?_
 refine(eQ hi rfl).trans ?_
 refine(eQ hi rfl).trans ?_
 refine(eQ hi rfl).trans ?_
 refine(eQ hi rfl).trans ?_
 refine(eQ hi rfl).trans ?_
 refine(eQ hi rfl).trans ?_
 refine(eQ hi rfl).trans ?_
 refine(eQ hi rfl).trans ?_
 refine(eQ hi rfl).trans ?_
 refine(eQ hi rfl).trans ?_
 refine(eQ hi rfl).trans ?_
 refine(eQ hi rfl).trans ?_
 refine(eQ hi rfl).trans ?_
 refine(JC hi (k:=r2) c2 oaa).trans ?_
 try simp only[w0 (),w1 (),w2 (),w3 ()]
 refine(eQ hi rfl).trans ?_
 refine(JC hi (k:=r3) c3 oaa).trans ?_
 try simp only[w0 (),w1 (),w2 (),w3 ()]
 refine(eQ hi rfl).trans ?_
 refine(eQ hi rfl).trans ?_
 refine(eQ hi rfl).trans ?_
 refine(eQ hi rfl).trans ?_
 rfl
theorem QG:MX vL vJ (okL d5) 2199026401280:=by
 refine qy (K:=2097155) (E:=rC) (Lh:=me) oaa (λa k=>rfl) (λx k hx h0 hk=>?_) (λzs k=>by simp[me,dn,bZ])
 obtain⟨x_Total,x_Available,x_Spent,x_Reservations⟩:=x
 obtain⟨r1,y1,e1,a1,b1,c1⟩:=Il x_Reservations (k+1+1+1) hx oaa oaa
 have n1:ltB r1 0=false:=ltB_f.2 oaa
 have w0:=Fb (k:=k) oaa oaa
 refine⟨r1,⟨k,k+1,k+1+1,y1⟩,?_,by omega,by omega,λzs i hz=>?_⟩
 .simp only[rC,aeW,w0 (),e1]
 have hl:=(f5.1 hz).1
 have hi:=(bz zs i).trans hz
 unfold me
 simp only[w0 ()]
 refine(JB oaa).trans ?_
 refine(eQ hi rfl).trans ?_
 refine(eQ hi rfl).trans ?_
 refine(eQ hi rfl).trans ?_
 refine(JC hi (k:=r1) c1 oaa).trans ?_
 rfl
theorem U3:MX xD xu (okL fP) 1099532599296:=by
 refine qy (K:=1048596) (E:=tQ) (Lh:=nk) oaa (λa k=>rfl) (λx k hx h0 hk=>?_) (λzs k=>by simp[nk,dn,bZ])
 obtain⟨x_Device,x_Uplink,x_IsRadio,x_Cell,⟨x_Signal_Kind,x_Signal_Cell,x_Signal_Generation,x_Signal_Epoch,x_Signal_Number,⟨x_Signal_Vector_Rand,x_Signal_Vector_Autn,x_Signal_Vector_MAC,x_Signal_Vector_Res,x_Signal_Vector_Key⟩,x_Signal_MAC⟩,⟨x_Radio_Generation,x_Radio_Epoch,⟨x_Radio_Message_Direction,x_Radio_Message_Count,x_Radio_Message_Data,x_Radio_Message_MAC⟩⟩⟩:=x
 obtain⟨r1,y1,e1,a1,b1,c1⟩:=Md x_Radio_Message_Data (k+1+1+1+1+1+1+1+1+1+1+1+1+1+1+1+1+1+1+1) hx oaa oaa
 have n1:ltB r1 0=false:=ltB_f.2 oaa
 have w0:=Fb (k:=k) oaa oaa
 have w1:=Fb (k:=r1) oaa oaa
 refine⟨r1+1,⟨k,(eqB (Int.tmod (k+1) 3) 0),(eqB (Int.tmod (k+1+1) 3) 0),k+1+1+1,⟨k+1+1+1+1,k+1+1+1+1+1,k+1+1+1+1+1+1,k+1+1+1+1+1+1+1,k+1+1+1+1+1+1+1+1,⟨k+1+1+1+1+1+1+1+1+1,k+1+1+1+1+1+1+1+1+1+1,k+1+1+1+1+1+1+1+1+1+1+1,k+1+1+1+1+1+1+1+1+1+1+1+1,k+1+1+1+1+1+1+1+1+1+1+1+1+1⟩,k+1+1+1+1+1+1+1+1+1+1+1+1+1+1⟩,⟨k+1+1+1+1+1+1+1+1+1+1+1+1+1+1+1,k+1+1+1+1+1+1+1+1+1+1+1+1+1+1+1+1,⟨k+1+1+1+1+1+1+1+1+1+1+1+1+1+1+1+1+1,k+1+1+1+1+1+1+1+1+1+1+1+1+1+1+1+1+1+1,y1,r1⟩⟩⟩,?_,by omega,by omega,λzs i hz=>?_⟩
 .simp only[tQ,aeW,w0 (),w1 (),e1]
 have hl:=(f5.1 hz).1
 have hi:=(bz zs i).trans hz
 unfold nk
 simp only[w0 (),w1 ()]
 refine(JB oaa).trans ?_
 refine(eQ hi rfl).trans ?_
 refine(hd_b hi rfl).trans ?_
 refine(hd_b hi rfl).trans ?_
 refine(eQ hi rfl).trans ?_
 refine(eQ hi rfl).trans ?_
 refine(eQ hi rfl).trans ?_
 refine(eQ hi rfl).trans ?_
 refine(eQ hi rfl).trans ?_
 refine(eQ hi rfl).trans ?_
 refine(eQ hi rfl).trans ?_
 refine(eQ hi rfl).trans ?_
 refine(eQ hi rfl).trans ?_
 refine(eQ hi rfl).trans ?_
 refine(eQ hi rfl).trans ?_
 refine(eQ hi rfl).trans ?_
 refine(eQ hi rfl).trans ?_
 refine(eQ hi rfl).trans ?_
 refine(eQ hi rfl).trans ?_
 refine(eQ hi rfl).trans ?_
 refine(JC hi (k:=r1) c1 oaa).trans ?_
 try simp only[w0 (),w1 ()]
 refine(eQ hi rfl).trans ?_
 rfl
attribute [local simp] bZ bT bz
theorem BY.of{n:ae}(hp:nZ n):BY n where
 d1:=λd hd x hx=>((hp.2.1.2 d hd).1.2 x hx).2
 d2:=λd hd x hx=>((hp.2.1.2 d hd).2.2 x hx).2
 s1:=λs hs x hx=>((hp.2.2.1.2 s hs).2.1.2 x hx).2
 s2:=λs hs x hx=>((hp.2.2.1.2 s hs).2.2.2 x hx).2
 f:=λf hf=>(hp.2.2.2.2.2 f hf).2
theorem B5{n:ae}(ok:ej n):∃m g,f7 n 1=ς (m,g)/\ltB m 0=η/\gT g 1=ς m:=by
 obtain⟨k1,y1,e1,a1,b1,c1⟩:=ab6 n.fH.bh 1 ok.1 oaa oaa
 obtain⟨k2,y2,e2,a2,b2,c2⟩:=U2 n.aH k1 ok.2.1 oaa oaa
 obtain⟨k3,y3,e3,a3,b3,c3⟩:=QH n.aT k2 ok.2.2.1 oaa oaa
 obtain⟨k4,y4,e4,a4,b4,c4⟩:=QG n.bu k3 ok.2.2.2.1 oaa oaa
 obtain⟨k5,y5,e5,a5,b5,c5⟩:=U3 n.aJ k4 ok.2.2.2.2 oaa oaa
 refine⟨k5,⟨⟨y1⟩,y2,y3,y4,y5,n.dK,n.lA,n.vU,n.my⟩,?_,ltB_f.2 oaa,?_⟩
 .simp only[f7,e1,e2,e3,e4,e5,aeW]
 simp only[gT,xr,c1,c2,c3,c4,c5,ltB_f.2 (show(0:Int)<=k1 by omega),ltB_f.2 (show(0:Int)<=k2 by omega),ltB_f.2 (show(0:Int)<=k3 by omega),ltB_f.2 (show(0:Int)<=k4 by omega),ltB_f.2 (show(0:Int)<=k5 by omega),au]
theorem C6(n:ae)(hp:nZ n)(l:Int)(hd:(Lit.int .i64 l).wf=ζ):tH n l=ς true:=by
 unfold tH
 obtain⟨r1,a1,b1,c1⟩:=zP n 1048576 hp oaa oaa
 rcases c1 with⟨c1,rfl⟩|⟨c1,d1,ok⟩
 .simp[a1,c1]
 have hb:=BY.of hp
 have hw:=Cp ok hb (m:=l)
 obtain⟨k,z1,z2,z3⟩:=Cf n 1 ok oaa oaa
 obtain⟨m,g,x1,x2,x3⟩:=B5 hw
 have hk:ltB k 0=false:=ltB_f.2 oaa
 have hs:xX n l=ς (nI n l):=IM ok hb
 have hi:uQ n l=ς (nI n l):=IL ok hb
 simp[a1,c1,zT _ ok,hs,hi,nY _ hw,nY _ ok,z1,x1,x2,x3,hk]
theorem Es(n:ae)(hp:nZ n):vH n=ς true:=by
 unfold vH
 obtain⟨r1,a1,b1,c1⟩:=zP n 1048576 hp oaa oaa
 rcases c1 with⟨c1,rfl⟩|⟨c1,d1,ok⟩
 .simp[a1,c1]
 have hb:=BY.of hp
 have hw:=Cp ok hb (m:=1)
 obtain⟨k,z1,z2,z3⟩:=Cf n 1 ok oaa oaa
 obtain⟨m,g,x1,x2,x3⟩:=B5 hw
 have hk:ltB k 0=false:=ltB_f.2 oaa
 have hs:MN n=ς (nI n 1):=by simp[MN,IM ok hb]
 have hi:HF n=ς (nI n 1):=by simp[HF,IL ok hb]
 simp[a1,c1,zT _ ok,hs,hi,nY _ hw,nY _ ok,z1,x1,x2,x3,hk]
theorem C7(n:ae)(hp:nZ n):tJ n=ς true:=by
 unfold tJ
 obtain⟨r1,a1,b1,c1⟩:=zP n 1048576 hp oaa oaa
 rcases c1 with⟨c1,rfl⟩|⟨c1,d1,ok⟩
 .simp[a1,c1]
 have hb:=BY.of hp
 have hw:=Cp ok hb (m:=80)
 obtain⟨k,z1,z2,z3⟩:=Cf n 1 ok oaa oaa
 obtain⟨m,g,x1,x2,x3⟩:=B5 hw
 have hk:ltB k 0=false:=ltB_f.2 oaa
 have hs:GG n=ς (nI n 80):=by simp[GG,IM ok hb]
 have hi:CY n=ς (nI n 80):=by simp[CY,IL ok hb]
 simp[a1,c1,zT _ ok,hs,hi,nY _ hw,nY _ ok,z1,x1,x2,x3,hk]
end Go.AM
