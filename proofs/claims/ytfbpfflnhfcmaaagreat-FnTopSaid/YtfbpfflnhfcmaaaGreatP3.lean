/- A part. -/
import Derived.Test.YtfbpfflnhfcmaaaGreatP2
set_option linter.unusedVariables false
set_option linter.unusedSimpArgs false
set_option maxHeartbeats 4000000
open Option renaming some->ς,none->ξ
open Bool renaming true->ζ,false->η
open True renaming intro->θ
open List renaming getElem?_eq_getElem->aa9,mem_append->ab1,mem_append_left->agJ,length_nil->af2,mem_range->af1,mem_map->afk,mem_of_getElem?->abl,eq_nil_of_length_eq_zero->aeG,getElem?_eq_some_iff->abb,range->abm,map_cons->ael,length_append->aeu,length_cons->aee,append_nil->agL,sum_cons->agO,map_nil->aeF
open Int renaming le_refl->agH,le_trans->agI
open Option renaming bind_some->afY
open Bool renaming and_eq_true->v0,false_or->aen,eq_iff_iff->af0,true_and->af6
namespace Go.AM
open Go.Proofs
attribute [local simp] bK bj bB
variable{m:Go.AM.be}{i:Nat}{s:Go.AM.ag}{a:Go.AM.av}{n:Go.AM.ab}{p:Go.AM.cm}{B:Int}
theorem Cc(w:bk)(k:Int):cX w<=cX (kN w k)/\(kN w k).bw=w.bw:=by
 rw[kN]
 cases ltB w.bw k
 .simp only[cond_false,cX]
  grind
 simp_all
theorem ab5{w:bk}(h:WOK w){k:Int}(h1:cX w<k)(h2:k<=w.bw):cX (kN w k)=k-1:=by
 rw[Eg h (ltB_f.2 h2)]
 have hf:=h.f
 simp only[cX,List.length_drop] at h1 ⊢
 omega
def radS(i:Nat)(d:aA)(x:ah):bg:=lj i d.aS (fY d.aZ d.ae d.aK x)
structure MR(i:Nat)(d1:aA)(s1:ag)(S:List ah)(pg:Prop)(d:aA)(s:ag)(F:List bg):Prop where
 cn:zQ d1 d
 ok:∀f∈F,okM f
 rd:∀f∈F,f.cg=ζ->∃x∈S,f=radS i d1 x
 ep:s.aK=d.aK
 nx:s.ax.bw=s1.ax.bw
 got:∀x∈S,BT d.bm x.cH\/radS i d1 x∈F
 mo:∀k,k<=24->BT d1.bm k->BT d.bm k
 ack:((∀x∈S,radS i d1 x∈F)/\∀f∈F,f.dF=ζ->f.aP.bb=5)\/cX s.ax=d.bm.bw-1\/cM i ζ (vH d d.bm)∈F
 am:cX s1.ax<=cX s.ax
 tm:(s.cP=s1.cP/\s.cF=s1.cF/\s.et=s1.et)\/(s.cP=0/\s.cF=0)\/(S≠[]/\s.cP=0/\s.cF=s1.cF/\s.et=s1.et)
 na:S=[]->∀f∈F,f.dF=ζ->f.aP.bb=5
 pd:pg->cM i η (jT d1.aS)∈F\/cM i ζ (eW d1)∈F\/(s.cP=0/\s.cF=0)
theorem JK{d d':aA}(h:zQ d d')(r:a9):vH d' r=vH d r:=by rw[vH,vH,h.ep,h.ce,h.gn,h.rk]
theorem QF{K G:Int}(hK:K<=900000){w:Int}{d1:aA}{s1:ag}{S:List ah}{pg:Prop}{d:aA}{f:bg}{F:List bg}(hup:upF m w d1.aS=ζ)(hS:∀x∈S,1<=x.cH/\x.cH<s1.ax.bw/\x.bh.length<=60/\okB x.bh)(e1:zG K G m.bp.length i d s a (f::F))(e2:zG K G m.bp.length i (dZ (upF m w) i f d s).1 (dZ (upF m w) i f d s).2.1 a (F++(dZ (upF m w) i f d s).2.2))(h:MR i d1 s1 S pg d s (f::F)):
 MR i d1 s1 S pg (dZ (upF m w) i f d s).1 (dZ (upF m w) i f d s).2.1 (F++(dZ (upF m w) i f d s).2.2):=by
 have h2:=h.cn.st
 have hok:=h.ok f (by simp)
 have hF:∀g∈F,okM g:=λg hg=>h.ok g (by simp[hg])
 have hrd:∀g∈F,g.cg=ζ->∃x∈S,g=radS i d1 x:=λg hg=>h.rd g (by simp[hg])
 have old:∀g,g∈f::F->f≠g->g∈F:=λg hg hne=>by
  grind
 have hdp:=nQ.1 e1.mp.dp.rc.v
 have hsl:=e1.mp.sg.sp.sl
 have hsn:=e1.mp.sg.sp.nx
 have hwl:=e1.mp.sg.sp.win.l
 have hak:=e1.si.ak
 have hcn:=e1.li.cn oaa
 have hkey:s.aZ=d.aZ:=by rw[e1.si.sk oaa,e1.si.dk oaa,hcn.2.1]
 have skip:(∀x,f≠radS i d1 x)->f≠cM i ζ (vH d d.bm)->f≠cM i η (jT d1.aS)->f≠cM i ζ (eW d1)->MR i d1 s1 S pg d s (F++[]):=λn1 n2 n3 n4=>by
  rw[agL]
  refine⟨h.cn,hF,hrd,h.ep,h.nx,λx hx=>(h.got x hx).imp_right λq=>old _ q (n1 x),h.mo,?_,h.am,h.tm,λhp g hg hgu=>?_,λhp=>?_⟩
  .rcases h.ack with⟨q1,q2⟩|q|q
   .grind
   .omega
   grind
  .exact h.na hp g (by simp[hg]) hgu
  rcases h.pd hp with q|q|q
  .grind
  .grind
  omega
 have hdc:=h.cn.ce
 have cA:(cM i ζ (vH d d.bm)).aS=d1.aS:=hdc
 have cD:(cM i ζ (eW d1)).aS=d1.aS:=rfl
 rw[dZ] at e2 ⊢
 cases hu:upF m w f.aS
 .simp only[au]
  have hne:∀g:bg,g.aS=d1.aS->f≠g:=λg hg q=>by
   simp_all
  exact skip (λx=>hne _ rfl) (hne _ cA) (hne _ rfl) (hne _ rfl)
 rw[hu] at e2
 simp only[au] at e2 ⊢
 cases hU:f.dF
 .rw[hU] at e2
  simp only[cond_false] at e2 ⊢
  have nup:∀g:bg,g.dF=ζ->f≠g:=λg hg q=>by simp_all
  cases hce:eqB d.aS f.aS
  .simp only[au]
   have hne:∀g:bg,g.aS=d1.aS->f≠g:=λg hg q=>by
    simp_all
   exact skip (λx=>hne _ rfl) (hne _ cA) (hne _ rfl) (hne _ rfl)
  rw[hce] at e2
  simp only[au] at e2 ⊢
  cases hR:f.cg
  .
    rw[hR] at e2
    simp only[cond_false] at e2 ⊢
    have hk:f.aP.bb=6\/f.aP.bb=7:=by
     rcases hok with q|q
     .simp_all
     simp_all
    obtain⟨c1,c2,c3,c4⟩:=JN (m:=f.aP) h2 hk
    have nrad:∀x,f≠radS i d1 x:=λx q=>by rw[q] at hR;cases hR
    have hnew:∀g∈(iU d f.aP).bY.map (cM (i:Int) ζ),g=cM i ζ (eW d1):=λg hg=>by
     obtain⟨x,hx,rfl⟩:=afk.1 hg
     rcases c3 with⟨c3,_⟩|⟨c3,_⟩
     .simp_all
     rw[c3] at hx;simp at hx;subst hx;rw[h.cn.path]
    refine⟨h.cn.trans c1,λg hg=>?_,λg hg hr=>?_,h.ep.trans c1.ep.symm,h.nx,λx hx=>?_,λk hk' hr=>by rw[c2];exact h.mo k hk' hr,?_,h.am,h.tm,λhp g hg hgu=>?_,λhp=>?_⟩
    .rcases ab1.1 hg with hg|hg
     .exact hF g hg
     rw[hnew g hg];exact .inl ⟨rfl,rfl,.inl rfl⟩
    .rcases ab1.1 hg with hg|hg
     .grind
     rw[hnew g hg] at hr;cases hr
    .rw[c2];exact(h.got x hx).imp_right λq=>agJ _ (old _ q (nrad x))
    .rw[c2]
     rcases h.ack with⟨q1,q2⟩|q|q
     .refine .inl ⟨λx hx=>agJ _ (old _ (q1 x hx) (nrad x)),λg hg hgu=>?_⟩
      rcases ab1.1 hg with hg|hg
      .grind
      rw[hnew g hg];rfl
     .omega
     rw[JK c1]
     exact .inr (.inr (agJ _ (old _ q (nup _ rfl))))
    .rcases ab1.1 hg with hg|hg
     .exact h.na hp g (by simp[hg]) hgu
     rw[hnew g hg];rfl
    rcases h.pd hp with q|q|q
    .by_cases hq:f=cM i η (jT d1.aS)
     .right;left
      have hs:f.aP=jT d1.aS:=by rw[hq];rfl
      have hce':=e1.mp.dp.ce
      have:=c4 (by rw[hs];rfl) (by rw[hs];exact TA oaa) (by rw[hs,hdc];rfl)
      rw[this,h.cn.path]
      simp
     grind
    .exact .inr (.inl (agJ _ (old _ q (nup _ rfl))))
    omega
  .
    rw[hR] at e2
    simp only[cond_true] at e2 ⊢
    obtain⟨x0,hx0,hfx⟩:=h.rd f (by simp) hR
    obtain⟨z1,z2,z3,z4⟩:=hS x0 hx0
    have hnxt:=h.nx
    have hopen:mM d.aZ d.ae d.aK f.bV=(x0,ζ):=by
     rw[hfx,show(radS i d1 x0).bV=fY d1.aZ d1.ae d1.aK x0 from rfl,h.cn.rk,h.cn.gn,h.cn.ep]
     exact EF z1 oaa z4 z3 _ _ _
    have hrad:kq d f.bV=⟨{d with bm:=iX d.bm x0},[vH d (iX d.bm x0)]⟩:=by
     simp only[kq,hopen,h2,bj,Bool.and_self,cond_true]
    rw[hrad]
    have h7:x0.cH<=d.bm.bw+7:=by
     simp only[cX] at hak;omega
    obtain⟨t1,t2⟩:=Wm hdp z3 h7 oaa
    have c1:zQ d {d with bm:=iX d.bm x0}:=⟨h2,rfl,rfl,rfl,rfl⟩
    have hgood:∀x∈S,x.cH<=24:=λx hx=>by grind
    simp only[ael,aeF]
    refine⟨h.cn.trans c1,λg hg=>?_,λg hg hr=>?_,h.ep,h.nx,λx hx=>?_,λk hk' hr=>t2 k hk' (h.mo k hk' hr),?_,h.am,h.tm,λhp=>by simp_all,λhp=>?_⟩
    .rcases ab1.1 hg with hg|hg
     .exact hF g hg
     simp at hg;subst hg;exact .inl ⟨rfl,rfl,.inr rfl⟩
    .rcases ab1.1 hg with hg|hg
     .simp_all
     simp at hg;subst hg;cases hr
    .rcases h.got x hx with q|q
     .simp_all
     by_cases hq:f=radS i d1 x
     .left
      have:x=x0:=by
       have e:=EF (x:=x) (hS x hx).1 (by grind) (hS x hx).2.2.2 (hS x hx).2.2.1 d1.aZ d1.ae d1.aK
       rw[show fY d1.aZ d1.ae d1.aK x=f.bV from by rw[hq];rfl,<-h.cn.rk,<-h.cn.gn,<-h.cn.ep,hopen] at e
       exact(Prod.mk.injEq .. ▸e).1.symm
      simp_all
     grind
    .right;right
     rw[JK c1]
     simp_all
    rcases h.pd hp with q|q|q
    .exact .inl (agJ _ (old _ q (λq'=>by rw[q'] at hR;cases hR)))
    .exact .inr (.inl (agJ _ (old _ q (nup _ rfl))))
    omega
 rw[hU] at e2
 simp only[cond_true] at e2 ⊢
 have hk:f.cg=η/\(f.aP.bb=5\/f.aP.bb=8):=by
  rcases hok with q|q
  .exact q.2
  simp_all
 rw[hk.1] at e2 ⊢
 simp only[aen] at e2 ⊢
 have nrad:∀x,f≠radS i d1 x:=λx q=>by rw[q] at hU;cases hU
 have npage:f≠cM i η (jT d1.aS):=λq=>by rw[q] at hU;cases hU
 cases hce:eqB f.aP.aS f.aS
 .simp only[au]
  have hne:∀x:aG,f≠cM i ζ x:=λx q=>by rw[q] at hce;simp[cM] at hce
  simp_all
 rw[hce] at e2
 simp only[au] at e2 ⊢
 have fin:∀(s':ag) (l:List bg),LI K d s'->SI d s' a->s.aK<=s'.aK->s'.ax.bw=s.ax.bw->cX s.ax<=cX s'.ax->(∀g∈l,okM g/\g.cg=η/\g.dF=η)->
  ((s'.cP=s.cP/\s'.cF=s.cF/\s'.et=s.et)\/(s'.cP=0/\s'.cF=0)\/(f.aP.bb=8/\s'.cP=0/\s'.cF=s.cF/\s'.et=s.et))->
  (f.aP.bb=5->cX s'.ax=cX s.ax)->(f=cM i ζ (vH d d.bm)->cX s'.ax=d.bm.bw-1)->(f=cM i ζ (eW d1)->s'.cP=0/\s'.cF=0)->MR i d1 s1 S pg d s' (F++l):=by
  intro s' l hl hsi g1 g2 g3 g4 g5 g6 g7 g8
  have hcn':=hl.cn oaa
  have hak':=hsi.ak
  refine⟨h.cn,λg hg=>?_,λg hg hr=>?_,?_,g2.trans h.nx,λx hx=>(h.got x hx).imp_right λq=>agJ _ (old _ q (nrad x)),h.mo,?_,agI h.am g3,?_,λhp g hg hgu=>?_,λhp=>?_⟩
  .grind
  .grind
  .have:=h.ep;omega
  .rcases h.ack with⟨q1,q2⟩|q|q
   .grind
   .omega
   grind
  .rcases g5 with⟨p1,p2,p3⟩|p|⟨p0,p1,p2,p3⟩
   .rcases h.tm with⟨r1,r2,r3⟩|r|⟨r0,r1,r2,r3⟩
    .simp_all
    .omega
    simp_all
   .omega
   have hne:S≠[]:=λe=>by
    have:=h.na e f (by simp) hU
    omega
   rcases h.tm with⟨r1,r2,r3⟩|r|⟨r0,r1,r2,r3⟩
   .simp_all
   .omega
   simp_all
  .rcases ab1.1 hg with hg|hg
   .exact h.na hp g (by simp[hg]) hgu
   simp_all
  rcases h.pd hp with q|q|q
  .grind
  .grind
  omega
 have hnew:∀g∈(sUp s f.aP).bY.map (cM (i:Int) η),okM g/\g.cg=η/\g.dF=false:=λg hg=>by
  refine⟨T2 hk.2 g hg,?_⟩
  obtain⟨x,_,rfl⟩:=afk.1 hg
  exact⟨rfl,rfl⟩
 have hdp1:eW d1=eW d:=h.cn.path.symm
 refine fin _ _ e2.li e2.si (aay s f.aP) ?_ ?_ hnew ?_ ?_ ?_ ?_
 .
   rw[sUp]
   cases eS f.aP
   .rfl
   simp only[au]
   rcases hk.2 with q|q
   .rw[q,J4,J5,bj]
    simp only[mS,au]
    cases !gx s f.aP||(ltB f.aP.aK s.aK||(eqB f.aP.aK s.aK&&!eqB f.aP.aS s.aS))<;>rfl
   rw[q,NZ,N1,N2,bj]
   simp only[vL,au]
   cases !gx s f.aP||ltB s.ax.bw f.aP.bP
   .exact(Cc s.ax f.aP.bP).2
   rfl
 .rw[sUp]
  cases eS f.aP
  .grind
  simp only[au]
  rcases hk.2 with q|q
  .rw[q,J4,J5,bj]
   simp only[mS,au]
   cases !gx s f.aP||(ltB f.aP.aK s.aK||(eqB f.aP.aK s.aK&&!eqB f.aP.aS s.aS))<;>exact agH _
  rw[q,NZ,N1,N2,bj]
  simp only[vL,au]
  cases !gx s f.aP||ltB s.ax.bw f.aP.bP
  .exact(Cc s.ax f.aP.bP).1
  grind
 .rw[sUp]
  cases eS f.aP
  .grind
  simp only[au]
  rcases hk.2 with q|q
  .rw[q,J4,J5,bj]
   simp only[mS,au]
   cases !gx s f.aP||(ltB f.aP.aK s.aK||(eqB f.aP.aK s.aK&&!eqB f.aP.aS s.aS))
   .exact .inr (.inl ⟨rfl,rfl⟩)
   grind
  rw[q,NZ,N1,N2,bj]
  simp only[vL,au]
  cases !gx s f.aP||ltB s.ax.bw f.aP.bP
  .exact .inr (.inr ⟨by first|exact q|trivial,rt,rt,rt⟩)
  grind
 .intro q
  rw[sUp]
  cases eS f.aP
  .rfl
  simp only[au]
  rw[q,J4,J5,bj]
  simp only[mS,au]
  cases !gx s f.aP||(ltB f.aP.aK s.aK||(eqB f.aP.aK s.aK&&!eqB f.aP.aS s.aS))<;>rfl
 .intro q
  have hs:f.aP=vH d d.bm:=by rw[q];rfl
  have g1:=e1.mp.dp.ce
  have g2:=e1.mp.dp.gn
  have g3:=e1.mp.dp.ep
  have g4:=hdp.n
  have g5:=hdp.l
  have hnx:=e1.si.nx
  have ho:eS (vH d d.bm)=true:=by simp only[eS,vH,lN,v0,bE];omega
  have hkn:gx s (vH d d.bm)=true:=by
   simp only[gx,v0,eqB_t]
   exact⟨hcn.1,hcn.2.1.symm,by rw[hkey,vH];exact vSig_sign _ _⟩
  rw[hs,sUp,ho,show(vH d d.bm).bb=8 from rfl,NZ,N1,N2,bj]
  simp only[vL,hkn,show(vH d d.bm).bP=d.bm.bw from rfl,ltB_f.2 hnx,Bool.or_self,au]
  exact ab5 e1.mp.sg.sp.win hak hnx
 intro q
 have hs:f.aP=eW d:=by rw[q,hdp1];rfl
 rw[hs,TB e1 hK h2]
 exact⟨rfl,rfl⟩
theorem Av{r:Nat}(h:EQ (r+1) n)(hf:n.aH=[]){d:aA}(hd:n.aj[i]?=ς d)(hs:n.an[i]?=ς s)(ha:n.aT[i]?=ς a)(hm':uB d s)(hup:upF n.cp n.bH d.aS=ζ){S:List ah}(hS:(bX s a n.cp).bV=S.map λx=>fY s.aZ s.ae s.aK x)(hSx:∀x∈S,1<=x.cH/\x.cH<(bX s a n.cp).aM.ax.bw/\x.bh.length<=60/\okB x.bh):
 ∃d' s' a',(ei n).aj[i]?=ς d'/\(ei n).an[i]?=ς s'/\(ei n).aT[i]?=ς a'/\IZ n i d s a d' s' a'/\uB d' s'/\
  s'.ax.bw=(bX s a n.cp).aM.ax.bw/\(∀x∈S,BT d'.bm x.cH)/\(∀k,k<=24->BT d.bm k->BT d'.bm k)/\(S≠[]->cX s'.ax=d'.bm.bw-1)/\cX (bX s a n.cp).aM.ax<=cX s'.ax/\
  ((s'.cP=(bX s a n.cp).aM.cP/\s'.cF=(bX s a n.cp).aM.cF/\s'.et=(bX s a n.cp).aM.et)\/(s'.cP=0/\s'.cF=0)\/(S≠[]/\s'.cP=0/\s'.cF=(bX s a n.cp).aM.cF/\s'.et=(bX s a n.cp).aM.et))/\(jT d.aS∈(bX s a n.cp).fj->s'.cP=0/\s'.cF=0):=by
 obtain⟨B,hn,hB⟩:=h.np
 obtain⟨K,hl,hK⟩:=h.ln
 have hm:=hn.m i d s a hd hs ha
 have si:=h.pi.si i d s a hd hs ha
 have h2:=hm'.st
 have hli:=hl.li i d s hd hs
 have hcn:=hli.cn oaa
 have hkey:s.aZ=d.aZ:=by rw[si.sk oaa,si.dk oaa,hcn.2.1]
 have hcell:s.aS=d.aS:=hli.cc h2 hm'.ep
 have hml:=fX hn.map
 have hTK:=mT hm.sg (m:=n.cp) oaa
 obtain⟨d1,hd1⟩:∃d1,d1=(ef d).aY:=⟨_,rfl⟩
 have hc1:zQ d d1/\d1.bm=d.bm/\∀f∈xi i d,f=cM i ζ (eW d):=by
  rw[hd1,xi,ef]
  cases ltB 0 d.dy
  .simp only[cond_false]
   rw[h2,show eqB (2:Int) 1=η from by simp[eqB],bj]
   cases d.bT
   .exact⟨⟨by first|rfl|exact h2,rfl,rfl,rfl,rfl⟩,rfl,λf hf=>by simp_all⟩
   exact⟨⟨by first|rfl|exact h2,rfl,rfl,rfl,rfl⟩,rfl,by simp⟩
  exact⟨⟨by first|rfl|exact h2,rfl,rfl,rfl,rfl⟩,rfl,by simp⟩
 obtain⟨c1,c2,c3⟩:=hc1
 obtain⟨qq,rr,pp,ww,uu,hsame⟩:=yZ s a n.cp
 have hse:(bX s a n.cp).aM.aK=s.aK/\(bX s a n.cp).aM.aS=s.aS:=by rw[hsame];exact⟨rfl,rfl⟩
 have hrad:∀x,lj i (bX s a n.cp).aM.aS (fY s.aZ s.ae s.aK x)=radS i d1 x:=λx=>by
  rw[radS,c1.ce,c1.rk,c1.gn,c1.ep,hse.2,hcell,hkey,hcn.2.1,hm'.ep]
 obtain⟨d',s',a',q1,q2,q3,q4,q5⟩:=xO (P:=MR i d1 (bX s a n.cp).aM S (jT d.aS∈(bX s a n.cp).fj)) h hf hd hs ha
  (λd' s' f F e1 e2 _ hp=>QF oaa (by rw[c1.ce];exact hup) hSx e1 e2 hp)
  (λ_=>by
   rw[<-hd1]
   have hmem:∀x∈S,radS i d1 x∈xi i d++yP i (bX s a n.cp):=λx hx=>by
    rw[<-hrad x,yP,hS]
    grind
   refine⟨.refl c1.st,λf hf=>?_,λf hf hR=>?_,by rw[hse.1,hm'.ep,c1.ep],rfl,λx hx=>.inr (hmem x hx),λk _ hk=>hk,.inl ⟨hmem,λf hf hU=>?_⟩,agH _,.inl ⟨rfl,rfl,rfl⟩,λ_ f hf hU=>?_,λhp=>.inl ?_⟩
   .rcases ab1.1 hf with hf|hf
    .rw[c3 f hf];exact .inl ⟨rfl,rfl,.inl rfl⟩
    exact Oq si hm.sg n.cp i f hf
   .rcases ab1.1 hf with hf|hf
    .rw[c3 f hf] at hR;cases hR
    rcases ab1.1 hf with hf|hf
    .obtain⟨x,hx,rfl⟩:=afk.1 hf;cases hR
    grind
   .rcases ab1.1 hf with hf|hf
    .rw[c3 f hf];rfl
    have:=(rI si hm.sg n.cp i f hf).1
    simp_all
   .rcases ab1.1 hf with hf|hf
    .rw[c3 f hf];rfl
    have:=(rI si hm.sg n.cp i f hf).1
    simp_all
   rw[c1.ce,yP]
   grind)
 refine⟨d',s',a',q1,q2,q3,q5,⟨q4.cn.st,q4.ep⟩,q4.nx,λx hx=>?_,λk hk hr=>q4.mo k hk (by simp_all),λhne=>?_,q4.am,q4.tm,λhp=>?_⟩
 .rcases q4.got x hx with q|q
  .exact q
  simp at q
 .rcases q4.ack with⟨q,_⟩|q|q
  .cases S with
   |nil=>simp_all
   |cons x S=>grind
  .exact q
  simp at q
 rcases q4.pd hp with q|q|q
 .simp at q
 .simp at q
 exact q
structure Ee(d:aA)(s:ag):Prop where
 d:d.bm.bv.length=s.aC.length
 a:cX s.ax=s.aC.length
structure At(R:Nat)(n:ab)(i:Nat)(d0:aA)(s0:ag)(a0:av):Prop where
 q:EQ R n
 f:n.aH=[]
 d:n.aj[i]?=ς d0
 s:n.an[i]?=ς s0
 a:n.aT[i]?=ς a0
 u:upF n.cp n.bH d0.aS=ζ
 c:ea s0.aC s0.aC.length<=rR s0 a0
theorem At.aff{R:Nat}{d:aA}(h:At R n i d s a):Aff s a:=by
 obtain⟨B,hn,hB⟩:=h.q.np
 have hm:=hn.m i d s a h.d h.s h.a
 have si:=h.q.pi.si i d s a h.d h.s h.a
 have ho:=h.q.ra i a h.a
 rw[<-hm.si] at ho
 exact⟨si.ch,h.c,ho,si.wn⟩
theorem At.next{R:Nat}{d:aA}(h:At (R+1) n i d s a){d':aA}{s':ag}{a':av}(hd:(ei n).aj[i]?=ς d')(hs:(ei n).an[i]?=ς s')(ha:(ei n).aT[i]?=ς a')(k:IZ n i d s a d' s' a'):At R (ei n) i d' s' a':=by
 have hr:=h.q.round
 have hk:=yU (n:=n) (by have:=h.q.nw;omega)
 exact⟨hr.1,hr.2,hd,hs,ha,by rw[hk.1,hk.2.1,k.c];exact h.u,by rw[k.u,k.t];exact h.c⟩
def uA(b:Nat)(X:aA->ag->Prop):Prop:=∀(R:Nat) (n:ab) (i:Nat) (d:aA) (s:ag) (a:av),b<=R->At R n i d s a->X d s->
 ∃d' s',(gz R n).aj[i]?=ς d'/\(gz R n).an[i]?=ς s'/\Ee d' s'/\s'.aC=s.aC
theorem uA.step{b:Nat}{X:aA->ag->Prop}(h:∀(R:Nat) (n:ab) (i:Nat) (d:aA) (s:ag) (a:av),b<=R->At (R+1) n i d s a->X d s->
 ∃d' s' a',(ei n).aj[i]?=ς d'/\(ei n).an[i]?=ς s'/\(ei n).aT[i]?=ς a'/\IZ n i d s a d' s' a'/\∃Y,uA b Y/\Y d' s'):uA (b+1) X:=by
 intro R n i d s a hb hat hx
 cases R with
 |zero=>omega
 |succ R=>
  obtain⟨d',s',a',q1,q2,q3,q4,Y,q5,q6⟩:=h R n i d s a oaa hat hx
  obtain⟨x,y,z1,z2,z3,z4⟩:=q5 R (ei n) i d' s' a' oaa (hat.next q1 q2 q3 q4) q6
  exact⟨x,y,z1,z2,z3,z4.trans q4.u⟩
theorem uA.mono{b b':Nat}{X:aA->ag->Prop}(h:uA b X)(hb:b<=b'):uA b' X:=λR n i d s a h1 h2 h3=>h R n i d s a oaa h2 h3
theorem ad2{K G:Int}{nc:Nat}{u:Int->Bool}{f:bg}{d:aA}{F:List bg}(e:zG K G nc i d s a F):cX s.ax<=cX (dZ u i f d s).2.1.ax/\d.bm.bw<=(dZ u i f d s).1.bm.bw:=by
 rw[dZ]
 cases u f.aS
 .simp_all
 simp only[au]
 cases f.dF
 .simp only[cond_false]
  cases eqB d.aS f.aS
  .simp_all
  simp only[au]
  refine⟨agH _,?_⟩
  cases f.cg
  .simp only[cond_false]
   rw[iU]
   cases !eS f.aP||(!eqB f.aP.aS d.aS||eqB d.aX 0)
   .simp only[cond_false]
    cases eqB f.aP.bb 2&&eqB d.aX 1
    .simp only[cond_false]
     cases eqB f.aP.bb 4&&(eqB d.aX 1&&(o7 d.aZ&&(eqB f.aP.ae d.ae&&mr d.aZ f.aP)))
     .simp only[cond_false]
      cases eqB f.aP.bb 6&&(eqB d.aX 2&&(eqB f.aP.ae d.ae&&(eqB f.aP.aK d.aK&&mr d.aZ f.aP)))
      .simp only[cond_false]
       cases eqB f.aP.bb 7&&(eqB d.aX 3&&ltB d.aK 999999)
       .simp only[cond_false]
        cases eqB f.aP.bb 7&&eqB d.aX 2<;>exact agH _
       exact agH _
      simp_all
     simp_all
    simp only[cond_true,zY]
    grind
   simp_all
  simp only[cond_true,kq]
  cases eqB d.aX 2&&(mM d.aZ d.ae d.aK f.bV).2
  .simp_all
  simp only[cond_true]
  have hv:=nQ.1 e.mp.dp.rc.v
  cases hl:xG d.bm (mM d.aZ d.ae d.aK f.bV).1
  .obtain⟨t,dd,_,_,t3,_⟩:=zl hv hl
   omega
  rw[iX,hl];simp_all
 simp only[cond_true]
 cases f.cg||!eqB f.aP.aS f.aS
 .simp only[cond_false]
  refine⟨?_,agH _⟩
  rw[sUp]
  cases eS f.aP
  .simp_all
  simp only[au]
  cases eqB f.aP.bb 1
  .simp only[cond_false]
   cases eqB f.aP.bb 3
   .simp only[cond_false]
    cases eqB f.aP.bb 5
    .simp only[cond_false]
     cases eqB f.aP.bb 8
     .simp_all
     simp only[cond_true,vL]
     cases !gx s f.aP||ltB s.ax.bw f.aP.bP
     .exact(Cc _ _).1
     simp_all
    simp only[cond_true,mS]
    cases !gx s f.aP||(ltB f.aP.aK s.aK||(eqB f.aP.aK s.aK&&!eqB f.aP.aS s.aS))<;>exact agH _
   simp only[cond_true,rf]
   cases leB s.bA 0||(!eqB f.aP.ae s.bA||(!eqB f.aP.bP s.aV.vB||leB 999999 s.aK))<;>exact agH _
  simp only[cond_true,zM]
  grind
 simp_all
theorem Im(g:SG s a)(m:be)(h1:s.aX=1)(hq:ltB 4 (eH s)=η):
 ∃N,(bX s a m).bV=(iG s).1++N.map (λx=>fY s.aZ s.ae s.aK x)/\(bX s a m).aM.ax=⟨s.ax.bw+N.length,s.ax.aJ++N⟩/\(∀(j:Nat) x,N[j]?=ς x->x.cH=s.ax.bw+j/\s.aC[(x.cH-1).toNat]?=ς ⟨x.bh⟩)/\
  (bX s a m).aM.cP=eH s/\(bX s a m).aM.cF=(iG s).2/\(bX s a m).aM.et=s.et/\N.length<=2/\(Aff s a->N.length=2\/((bX s a m).aM.aC.length:Int)<(bX s a m).aM.ax.bw\/8<=(bX s a m).aM.ax.aJ.length):=by
 have hg:=Aa g
 have gu:=g.upd (va g.sp) (vc g.sp)
 obtain⟨N,n1,n2,n3,n4,n5⟩:=Ir 2 {s with cP:=eH s,cF:=(iG s).2,bG:=(eK s a).2} (eK s a).1 [] gu
 obtain⟨w,u,e⟩:=CM 2 {s with cP:=eH s,cF:=(iG s).2,bG:=(eK s a).2} (eK s a).1 []
 have ht:bX s a m=vh s a m:=by rw[bX,h1,bj,hq];rfl
 have hsg:SG (bX s a m).aM (bX s a m).cT:=by rw[ht];exact Ip 2 _ _ [] gu
 rw[ht] at hsg ⊢
 refine⟨N,?_,?_,n4,?_,?_,?_,n3,λf=>?_⟩
 .simp only[vh];rw[n1];rfl
 .simp only[vh];exact n2
 .simp only[vh];rw[e]
 .simp only[vh];rw[e]
 .simp only[vh];rw[e]
 have fa:Aff {s with cP:=eH s,cF:=(iG s).2,bG:=(eK s a).2} (eK s a).1:=by
  refine⟨?_,?_,?_,f.wn⟩
  .simp only;rw[hg.2.2.2.1];exact f.ch
  .have:=f.co
   simp only[rR] at this ⊢
   omega
  simp only;rw[hg.2.2.1];exact JY f.ow
 rcases n5 fa with h|h
 .exact .inl h
 right
 have:=CB hsg.sp h
 simp only[Bool.and_eq_false_iff] at this
 rcases this with h|h
 .simp_all
 have:=ou h;right;omega
theorem V7(h1:s.aX≠1):bX s a m=⟨s,a,[],[]⟩:=by rw[bX,eqB_f.2 h1];rfl
theorem yY(h1:s.aX=1)(hq:ltB 4 (eH s)=ζ):
 (bX s a m).aM.ax=s.ax/\(bX s a m).bV=[]/\(bX s a m).aM.cP=eH s/\(bX s a m).aM.cF=s.cF/\(bX s a m).aM.et=(mX {s.et with fF:=gL m s.aS} m).1/\(bX s a m).fj=(mX {s.et with fF:=gL m s.aS} m).2.map jT:=by
 rw[bX,h1,bj,hq];exact⟨rfl,rfl,rfl,rfl,rfl,rfl⟩
theorem vb(g:SP s):ltB 4 (eH s)=ζ↔xr s=ζ/\4<=s.cP:=by
 have hq:=g.qu
 rw[eH]
 cases xr s
 .simp[ltB]
 simp only[cond_true,jS,true_and]
 rw[ltB_t];omega
theorem nV:xr s=ζ↔s.ax.aJ≠[]:=by
 rw[xr,ltB_t]
 cases s.ax.aJ with
 |nil=>simp
 |cons x l=>simp
theorem OP(g:SG s a)(m:be):cX (bX s a m).aM.ax=cX s.ax:=by
 by_cases h1:s.aX=1
 .cases hq:ltB 4 (eH s)
  .obtain⟨N,_,n2,_⟩:=Im g m h1 hq
   rw[n2];simp only[cX,aeu];omega
  rw[(yY h1 hq).1]
 rw[V7 h1]
theorem UL(d:aA):(ef d).aY.bm=d.bm:=by
 rw[ef]
 grind
theorem Fl:uA 0 Ee:=by
 intro R
 induction R with
 |zero=>intro n i d s a _ hat hx;exact⟨d,s,hat.d,hat.s,hx,rfl⟩
 |succ R ih=>
  intro n i d s a _ hat hx
  obtain⟨B,hn,hB⟩:=hat.q.np
  have hm:=hn.m i d s a hat.d hat.s hat.a
  obtain⟨d',s',a',q1,q2,q3,q4,q5⟩:=xO (P:=λd' s' F=>cX s.ax<=cX s'.ax/\d.bm.bw<=d'.bm.bw) hat.q hat.f hat.d hat.s hat.a
   (λd' s' f F e1 e2 _ hp=>by
    have:=ad2 (u:=upF n.cp n.bH) (f:=f) e1
    omega)
   (λ_=>⟨by rw[OP hm.sg];omega,by rw[UL];omega⟩)
  have hat':=hat.next q1 q2 q3 q5
  obtain⟨B',hn',_⟩:=hat'.q.np
  have hm':=hn'.m i d' s' a' q1 q2 q3
  have si':=hat'.q.pi.si i d' s' a' q1 q2 q3
  have r1:=(nQ.1 hm'.dp.rc.v).n
  have r2:=(nQ.1 hm.dp.rc.v).n
  have l1:=si'.pr.length_le
  have l2:=hm'.sg.sp.nx
  have hu:=q5.u
  have hv:Ee d' s':=⟨by rw[hu] at l1 ⊢;have:=hx.d;omega,by
   have h1:=hx.a
   have h2:cX s'.ax<=s'.ax.bw-1:=by simp only[cX];omega
   grind⟩
  obtain⟨x,y,z1,z2,z3,z4⟩:=ih (ei n) i d' s' a' (Nat.zero_le _) hat' hv
  exact⟨x,y,z1,z2,z3,z4.trans hu⟩
def RY(j:Nat)(d:aA)(s:ag):Prop:=uB d s/\s.ax.aJ=[]/\(s.aC.length:Int)-(s.ax.bw-1)<=2*j
section
variable{R i:Nat}{n:ab}{d:aA}{s:ag}{a:av}
theorem At.mp(h:At R n i d s a):MP n.cp.bp.length i d s a/\SI d s a/\∃K,LI K d s/\K<=900000:=by
 obtain⟨B,hn,hB⟩:=h.q.np
 obtain⟨K,hl,hK⟩:=h.q.ln
 exact⟨hn.m i d s a h.d h.s h.a,h.q.pi.si i d s a h.d h.s h.a,K,hl.li i d s h.d h.s,by omega⟩
theorem At.map(h:At R n i d s a):qU n.cp=true:=by
 obtain⟨B,hn,hB⟩:=h.q.np
 exact hn.map
theorem CN(h:At R n i d s a)(h1:s.aX=1)(hq:ltB 4 (eH s)=η):
 ∃N S,(bX s a n.cp).bV=S.map (λx=>fY s.aZ s.ae s.aK x)/\(S=(if s.ax.aJ≠[]/\s.cF=0 then s.ax.aJ.take 2 else [])++N)/\(∀x∈S,1<=x.cH/\x.cH<(bX s a n.cp).aM.ax.bw/\x.bh.length<=60/\okB x.bh)/\
  (bX s a n.cp).aM.ax=⟨s.ax.bw+N.length,s.ax.aJ++N⟩/\(∀(j:Nat) x,N[j]?=ς x->x.cH=s.ax.bw+j)/\(bX s a n.cp).aM.cP=eH s/\(bX s a n.cp).aM.cF=(iG s).2/\(bX s a n.cp).aM.et=s.et/\
  (N.length=2\/(s.aC.length:Int)<s.ax.bw+N.length\/8<=s.ax.aJ.length+N.length):=by
 obtain⟨hm,si,K,li,hK⟩:=h.mp
 obtain⟨N,n1,n2,n3,n4,n5,n6,n7,n8⟩:=Im hm.sg n.cp h1 hq
 have hsp:=hm.sg.sp
 have hTK:=mT hm.sg (m:=n.cp) (by have:=(fX h.map).2;omega)
 have hsg:=AN hm.sg h.map
 have hret:(iG s).1=(if s.ax.aJ≠[]/\s.cF=0 then s.ax.aJ.take 2 else []).map (λx=>fY s.aZ s.ae s.aK x):=by
  have hrt:=hsp.rt
  rw[iG]
  by_cases hb:s.ax.aJ=[]
  .have:xr s=false:=by
    cases hb':xr s
    .rfl
    exact absurd hb (nV.1 hb')
   simp_all
  rw[nV.2 hb]
  by_cases hr:s.cF=0
  .rw[if_pos ⟨hb,hr⟩,ltB_f.2 (show s.cF<=0 by omega)]
   simp only[Bool.and_false,zv,h1,bj,au]
  rw[if_neg (λq=>hr q.2),ltB_t.2 (show 0<s.cF by omega)];rfl
 refine⟨N,_,by simp_all,rfl,λx hx=>?_,n2,λj x hj=>(n3 j x hj).1,n4,n5,n6,?_⟩
 .have hmem:x∈(bX s a n.cp).aM.ax.aJ:=by
   rw[n2]
   rcases ab1.1 hx with hx|hx
   .grind
   simp_all
  have:=MG hsg.sp.win hmem
  exact⟨this.1,this.2.1,this.2.2.2,hsg.b2 x hmem⟩
 have:=n8 h.aff
 rw[n2,hTK.sub] at this
 simp_all
end
theorem FB{d:aA}(h:s.ax.bw<=d.bm.bw)(ha:cX s.ax=d.bm.bw-1):s.ax.aJ=[]:=by
 simp only[cX] at ha
 exact aeG oaa
theorem Cy:∀j:Nat,uA j (RY j)
 |0=>λR n i d s a hb hat hx=>by
  obtain⟨hm,si,K,li,hK⟩:=hat.mp
  obtain⟨h1,h2,h3⟩:=hx
  have hnx:=hm.sg.sp.nx
  have hak:=si.ak
  have hr:=(nQ.1 hm.dp.rc.v).n
  have hle:=si.pr.length_le
  have ha:cX s.ax=s.ax.bw-1:=by simp only[cX,h2,af2];omega
  exact Fl R n i d s a (Nat.zero_le _) hat ⟨by omega,by omega⟩
 |j+1=>uA.step λR n i d s a hb hat hx=>by
  obtain⟨hm,si,K,li,hK⟩:=hat.mp
  obtain⟨h1,h2,h3⟩:=hx
  have hcn:=li.cn (by have:=h1.st;omega)
  have hnx:=hm.sg.sp.nx
  have hbz:xr s=false:=by
   cases hb':xr s
   .rfl
   exact absurd h2 (nV.1 hb')
  have hq:ltB 4 (eH s)=false:=by
   cases hq':ltB 4 (eH s)
   .rfl
   have:=((vb hm.sg.sp).1 hq').1;simp_all
  obtain⟨N,S,g1,g2,g3,g4,g5,g6,g7,g8,g9⟩:=CN hat hcn.1 hq
  rw[if_neg (λq=>q.1 h2),List.nil_append] at g2
  subst g2
  obtain⟨d',s',a',q1,q2,q3,q4,q5,q6,q7,q8,q9,q10,_⟩:=Av hat.q hat.f hat.d hat.s hat.a h1 hat.u g1 g3
  have hat':=hat.next q1 q2 q3 q4
  obtain⟨hm',si',K',li',hK'⟩:=hat'.mp
  rw[g4] at q6
  simp only at q6
  have hu:=q4.u
  refine⟨d',s',a',q1,q2,q3,q4,RY j,Cy j,q5,?_,?_⟩
  .
    have hr:=(nQ.1 hm'.dp.rc.v)
    have hak:=si.ak
    have ha:cX s.ax=s.ax.bw-1:=by simp only[cX,h2,af2];omega
    have hle:s.ax.bw<=d.bm.bw:=by omega
    have hall:s'.ax.bw<=d'.bm.bw:=by
     refine DF hr λk hk1 hk2=>?_
     have hk24:k<=24:=by have:=hm'.sg.sp.nx;have:=hm'.sg.sp.sl;omega
     by_cases hk:k<s.ax.bw
     .exact q8 k hk24 (.inl oaa)
     obtain⟨x,hx⟩:∃x,S[(k-s.ax.bw).toNat]?=ς x:=⟨_,aa9 oaa⟩
     have:=g5 _ x hx
     have:=q7 x (abl hx)
     rw[show k=x.cH by omega];exact this
    by_cases hN:S=[]
    .have hak':=q10
     rw[g4] at hak'
     have hnx':=q6
     rw[hN] at hak' hnx'
     simp only[agL,af2] at hak' hnx'
     have h6:cX (⟨s.ax.bw+((0:Nat):Int),s.ax.aJ⟩:bk)=s.ax.bw-1:=by
      simp only[cX,h2,af2];omega
     rw[h6] at hak'
     simp only[cX] at hak'
     exact aeG oaa
    exact FB hall (q9 hN)
  grind
def Lost(m:Int)(d:aA)(s:ag):Prop:=∃N0,(∀k,N0<=k->k<s.ax.bw->BT d.bm k)/\N0-1<=cX s.ax+m
def phi(s:ag):Int:=if 4<=s.cP then s.et.dy+1 else if s.cF=0 then 0 else s.cF+5
def R3(j p:Nat)(d:aA)(s:ag):Prop:=uB d s/\Lost (2*j+2) d s/\phi s<=p
theorem JH{R:Nat}{d:aA}(h:At R n i d s a)(hm:uB d s)(h2:s.ax.aJ=[]):RY 12 d s:=by
 obtain⟨hp,si,K,li,hK⟩:=h.mp
 have:=hp.sg.sp.sl
 have:=hp.sg.sp.win.n
 exact⟨hm,h2,by omega⟩
theorem RD(hp:0<=p.dy/\p.dy<=3)(c:Int)(hc:0<=c/\c<m.bp.length)(ha:p.fF=gL m c)(h4:0<=p.dJ/\p.dJ<=4)(hw:p.dy=0):c∈(mX p m).2:=by
 rw[mX,hw,bK]
 simp only[cond_false]
 have hall:c∈M2 m:=afk.2 ⟨c.toNat,af1.2 oaa,by omega⟩
 obtain⟨x,hx⟩:∃x,m.bp[c.toNat]?=ς x:=⟨_,aa9 oaa⟩
 have harea:gL m c=x.fF:=by
  rw[gL,show er m c=ζ from bE.2 oaa,hx];rfl
 have hin:c∈nf m p.fF:=by
  rw[nf]
  refine afk.2 ⟨(x,c.toNat),List.mem_filter.2 ⟨?_,by simp_all⟩,by simp;omega⟩
  rw[List.mem_zipIdx_iff_getElem?];exact hx
 rw[AC]
 cases eqB (bif ltB p.dJ 4 then p.dJ+1 else 1) 1&&ltB 0 (((nf m p.fF).length:Nat):Int)
 .have:inR (bif ltB p.dJ 4 then p.dJ+1 else 1) 1 4=true:=by
   cases hb:ltB p.dJ 4
   .exact bE.2 (by simp_all)
   have:=kO hb;exact bE.2 (by grind)
  simp_all
 exact hin
theorem IM(hw:0<p.dy):mX p m=({p with dy:=p.dy-1},[]):=by rw[mX,ltB_t.2 hw];rfl
theorem Oc{R:Nat}{d:aA}(h:At (R+1) n i d s a)(hM:uB d s){mm:Int}(hL:Lost mm d s)(hb:s.ax.aJ≠[]):
 ∃d' s' a',(ei n).aj[i]?=ς d'/\(ei n).an[i]?=ς s'/\(ei n).aT[i]?=ς a'/\IZ n i d s a d' s' a'/\uB d' s'/\
  (s'.ax.aJ=[]\/(Lost mm d' s'/\phi s'<phi s)\/(phi s=0/\2<mm/\Lost (mm-2) d' s')):=by
 obtain⟨hm,si,K,li,hK⟩:=h.mp
 have hcn:=li.cn (by have:=hM.st;omega)
 have hml:=fX h.map
 have hsp:=hm.sg.sp
 have hpg:=ox hsp.page
 obtain⟨N0,L1,L2,L3⟩:∃N0,(∀k,N0<=k->k<s.ax.bw->BT d.bm k)/\N0-1<=cX s.ax+mm/\N0<=s.ax.bw:=by
  obtain⟨N0,L1,L2⟩:=hL
  by_cases h:N0<=s.ax.bw
  .exact⟨N0,L1,L2,h⟩
  exact⟨s.ax.bw,λk k1 k2=>by omega,by omega,agH _⟩
 have hph:0<=phi s:=by
  have:=hpg.w;have:=hsp.rt
  rw[phi];split
  .omega
  omega
 cases hq:ltB 4 (eH s)
 .
   have hq4:s.cP<4:=by
    by_cases h4:4<=s.cP
    .have:=(vb hsp).2 ⟨nV.2 hb,h4⟩;simp_all
    omega
   obtain⟨N,S,g1,g2,g3,g4,g5,g6,g7,g8,g9⟩:=CN h hcn.1 hq
   obtain⟨d',s',a',q1,q2,q3,q4,q5,q6,q7,q8,q9,q10,tt,_⟩:=Av h.q h.f h.d h.s h.a hM h.u g1 g3
   have hat':=h.next q1 q2 q3 q4
   obtain⟨hm',si',K',li',hK'⟩:=hat'.mp
   have hr':=nQ.1 hm'.dp.rc.v
   rw[g4] at q6 q10
   simp only at q6
   have hak1:cX (⟨s.ax.bw+N.length,s.ax.aJ++N⟩:bk)=cX s.ax:=by simp only[cX,aeu];omega
   rw[hak1] at q10
   have hnew:∀k,N0<=k->k<s'.ax.bw->BT d'.bm k:=λk k1 k2=>by
    have hk24:k<=24:=by have:=hm'.sg.sp.nx;have:=hm'.sg.sp.sl;omega
    by_cases hk:k<s.ax.bw
    .simp_all
    obtain⟨x,hx⟩:∃x,N[(k-s.ax.bw).toNat]?=ς x:=⟨_,aa9 oaa⟩
    grind
   refine⟨d',s',a',q1,q2,q3,q4,q5,?_⟩
   by_cases hr:s.cF=0
   .
     rw[if_pos ⟨hb,hr⟩] at g2
     have hSne:S≠[]:=λe=>by
      simp_all
     have ha':=q9 hSne
     have hp0:phi s=0:=by rw[phi,if_neg oaa,if_pos hr]
     have hwin:=hsp.win
     have first:∀j:Nat,j<2->j<s.ax.aJ.length->BT d'.bm (cX s.ax+1+j):=λj j1 j2=>by
      obtain⟨x,hx⟩:∃x,s.ax.aJ[j]?=ς x:=⟨_,aa9 j2⟩
      have e:=(hwin.u j x hx).1
      have:=q7 x (by
       rw[g2]
       refine agJ _ (abl (i:=j) ?_)
       simp_all)
      rw[show cX s.ax+1+(j:Int)=x.cH by simp only[cX];omega];exact this
     have hak:=si.ak
     have hr:=nQ.1 hm.dp.rc.v
     have low:∀k,1<=k->k<=24->k<=cX s.ax->BT d'.bm k:=λk _ k2 k3=>q8 k k2 (.inl oaa)
     by_cases hall:N0-1<=cX s.ax+2
     .left
      refine FB (d:=d') (DF hr' λk k1 k2=>?_) ha'
      have hk24:k<=24:=by have:=hm'.sg.sp.nx;have:=hm'.sg.sp.sl;omega
      have hk1:1<=k:=by have:=hr'.n;omega
      by_cases hk:N0<=k
      .simp_all
      by_cases hlow:k<=cX s.ax
      .omega
      by_cases hin:k<s.ax.bw
      .have:=first (k-cX s.ax-1).toNat oaa (by simp only[cX] at hlow hin ⊢;omega)
       rw[show cX s.ax+1+((k-cX s.ax-1).toNat:Int)=k by omega] at this
       exact this
      omega
     right;right
     refine⟨hp0,by omega,N0,hnew,?_⟩
     have htwo:cX s.ax+3<=d'.bm.bw\/s'.ax.bw<=d'.bm.bw:=by
      by_cases hlen:2<=s.ax.aJ.length
      .left
       refine DF hr' λk k1 k2=>?_
       have hk1:1<=k:=by have:=hr'.n;omega
       have hnx:=hsp.nx
       have hsl:=hsp.sl
       by_cases hlow:k<=cX s.ax
       .omega
       have:=first (k-cX s.ax-1).toNat oaa oaa
       rw[show cX s.ax+1+((k-cX s.ax-1).toNat:Int)=k by omega] at this
       exact this
      right
      refine DF hr' λk k1 k2=>?_
      have hk24:k<=24:=by have:=hm'.sg.sp.nx;have:=hm'.sg.sp.sl;omega
      have hk1:1<=k:=by have:=hr'.n;omega
      by_cases hlow:k<=cX s.ax
      .omega
      by_cases hin:k<s.ax.bw
      .have:=first (k-cX s.ax-1).toNat (by simp only[cX] at hlow hin ⊢;omega) (by simp only[cX] at hlow hin ⊢;omega)
       rw[show cX s.ax+1+((k-cX s.ax-1).toNat:Int)=k by omega] at this
       exact this
      grind
     omega
   right;left
   have hrt:=hsp.rt
   refine⟨⟨N0,hnew,by omega⟩,?_⟩
   rw[g6,g7,g8] at tt
   have hqv:eH s=s.cP+1:=by
    rw[eH,nV.2 hb];simp only[cond_true,jS];split<;>omega
   have hrv:(iG s).2=s.cF-1:=by rw[iG,nV.2 hb,ltB_t.2 (show 0<s.cF by omega)];rfl
   rw[hqv,hrv] at tt
   have hp':=ox hm'.sg.sp.page
   have hpw:=hp'.w
   have hq':=hm'.sg.sp.qu
   have hps:phi s=s.cF+5:=by rw[phi,if_neg oaa,if_neg hr]
   rw[hps,phi]
   omega
 .
   obtain⟨hbz,h4⟩:=(vb hsp).1 hq
   obtain⟨g1,g2,g3,g4,g5,g6⟩:=yY (a:=a) (m:=n.cp) hcn.1 hq
   obtain⟨d',s',a',q1,q2,q3,q4,q5,q6,q7,q8,q9,q10,tt,t4⟩:=Av (S:=[]) h.q h.f h.d h.s h.a hM h.u (by rw[g2];rfl) (by simp)
   have hat':=h.next q1 q2 q3 q4
   obtain⟨hm',si',K',li',hK'⟩:=hat'.mp
   rw[g1] at q6 q10
   refine⟨d',s',a',q1,q2,q3,q4,q5,.inr (.inl ⟨⟨N0,λk k1 k2=>?_,by omega⟩,?_⟩)⟩
   .have hk24:k<=24:=by have:=hm'.sg.sp.nx;have:=hm'.sg.sp.sl;omega
    simp_all
   have hps:phi s=s.et.dy+1:=by rw[phi,if_pos h4]
   have hcell:s.aS=d.aS:=li.cc hM.st hM.ep
   have hwp:=hpg.w
   by_cases hw:s.et.dy=0
   .have hin:=RD (m:=n.cp) (p:={s.et with fF:=gL n.cp s.aS}) hwp s.aS (by have:=hm.sc;have:=hsp.ce;omega) rfl hpg.a hw
    have:=t4 (by grind)
    rw[hps,phi,if_neg oaa,if_pos this.2];omega
   rw[IM (show 0<({s.et with fF:=gL n.cp s.aS}:cm).dy from by grind)] at g5
   rw[hps,phi]
   rcases tt with⟨t1,t2,t3⟩|⟨t1,t2⟩|⟨t0,_⟩
   .have:=kO hq
    grind
   .omega
   simp_all
theorem ZR(g:SP s):phi s<=8:=by
 have:=(ox g.page).w
 have:=g.rt
 rw[phi];omega
theorem Cz(j p:Nat):uA (9*j+p+13) (R3 j p):=by
 intro R n i d s a hb hat hx
 by_cases hu:s.ax.aJ=[]
 .exact Cy 12 R n i d s a oaa hat (JH hat hx.1 hu)
 refine uA.step (b:=9*j+p+12) (X:=λd s=>R3 j p d s/\s.ax.aJ≠[]) (λR n i d s a hb hat hx=>?_) R n i d s a hb hat ⟨hx,hu⟩
 obtain⟨⟨h1,h2,h3⟩,hu⟩:=hx
 obtain⟨d',s',a',q1,q2,q3,q4,q5,q6⟩:=Oc hat h1 h2 hu
 have hat':=hat.next q1 q2 q3 q4
 obtain⟨hm',_⟩:=hat'.mp
 refine⟨d',s',a',q1,q2,q3,q4,?_⟩
 rcases q6 with q6|⟨q6,q7⟩|⟨q6,q7,q8⟩
 .exact⟨RY 12,(Cy 12).mono oaa,JH hat' q5 q6⟩
 .cases p with
  |zero=>
   have hph:0<=phi s':=by
    have:=(ox hm'.sg.sp.page).w
    have:=hm'.sg.sp.rt
    rw[phi];split
    .omega
    omega
   omega
  |succ p=>exact⟨R3 j p,(Cz j p).mono oaa,q5,q6,by omega⟩
 cases j with
 |zero=>omega
 |succ j=>
  refine⟨R3 j 8,(Cz j 8).mono oaa,q5,?_,?_⟩
  .grind
  have:=ZR hm'.sg.sp
  omega
termination_by (j,p)
theorem yL:uA 48 uB:=λR n i d s a hb hat hx=>by
 obtain⟨hm,si,K,li,hK⟩:=hat.mp
 have hw:=hm.sg.sp.win.l
 have hf:=hm.sg.sp.win.f
 refine Cz 3 8 R n i d s a oaa hat ⟨hx,⟨s.ax.bw,λk k1 k2=>by omega,?_⟩,ZR hm.sg.sp⟩
 simp only[cX];omega
theorem HG(w:Nat)(ih:∀w',w=w'+1->uA (w'+49) (λd _=>d.aX=2/\d.dy<=w')):uA (w+49) (λd _=>d.aX=2/\d.dy<=w):=λR n i d s a hb hat hx=>by
 by_cases hM:s.aK=d.aK
 .exact yL R n i d s a oaa hat ⟨hx.1,hM⟩
 refine uA.step (b:=w+48) (X:=λd s=>(d.aX=2/\d.dy<=w)/\s.aK≠d.aK) (λR n i d s a hb hat hx=>?_) R n i d s a hb hat ⟨hx,hM⟩
 obtain⟨⟨h1,h2⟩,hM⟩:=hx
 obtain⟨d',s',a',q1,q2,q3,q4,q5,q6⟩:=QE hat.q hat.f hat.d hat.s hat.a h1 hM hat.u
 refine⟨d',s',a',q1,q2,q3,q4,?_⟩
 rcases q6 with q6|q6
 .exact⟨uB,yL.mono oaa,q6⟩
 have hat':=hat.next q1 q2 q3 q4
 obtain⟨hm',_⟩:=hat'.mp
 have:=hm'.dp.wt
 by_cases w0:w=0
 .omega
 exact⟨_,(ih (w-1) oaa).mono oaa,q5,by omega⟩
theorem J9:∀w:Nat,uA (w+49) (λd _=>d.aX=2/\d.dy<=w)
 |0=>HG 0 λw' e=>by omega
 |w+1=>HG (w+1) λw' e=>by cases e;exact J9 w
theorem J7(w:Nat)(ih:∀w',w=w'+1->uA (w'+49) (λd _=>d.aX=1/\d.dy<=w')):uA (w+49) (λd _=>d.aX=1/\d.dy<=w):=
 uA.step (b:=w+48) λR n i d s a hb hat hx=>by
  obtain⟨h1,h2⟩:=hx
  obtain⟨hm,_⟩:=hat.mp
  have hwt:=hm.dp.wt
  by_cases hw:d.dy=0
  .obtain⟨d',s',a',q1,q2,q3,q4,q5⟩:=K9 hat.q hat.f hat.d hat.s hat.a h1 hw hat.u
   exact⟨d',s',a',q1,q2,q3,q4,uB,yL.mono oaa,q5⟩
  obtain⟨s',a',q1,q2,q3,q4⟩:=RQ hat.q hat.f hat.d hat.s hat.a h1 oaa
  by_cases w0:w=0
  .omega
  exact⟨_,s',a',q1,q2,q3,q4,_,(ih (w-1) oaa).mono oaa,h1,by grind⟩
theorem N8:∀w:Nat,uA (w+49) (λd _=>d.aX=1/\d.dy<=w)
 |0=>J7 0 λw' e=>by omega
 |w+1=>J7 (w+1) λw' e=>by cases e;exact N8 w
def nu(p:cm):Int:=if p.dJ=0\/p.dJ=4 then p.dy+5 else p.dy+1
def mu(s:ag):Int:=if s.ax.aJ=[] then 14 else if s.cP<4 then(4-s.cP)+9 else nu s.et
theorem nu_in(h:POK p):1<=nu p/\nu p<=8:=by
 have:=h.w
 rw[nu];omega
theorem Zk(g:SP s):1<=mu s/\mu s<=14:=by
 have:=nu_in (ox g.page)
 have:=g.qu
 rw[mu];omega
theorem RB(hp:POK p){c:Int}(hc:0<=c/\c<m.bp.length)(hn:c∉(mX p m).2):nu (mX p m).1<nu p:=by
 have h1:=hp.a
 have h2:=hp.w
 by_cases hw:p.dy=0
 .rw[mX,hw,bK] at hn ⊢
  simp only[cond_false] at hn ⊢
  have hall:c∈M2 m:=afk.2 ⟨c.toNat,af1.2 oaa,by omega⟩
  obtain⟨t,ht⟩:∃t,t=(bif ltB p.dJ 4 then p.dJ+1 else 1):=⟨_,rfl⟩
  rw[<-ht] at hn ⊢
  have htv:(p.dJ<4/\t=p.dJ+1)\/(p.dJ=4/\t=1):=by
   cases hb:ltB p.dJ 4
   .rw[hb] at ht;have:=ou hb;grind
   simp_all
  have t1:t=1:=by
   cases hb:eqB t 1
   .rw[AC,hb,bE.2 (show 1<=t/\t<=4 by omega)] at hn
    simp_all
   exact gj hb
  simp only[nu]
  omega
 rw[IM oaa]
 simp only[nu]
 omega
theorem J8:∀k:Nat,uA (k+48) (λd s=>d.aX=3/\mu s<=k)
 |0=>λR n i d s a hb hat hx=>by
  obtain⟨hm,_⟩:=hat.mp
  have:=Zk hm.sg.sp
  omega
 |k+1=>λR n i d s a hb hat hx=>by
  by_cases hv:Ee d s
  .exact Fl R n i d s a (Nat.zero_le _) hat hv
  refine uA.step (b:=k+48) (X:=λd s=>(d.aX=3/\mu s<=(k+1:Nat))/\¬Ee d s) (λR n i d s a hb hat hx=>?_) R n i d s a oaa hat ⟨hx,hv⟩
  obtain⟨⟨h3,hmu⟩,hv⟩:=hx
  obtain⟨hm,si,K,li,hK⟩:=hat.mp
  have hsp:=hm.sg.sp
  have hcn:=li.cn oaa
  obtain⟨d',s',a',q1,q2,q3,q4,q5⟩:=Qx hat.q hat.f hat.d hat.s hat.a h3 hat.u
  refine⟨d',s',a',q1,q2,q3,q4,?_⟩
  rcases q5 with q5|⟨q5,q6,q7,q8⟩
  .exact⟨uB,yL.mono oaa,q5⟩
  refine⟨_,J8 k,q5,?_⟩
  have hat':=hat.next q1 q2 q3 q4
  obtain⟨hm',_⟩:=hat'.mp
  have hmu':=Zk hm'.sg.sp
  have hpg:=ox hsp.page
  cases hq:ltB 4 (eH s)
  .obtain⟨N,S,g1,g2,g3,g4,g5,g6,g7,g8,g9⟩:=CN hat hcn.1 hq
   rw[<-q7] at g4 g6 g8
   by_cases hu:s.ax.aJ=[]
   .have hN:N≠[]:=λe=>by
     apply hv
     rw[e,hu] at g9
     simp only[af2] at g9
     have hnx:=hsp.nx
     have hr:=(nQ.1 hm.dp.rc.v).n
     have hak:=si.ak
     have hle:=si.pr.length_le
     have ha:cX s.ax=s.ax.bw-1:=by simp only[cX,hu,af2];omega
     exact⟨by omega,by omega⟩
    have hqz:eH s=0:=by
     rw[eH]
     cases hb':xr s
     .rfl
     exact absurd hu (nV.1 hb')
    have e1:mu s=14:=by rw[mu,if_pos hu]
    have e2:mu s'=13:=by
     rw[mu,if_neg (by simp_all),g6,hqz,if_pos oaa];omega
    omega
   have hq4:s.cP<4:=by
    by_cases h4:4<=s.cP
    .have:=(vb hsp).2 ⟨nV.2 hu,h4⟩;simp_all
    omega
   have hqv:eH s=s.cP+1:=by
    rw[eH,nV.2 hu];simp only[cond_true,jS];split<;>omega
   have hqu:=hsp.qu
   have e1:mu s=(4-s.cP)+9:=by rw[mu,if_neg hu,if_pos hq4]
   have hnn:=nu_in (ox hm'.sg.sp.page)
   have e2:mu s'<mu s:=by
    rw[e1,mu,if_neg (by simp_all),g6,hqv]
    split<;>omega
   omega
  obtain⟨hbz,h4⟩:=(vb hsp).1 hq
  have hu:=nV.1 hbz
  obtain⟨g1,g2,g3,g4,g5,g6⟩:=yY (a:=a) (m:=n.cp) hcn.1 hq
  rw[<-q7] at g1 g3 g5
  rw[g6] at q8
  have hmiss:d.aS∉(mX {s.et with fF:=gL n.cp s.aS} n.cp).2:=λhin=>q8 (afk.2 ⟨_,hin,rfl⟩)
  have hce:=hm.dp.ce
  obtain⟨v,hv⟩:∃v,v=nu s'.et:=⟨_,rfl⟩
  have hlt:v<nu s.et:=by
   rw[hv,g5];exact RB (p:={s.et with fF:=gL n.cp s.aS}) ⟨hpg.a,hpg.w⟩ ⟨hce.1,hm.dc⟩ hmiss
  have e1:mu s=nu s.et:=by rw[mu,if_neg hu,if_neg oaa]
  have hq5:=kO hq
  have e2:mu s'=nu s'.et:=by rw[mu,if_neg (by simp_all),if_neg oaa]
  omega
theorem Zb:uA 62 (λd _=>d.aX≠0):=λR n i d s a hb hat hx=>by
 obtain⟨hm,_⟩:=hat.mp
 have hst:=hm.dp.st
 have hwt:=hm.dp.wt
 have hmu:=Zk hm.sg.sp
 by_cases h1:d.aX=1
 .exact N8 3 R n i d s a oaa hat ⟨h1,by omega⟩
 by_cases h2:d.aX=2
 .exact J9 3 R n i d s a oaa hat ⟨h2,by omega⟩
 exact J8 14 R n i d s a oaa hat ⟨by omega,by omega⟩
theorem KJ:∀(c i:Nat) {n:ab},i+c=n.aj.length->
 (∀(j:Nat) d,n.aj[j]?=ς d->(em c i n).aj[j]?=ς (if i<=j then(ef d).aY else d))/\(em c i n).an=n.an/\(em c i n).aT=n.aT/\(em c i n).cp=n.cp
 |0,i,n,h=>by
  have e0:em 0 i n=n:=by simp only[em]
  grind
 |c+1,i,n,h=>by
  obtain⟨d,hd⟩:∃d,n.aj[i]?=ς d:=⟨_,aa9 oaa⟩
  have hk:=dv ((ef d).bY.map (cM i ζ)) {n with aj:=n.aj.set i (ef d).aY}
  have hdl:(dY n i (ef d)).aj=n.aj.set i (ef d).aY:=hk.1
  obtain⟨i1,i5,i6,i7⟩:=KJ c (i+1) (n:=dY n i (ef d)) (by grind)
  have e:em (c+1) i n=em c (i+1) (dY n i (ef d)):=by rw[em,hd]
  rw[e]
  refine⟨λj x hx=>?_,i5.trans hk.2.1,i6.trans hk.2.2.1,i7.trans hk.2.2.2.1⟩
  grind
theorem KL:∀(c i:Nat) {n:ab},i+c=n.an.length->n.aT.length=n.an.length->
 (∀(j:Nat) s a,n.an[j]?=ς s->n.aT[j]?=ς a->(fC c i n).an[j]?=ς (if i<=j then(bX s a n.cp).aM else s)/\(fC c i n).aT[j]?=ς (if i<=j then(bX s a n.cp).cT else a))/\(fC c i n).aj=n.aj
 |0,i,n,h,ha=>by
  have e0:fC 0 i n=n:=by simp only[fC]
  grind
 |c+1,i,n,h,hal=>by
  obtain⟨s,hs⟩:∃s,n.an[i]?=ς s:=⟨_,aa9 oaa⟩
  obtain⟨a,ha⟩:∃a,n.aT[i]?=ς a:=⟨_,aa9 oaa⟩
  obtain⟨t,ht⟩:∃t,t=bX s a n.cp:=⟨_,rfl⟩
  have hk1:=dv (t.fj.map (cM i η)) {n with an:=n.an.set i t.aM,aT:=n.aT.set i t.cT}
  have hk2:=dv (t.bV.map (lj i t.aM.aS)) (sends {n with an:=n.an.set i t.aM,aT:=n.aT.set i t.cT} (t.fj.map (cM i η)))
  have hse:(gk n i t).an=n.an.set i t.aM:=by rw[gk,hk2.2.1,hk1.2.1]
  have hac:(gk n i t).aT=n.aT.set i t.cT:=by rw[gk,hk2.2.2.1,hk1.2.2.1]
  have hmp:(gk n i t).cp=n.cp:=by rw[gk,hk2.2.2.2.1,hk1.2.2.2.1]
  obtain⟨i1,i5⟩:=KL c (i+1) (n:=gk n i t) (by grind) (by simp_all)
  have e:fC (c+1) i n=fC c (i+1) (gk n i t):=by simp only[fC,hs,ha,<-ht]
  rw[hmp] at i1
  rw[e]
  refine⟨λj x y hx hy=>?_,i5.trans (by rw[gk,hk2.1,hk1.1])⟩
  by_cases q:i=j
  .grind
  have:=i1 j x y (by simp_all) (by simp_all)
  rw[this.1,this.2]
  by_cases w:i<=j
  .simp only[if_pos (show i+1<=j by omega),if_pos w];simp_all
  grind
theorem aaX(hn:NP B n)(hw:n.iS<100000){d:aA}(hd:n.aj[i]?=ς d)(hs:n.an[i]?=ς s)(ha:n.aT[i]?=ς a):
 (jp n).2.aj[i]?=ς (ef d).aY/\(jp n).2.an[i]?=ς (bX s a n.cp).aM/\(jp n).2.aT[i]?=ς (bX s a n.cp).cT:=by
 have hls:=hn.ls
 have hla:=hn.la
 obtain⟨n1,e1⟩:∃n1,n1=em n.aj.length 0 {n with iS:=n.iS+1}:=⟨_,rfl⟩
 have e:(jp n).2=fC n1.an.length 0 n1:=by rw[jp,leB_f.2 hw,e1];rfl
 have h1:=KJ n.aj.length 0 (n:={n with iS:=n.iS+1}) (by simp)
 rw[<-e1] at h1
 obtain⟨p1,p5,p6,p7⟩:=h1
 simp only at p5 p6 p7
 have h2:=KL n1.an.length 0 (n:=n1) (by simp) (by simp_all)
 simp_all
theorem ad1{u:Int->Bool}{f:bg}{d:aA}(h:d.aX≠0):(dZ u i f d s).1.aX≠0:=by
 rw[dZ]
 cases u f.aS
 .exact h
 simp only[au]
 cases f.dF
 .simp only[cond_false]
  cases eqB d.aS f.aS
  .exact h
  simp only[au]
  cases f.cg
  .simp only[cond_false]
   rw[iU]
   cases !eS f.aP||(!eqB f.aP.aS d.aS||eqB d.aX 0)
   .simp only[cond_false]
    cases eqB f.aP.bb 2&&eqB d.aX 1
    .simp only[cond_false]
     cases eqB f.aP.bb 4&&(eqB d.aX 1&&(o7 d.aZ&&(eqB f.aP.ae d.ae&&mr d.aZ f.aP)))
     .simp only[cond_false]
      cases eqB f.aP.bb 6&&(eqB d.aX 2&&(eqB f.aP.ae d.ae&&(eqB f.aP.aK d.aK&&mr d.aZ f.aP)))
      .simp only[cond_false]
       cases eqB f.aP.bb 7&&(eqB d.aX 3&&ltB d.aK 999999)
       .simp only[cond_false]
        cases eqB f.aP.bb 7&&eqB d.aX 2<;>exact h
       simp[lA]
      exact h
     simp
    simp only[cond_true,zY]
    grind
   exact h
  simp only[cond_true,kq]
  grind
 grind
theorem Nr(d:aA):(ef d).aY.aX=d.aX:=by
 rw[ef]
 grind
theorem VR{r:Nat}(h:EQ (r+1) n){d:aA}(hd:n.aj[i]?=ς d)(hs:n.an[i]?=ς s)(ha:n.aT[i]?=ς a):
 ∃d' s' a',(ei n).aj[i]?=ς d'/\(ei n).an[i]?=ς s'/\(ei n).aT[i]?=ς a'/\IZ n i d s a d' s' a'/\(d.aX≠0->d'.aX≠0):=by
 obtain⟨B,hn,hB⟩:=h.np
 obtain⟨K,hl,hK⟩:=h.ln
 obtain⟨G,hg,hG⟩:=h.gb
 have hw:=h.nw
 have hm:=hn.m i d s a hd hs ha
 have ho:=h.ra i a ha
 rw[<-hm.si] at ho
 have ht:=(ER hm.sg n.cp ho).1
 have hk:=mT hm.sg (m:=n.cp) (by have:=(fX hn.map).2;omega)
 have t1:=(ux hn oaa).2.2
 have t2:=ME hn oaa h.pi
 have t3:=MD oaa hn oaa h.pi hl
 have t4:=(D5 hg).up (G':=900) oaa
 have td:=aaX hn oaa hd hs ha
 have tk:=E7 (n:=n) oaa
 obtain⟨d',s',q1,q2,q3,q4,_⟩:=solo (P:=λd' s' _=>KP (ef d).aY (bX s a n.cp).aM d' s'/\(d.aX≠0->d'.aX≠0)) (KK:=900000) (G:=900)
  (λd' s' f F e1 e2 hp=>⟨T9 hp.1,λq=>ad1 (hp.2 q)⟩) 4000 t1 oaa t2 t3 oaa t4 tk.1 tk.2.1 td.2.2 td.1 td.2.1 ⟨KP.refl _ _,λq=>by rw[Nr];exact q⟩
 refine⟨d',s',_,q1,q2,q3,⟨q4.1.c.trans (GU d),q4.1.u.trans hk.sub,?_⟩,q4.2⟩
 rw[<-ht,rR,rR,q4.1.g]
theorem B9(h:EQ 80 n){d:aA}(hd:n.aj[i]?=ς d)(hs:n.an[i]?=ς s)(ha:n.aT[i]?=ς a)(h0:d.aX≠0)(hu:upF n.cp n.bH d.aS=ζ)(hc:ea s.aC s.aC.length<=rR s a):
 ∃d' s',(gz 80 n).aj[i]?=ς d'/\(gz 80 n).an[i]?=ς s'/\Ee d' s'/\s'.aC=s.aC:=by
 obtain⟨d',s',a',q1,q2,q3,q4,q5⟩:=VR (r:=79) h hd hs ha
 have hr:=h.round (r:=79)
 have hk:=yU (n:=n) (by have:=h.nw;omega)
 obtain⟨x,y,z1,z2,z3,z4⟩:=Zb 79 (ei n) i d' s' a' oaa ⟨hr.1,hr.2,q1,q2,q3,by rw[hk.1,hk.2.1,q4.c];exact hu,by rw[q4.u,q4.t];exact hc⟩ (q5 h0)
 exact⟨x,y,z1,z2,z3,z4.trans q4.u⟩
theorem EQ.rounds:∀(c:Nat) {r:Nat} {n:ab},EQ (r+c) n->EQ r (gz c n)
 |0,r,n,h=>h
 |c+1,r,n,h=>EQ.rounds c (h.round (r:=r+c)).1
theorem CG:∀(c:Nat) {r:Nat} {n:ab},EQ (r+c) n->(gz c n).aj.length=n.aj.length
 |0,r,n,h=>rfl
 |c+1,r,n,h=>by
  rw[gz,CG c (h.round (r:=r+c)).1]
  exact(yU (n:=n) (by have:=h.nw;omega)).2.2.2
theorem DJ:∀(c:Nat) {r:Nat} {n:ab},EQ (r+(c+1)) n->(gz (c+1) n).aH=[]
 |0,r,n,h=>(h.round (r:=r)).2
 |c+1,r,n,h=>by rw[gz];exact DJ c (h.round (r:=r+(c+1))).1
theorem HW(n:ab)(i:Nat)(r:bi):(dY n i r).iS=n.iS:=(jt n i r).2.2.2.2
theorem Uy(e:cU)(h:n.iS<=99999):(gO n e).2.iS<=n.iS+1:=by
 rw[gO]
 split
 .rw[(E7 (n:=n) oaa).2.2.1];omega
 split
 .rw[qj]
  cases inR e.cq 0 ((n.aH.length:Int)-1)
  .grind
  simp only[au]
  cases eqB e.bb 2
  .simp only[cond_false]
   cases eqB e.bb 3
   .simp only[cond_false]
    cases leB 200 (n.aH.length:Int)
    .simp only[cond_false]
     cases n.aH[e.cq.toNat]? with
     |none=>grind
     |some f=>simp only;rw[(ie n f).2.2.2.2.2.2];omega
    grind
   simp only[cond_true,Jl,ez];omega
  simp only[cond_true];rw[(C9 n _).2.2.1];omega
 split
 .rw[BS]
  cases inR e.cq 0 ((n.aj.length:Int)-1)
  .grind
  simp only[au]
  cases n.aj[e.cq.toNat]? with
  |none=>grind
  |some d=>cases n.an[e.cq.toNat]? with
   |none=>grind
   |some s=>
    simp only
    cases eqB e.bb 5
    .simp only[cond_false]
     cases eqB e.bb 6
     .grind
     simp only[cond_true]
     cases eqB e.aS d.aS||!er n.cp e.aS
     .simp only[cond_false];rw[HW];omega
     grind
    simp only[cond_true]
    cases eqB d.aX 0
    .grind
    simp only[au];rw[HW];omega
 split
 .rw[mL];grind
 split
 .rw[kv];grind
 split
 .rw[uY];cases zE n e.b8
  .grind
  simp only[au];rw[(ie n _).2.2.2.2.2.2];omega
 grind
theorem Reach.now:∀{k:Nat} {n:ab},Reach k n->k<=90000->n.iS<=k
 |_,_,.new h hm hp hl hq,_=>by simp[iz]
 |_,_,.step (k:=k) (e:=e) h he hh,hk=>by
  have h1:=h.now oaa
  have:=Uy e (agI h1 (show(_:Int)<=(99999:Int) by omega))
  omega
theorem Reach.eq{k:Nat}(h:Reach k n)(hk:k<=500){r:Nat}(hr:r<=200):EQ r n:=by
 have h1:=h.now oaa
 exact⟨⟨_,h.np oaa,by omega⟩,h.pi oaa,⟨_,h.ln oaa,by omega⟩,⟨_,h.gb oaa,by omega⟩,h.ra oaa,by omega⟩
theorem ND:∀(xs:List bI) (v:Int),0<=v->v+60*xs.length<=1000000->(∀p∈xs,p.bh.length<=60)->kW (λ(v:Int) (x:bI)=>ς (cj.next (WR (v+(x.bh.length:Int))))) ς xs v=ς (v+(xs.map λp=>(p.bh.length:Int)).sum)
 |[],v,_,_,_=>by simp[kW]
 |x::xs,v,h1,h2,h3=>by
  have hx:=h3 x (by simp)
  simp only[aee] at h2
  rw[kW]
  simp only[bN (n:=v+(x.bh.length:Int)) oaa]
  rw[ND xs _ oaa oaa (λp hp=>h3 p (by simp[hp]))]
  simp only[ael,agO];congr 1;omega
theorem El:∀{l:List bI} (k:Nat),(∀p∈l,p.bh.length<=60)->ea l k<=60*(l.length:Int)
 |[],k,_=>by simp[ea]
 |p::l,0,_=>by simp only[ea,List.take_zero,aeF,List.sum_nil];omega
 |p::l,k+1,h=>by
  have h1:=El (l:=l) k (λq hq=>h q (by simp[hq]))
  have h2:=h p (by simp)
  simp only[ea] at h1 ⊢
  rw[List.take_succ_cons,ael,agO,aee];omega
theorem ace(h:SP s)(k:Int):sr s k=ς (ea s.aC k.toNat):=by
 have hl:=h.sl
 obtain⟨m,hm,hm2,hm3⟩:∃m:Nat,m=min k.toNat s.aC.length/\m<=s.aC.length/\s.aC.take m=s.aC.take k.toNat:=
  ⟨_,rfl,Nat.min_le_right _ _,by rw[List.take_eq_take_min (i:=k.toNat)]⟩
 have hlt:(s.aC.take m).length=m:=by simp;omega
 have hspec:=eR (step:=jk s k) (s.aC.take m) (λj (v:Int)=>(v,(j:Int))) (λv x=>ς (.next (WR (v+(x.bh.length:Int))))) ς oaa
  (λj x v hx hj=>by
   rw[hlt] at hj
   have hx':s.aC[j]?=ς x:=by rw[List.getElem?_take,if_pos hj] at hx;exact hx
   have h1:ltB (j:Int) k=true:=ltB_t.2 oaa
   have h2:ltB (j:Int) (s.aC.length:Int)=true:=cy oaa
   simp[jk,h1,h2,hx',WRs (k:=j)]) (λv=>by
   rw[hlt]
   have:ltB (m:Int) (s.aC.length:Int)=η\/ltB (m:Int) k=false:=by
    simp only[ltB_f];omega
   rcases this with h1|h1
   .simp[jk,h1]
   simp only[jk,h1];cases ltB (m:Int) (s.aC.length:Int)<;>rfl) 0
 simp only[sr]
 rw[show iter (jk s k) FU (0,0)=_ from hspec,ND _ _ oaa (by simp;omega) (λp hp=>h.sd p (List.mem_of_mem_take hp))]
 simp only[afY,ea,hm3];congr 1;omega
section
variable{B:Int}{n:ab}(h:NP B n){i:Nat}{d:aA}{s:ag}{a:av}(hd:n.aj[i]?=ς d)(hs:n.an[i]?=ς s)(ha:n.aT[i]?=ς a)
include h hd
theorem hasA:ta n (i:Int)=ς true:=by
 have h1:=h.ls
 have h2:=h.la
 have h3:=h.ld
 have hi:=(abb.1 hd).1
 simp only[ta,h1,h2,Zh,fQ,afY,bN (n:=(n.aj.length:Int)-1) oaa,bE.2 (show(0:Int)<=(i:Int)/\(i:Int)<=(n.aj.length:Int)-1 by omega)]
include hs ha
theorem UE:sv n (i:Int)=ς (a.d9+s.bG.d6):=by
 have e2:=hasA h hd
 have hm:=h.m i d s a hd hs ha
 have q1:=hm.sg.mo.acc.s
 have q2:=hm.sg.mo.acc.t
 have q3:=hm.sg.sp.q
 have q4:=q3.u
 have q5:=q3.g
 have q6:=q3.m
 simp only[sv,e2,bB,ha,hs,bN (n:=a.d9+s.bG.d6) oaa,au]
end
theorem MZ(h:NP B n){d:aA}(hd:n.aj[i]?=ς d)(hs:n.an[i]?=ς s)(ha:n.aT[i]?=ς a):rK n (i:Int)=ς (leB (ea s.aC s.aC.length) (rR s a)):=by
 have hm:=h.m i d s a hd hs ha
 have q1:=hm.sg.mo.acc.s
 have q2:=hm.sg.mo.acc.t
 have q0:=hm.sg.mo.acc.v
 have q3:=hm.sg.sp.q
 have q4:=q3.u
 have q5:=q3.g
 have q6:=q3.m
 have hb:=JE s.aC s.aC.length
 have hb2:=El s.aC.length hm.sg.sp.sd
 have hsl:=hm.sg.sp.sl
 have e2:=hasA h hd
 simp only[rK,e2,bB,hs,ha,ace hm.sg.sp,UE h hd hs ha,aab,Br q3,Int.toNat_natCast,bN (n:=ea s.aC s.aC.length-(a.d9+s.bG.d6)) oaa,bN (n:=a.bL+(s.bG.cG-s.bG.d6)) oaa,au]
 congr 1
 rw[af0,leB_t,leB_t,rR];omega
theorem Xr(h:NP B n){d:aA}(hd:n.aj[i]?=ς d)(hs:n.an[i]?=ς s)(ha:n.aT[i]?=ς a):yy n (i:Int)=ς (leB (ea s.aC s.aC.length) (rR s a)):=by
 have hm:=h.m i d s a hd hs ha
 have q1:=hm.sg.mo.acc.s
 have q2:=hm.sg.mo.acc.t
 have q0:=hm.sg.mo.acc.v
 have q3:=hm.sg.sp.q
 have q4:=q3.u
 have q5:=q3.g
 have q6:=q3.m
 have hb:=JE s.aC s.aC.length
 have hb2:=El s.aC.length hm.sg.sp.sd
 have hsl:=hm.sg.sp.sl
 obtain⟨e1,e2⟩:=Qo h hd
 have hp:=HT s.aC.length 0 FU s.aC 0 oaa oaa (by have:=gH;omega) oaa oaa hm.sg.sp.sd
 have hpb:lR s.aC=ς (ea s.aC s.aC.length):=by
  rw[lR,show iter (jj s.aC) FU (0,0)=_ from hp]
  simp only[afY,List.drop_zero,ea,List.take_length];congr 1;omega
 simp only[yy,e2,bB,hs,ha,hpb,JG h hd hs ha,aaa,Br q3,bN (n:=ea s.aC s.aC.length-(a.d9+s.bG.d6)) oaa,bN (n:=a.bL+(s.bG.cG-s.bG.d6)) oaa,au]
 congr 1
 rw[af0,leB_t,leB_t,rR];omega
theorem Z1(h:NP B n){d:aA}(hd:n.aj[i]?=ς d):tJ n (i:Int)=ς (!eqB d.aX 0&&oo n d.aS)/\qp n (i:Int)=ς (!eqB d.aX 0&&oo n d.aS):=by
 have hl:=h.ld
 have hi:=(abb.1 hd).1
 have hm:=fX h.map
 simp only[tJ,qp,gE,fQ,bN (n:=(n.aj.length:Int)-1) oaa,bE.2 (show(0:Int)<=(i:Int)/\(i:Int)<=(n.aj.length:Int)-1 by omega),bB,hd,QB hm,QC hm,au]
 grind
theorem Jk(xs:List Int)(hp:preL xJ xs):Cw xs=ς true:=by
 simp only[Cw,Y8,afY]
 cases hb:ltB 1048576 (xs.length:Int) with
 |true=>rfl
 |false=>
  have hl:=ou hb
  obtain⟨n,hd,hg⟩:=(ML (xs:=xs) oaa hp.2).ex
  obtain⟨B,hn,hB⟩:=hg.np
  obtain⟨k,hr,hk⟩:=hg.re
  have hq:EQ 80 n:=hr.eq oaa oaa
  obtain⟨Bz,hnz,hBz⟩:=(EQ.rounds 80 (r:=0) hq).np
  have hpz:=(EQ.rounds 80 (r:=0) hq).pi
  have hlz:(gz 80 n).aj.length=n.aj.length:=CG 80 (r:=0) hq
  have hqz:(gz 80 n).aH=[]:=DJ 79 (r:=0) hq
  have e80:Bk n 80=ς (gz 80 n):=OJ hn (m:=80) oaa oaa
  have hld:=hn.ld
  simp only[hd,Dm,e80,hlz,bj,Gz hnz hpz,yC,hqz,af2,eqB_t.2 (show((0:Nat):Int)=0 from rfl),au]
  refine Do n.aj ζ oaa (λi d hdi hi=>?_) (by simp only[xf,bK,cond_false])
  obtain⟨d',s,a,e1,e2,e3,hm⟩:=hn.at_ hi
  rw[hdi] at e1;cases e1
  obtain⟨r1,r2⟩:=Z1 hn hdi
  simp only[xf,cy hi,r1,r2,Xr hn hdi e2 e3,MZ hn hdi e2 e3,UC,WRs (k:=i),au]
  cases h1:!eqB d.aX 0&&oo n d.aS
  .rfl
  cases hc:leB (ea s.aC s.aC.length) (rR s a)
  .rfl
  rw[v0] at h1
  have hc:=vK hc
  have h0:d.aX≠0:=Jc (by simp_all)
  obtain⟨d3,s3,g1,g2,g3,g4⟩:=B9 hq hdi e2 e3 h0 h1.2 hc
  obtain⟨a3,g5⟩:∃a3,(gz 80 n).aT[i]?=ς a3:=⟨_,aa9 (by rw[hnz.la,hlz];exact hi)⟩
  have hsv:ro (gz 80 n) (i:Int)=ς true:=by
   simp only[ro,(Qo hnz g1).1,bB,g1,g2,g3.d,bj,FW hnz g1 g2 g5,g3.a,au]
  simp_all
theorem Pt{xs:List Int}(hl:xs.length<=1048576)(hu:∀x∈xs,xJ x):Wp (wm xs) (λr=>Ut r.1/\r.2.length<=160/\∀e∈r.2,EP e):=by
 unfold wm
 obtain⟨c,e,hc,_⟩:=Zy hl hu
 obtain⟨r,h1,_,_⟩:=Mw hl (m:=45) oaa
 refine Wp.eq e (Wp.eq h1 (Wp.call (wRunG hl hu hc (a:=30) (m:=45) oaa oaa h1) λx hx=>Wp.some ⟨hx.2.1,hx.2.2.2.1,hx.2.2.2.2⟩))
theorem eav0(h:NP B n)(k:Int)(h0:0<=k/\k<n.aH.length):yA n [] k=ς ([],η):=by
 have hfl:=h.fl
 obtain⟨j,rfl⟩:∃j:Nat,k=j:=⟨k.toNat,by omega⟩
 obtain⟨f,hf⟩:∃f,n.aH[j]?=ς f:=⟨_,aa9 oaa⟩
 have hx:∀g p,Hl [] g p=ς false:=λg p=>Do (L:=Ad [] g p) ([]:List kc) η (by simp) (λk x hx=>by simp at hx) (by simp[Ad,ltB])
 simp only[yA,gE,bN (n:=(n.aH.length:Int)-1) oaa,bE.2 (show(0:Int)<=(j:Int)/\(j:Int)<=(n.aH.length:Int)-1 by omega),bB,hf,Am,oc,hx,au]
 simp_all
theorem bits:∀l∈abm 7,∀w∈abm (2^l),∀c∈abm l,∀j∈abm l,
 eqB (yo .i64 (Cf .i64 (Jb .i64 (w:Int) (nO .i64 1 (c:Int))) (j:Int)) 1) 0=(if j=c then !eqB (yo .i64 (Cf .i64 (w:Int) (c:Int)) 1) 0 else eqB (yo .i64 (Cf .i64 (w:Int) (j:Int)) 1) 0):=by decide+kernel
theorem acg(h:NP B n){c:Nat}(hc:c<n.cp.bp.length){j:Nat}(hj:j<n.cp.bp.length)(hu:j=c\/oo n j=ζ):oo (mL n c ζ).2 j=true:=by
 have hm:=fX h.map
 have hd:=h.dn
 rw[aaH _ (af1.2 oaa),bE] at hd
 have hb:=bits n.cp.bp.length (af1.2 oaa) n.bH.toNat (af1.2 oaa) c (af1.2 hc) j (af1.2 hj)
 rw[show(n.bH.toNat:Int)=n.bH by omega] at hb
 have hcc:er n.cp (c:Int)=true:=bE.2 oaa
 have hcj:er n.cp (j:Int)=true:=bE.2 oaa
 rw[mL,hcc]
 cases hup:oo n c
 .simp only[oo,hcc,af6] at hup
  simp only[Bool.not_true,aen,booB]
  rw[show((η==ζ):Bool)=η from rfl,cond_false]
  show(er n.cp (j:Int)&&_)=ζ
  rw[hcj,hb]
  split
  .rw[hup];rfl
  rename_i hne
  have:=hu.resolve_left hne
  simpa only[oo,hcj,af6] using this
 simp only[aen,booB,BEq.rfl,au]
 grind
theorem ev10(h:NP B n)(c:Int):nm n {fk with bb:=10,cq:=c}=ς (bif(mL n c ζ).1 then((mL n c ζ).2,ζ) else(n,η)):=by
 have:=(JF h ⟨10,c,0,[],fT⟩).2.1
 simp only[bj] at this
 simp only[nm,rx,Zx h.okN,EE h.okN,h.vn,fk,this,au]
 grind
theorem app10(n:ab)(c:Int):gO n ⟨10,c,0,[],fT⟩=mL n c true:=by
 simp only[gO,bj]
 rfl
def SC(n m:ab):Prop:=m.cp=n.cp/\m.aj=n.aj/\m.an=n.an/\m.aT=n.aT
theorem RH{n:ab}:∀(c i fu k:Nat) {m:ab},i+c=n.cp.bp.length->c<fu->Reach k m->k+c<=400->SC n m->(∀j:Nat,j<i->oo m j=ζ)->
 ∃m',iter (Bo n) fu ((i:Int),m)=ς m'/\(∃k',Reach k' m'/\k'<=400)/\SC n m'/\∀j:Nat,j<n.cp.bp.length->oo m' j=ζ
 |0,i,fu,k,m,h1,h2,hr,hk,hs,hu=>by
  cases fu with
  |zero=>omega
  |succ fu=>
   rw[iter]
   exact⟨m,by simp only[Bo,ltB_f.2 (show(n.cp.bp.length:Int)<=(i:Int) by omega),cond_false],⟨k,hr,by omega⟩,hs,λj hj=>hu j oaa⟩
 |c+1,i,fu,k,m,h1,h2,hr,hk,hs,hu=>by
  cases fu with
  |zero=>omega
  |succ fu=>
   have hn:=hr.np oaa
   have hm:=fX hn.map
   rw[hs.1] at hm
   have hi:i<m.cp.bp.length:=by rw[hs.1];omega
   have hup:∀j:Nat,j<i+1->oo (mL m i ζ).2 j=true:=λj hj=>acg hn hi oaa (by
    grind)
   have hsc:SC n (mL m i ζ).2:=by
    rw[mL]
    cases !er m.cp i||booB (oo m i) ζ
    .exact hs
    exact hs
   rw[iter]
   simp only[Bo,ltB_t.2 (show(i:Int)<(n.cp.bp.length:Int) by omega),ev10 hn,WRs (k:=i),au]
   have hrr:Reach (k+1) (mL m i ζ).2:=by
    have:=hr.step (z7 (k:=10) (i:=(i:Int)) (c:=0) (b:=[]) (λx hx=>by simp at hx)) (o9 m (by simp))
    rwa [app10] at this
   cases hc:(mL m i ζ).1
   .have e:(mL m i ζ).2=m:=by
     revert hc;rw[mL];cases !er m.cp i||booB (oo m i) ζ<;>simp
    rw[e] at hup
    exact RH c (i+1) fu k oaa oaa hr oaa hs hup
   exact RH c (i+1) fu (k+1) oaa oaa hrr oaa hsc hup
theorem Gi{r2:ab×List cU}(hE:∀e∈r2.2,EP e)(hl:r2.2.length<=160):∀(c i fu k:Nat) {n:ab},i+c=r2.2.length->c<fu->Reach k n->k+c<=390->∃m,iter (Bn r2) fu ((i:Int),n)=ς m/\∃k',Reach k' m/\k'<=390
 |0,i,fu,k,n,h1,h2,hr,hk=>by
  cases fu with
  |zero=>omega
  |succ fu=>
   rw[iter]
   exact⟨n,by simp only[Bn,ltB_f.2 (show(r2.2.length:Int)<=(i:Int) by omega),cond_false],k,hr,by omega⟩
 |c+1,i,fu,k,n,h1,h2,hr,hk=>by
  cases fu with
  |zero=>omega
  |succ fu=>
   obtain⟨e,hx⟩:∃e,r2.2[i]?=ς e:=⟨_,aa9 oaa⟩
   have he:=hE e (abl hx)
   have hn:=hr.np oaa
   rw[iter]
   simp only[Bn,cy (show i<r2.2.length by omega),bB,hx,SF hn he,event_i hn he oaa,WRs (k:=i),au]
   cases hh:qY n e
   .simp only[au]
    exact Gi hE hl c (i+1) fu k oaa oaa hr oaa
   simp only[au]
   cases(gO n e).1
   .exact Gi hE hl c (i+1) fu k oaa oaa hr oaa
   exact Gi hE hl c (i+1) fu (k+1) oaa oaa (hr.step he hh) oaa
theorem Vf(xs:List Int)(hp:preL xJ xs):QD xs=ς true:=by
 simp only[QD,Y8,afY]
 cases hb:ltB 1048576 (xs.length:Int) with
 |true=>rfl
 |false=>
  have hl:=ou hb
  obtain⟨r,hd,hg,h10,hE⟩:=(Pt (xs:=xs) oaa hp.2).ex
  obtain⟨k0,hr0,hk0⟩:=hg.re
  obtain⟨n,e1,k,hr,hk⟩:=Gi hE h10 r.2.length 0 FU k0 oaa (by have:=gH;omega) hr0 oaa
  have hn:=hr.np oaa
  have hfl:=hn.fl
  have hld:=hn.ld
  have hml:=fX hn.map
  rw[show((0:Nat):Int)=0 from rfl] at e1
  simp only[hd,e1,Gz hn (hr.pi oaa),au]
  refine Do n.aH η oaa (λi f hf hi=>by simp only[EB,cy hi,eav0 hn i oaa,WRs (k:=i),au]) ?_
  obtain⟨m,e2,⟨k2,hr2,hk2⟩,⟨s1,s2,s3,s4⟩,hup⟩:=RH (n:=n) n.cp.bp.length 0 FU k oaa (by have:=gH;omega) hr oaa ⟨rfl,rfl,rfl,rfl⟩ (λj hj=>by omega)
  rw[show((0:Nat):Int)=0 from rfl] at e2
  have hq:EQ 80 m:=hr2.eq oaa oaa
  have hm:=hr2.np oaa
  obtain⟨Bz,hnz,hBz⟩:=(EQ.rounds 80 (r:=0) hq).np
  have hpz:=(EQ.rounds 80 (r:=0) hq).pi
  have hlz:(gz 80 m).aj.length=n.aj.length:=by rw[CG 80 (r:=0) hq,s2]
  have e80:Bk m 80=ς (gz 80 m):=OJ hm (m:=80) oaa oaa
  simp only[EB,bK,e2,Dm,e80,hlz,bj,Gz hnz hpz,au]
  congr 1
  refine Do n.aj ζ oaa (λi d hdi hi=>?_) (by simp only[EC,bK,cond_false])
  obtain⟨d',s,a,g1,g2,g3,hmm⟩:=hn.at_ hi
  rw[hdi] at g1;cases g1
  simp only[EC,cy hi,bB,hdi,MZ hn hdi g2 g3,WRs (k:=i),au]
  cases h1:eqB d.aX 0
  .cases hc:leB (ea s.aC s.aC.length) (rR s a)
   .rfl
   have hc:=vK hc
   have hcell:=hmm.dc
   have hce:=hmm.dp.ce
   obtain⟨d3,s3',q1,q2,q3,q4⟩:=B9 hq (by rw[s2];exact hdi) (by simp_all) (by simp_all) (Jc h1) (by
    rw[<-isUp_F,show d.aS=(d.aS.toNat:Int) by omega];grind) hc
   obtain⟨a3,q5⟩:∃a3,(gz 80 m).aT[i]?=ς a3:=⟨_,aa9 (by rw[hnz.la,hlz];exact hi)⟩
   have hsv:ro (gz 80 m) (i:Int)=ς true:=by
    simp only[ro,(Qo hnz q1).1,bB,q1,q2,q3.d,bj,FW hnz q1 q2 q5,q3.a,au]
   simp_all
  rfl
end Go.AM
