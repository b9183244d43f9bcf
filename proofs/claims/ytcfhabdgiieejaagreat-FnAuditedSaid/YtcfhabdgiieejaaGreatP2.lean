/- A part. -/
import Derived.Test.YtcfhabdgiieejaaGreatP1
set_option linter.unusedVariables false
set_option linter.unusedSimpArgs false
set_option maxHeartbeats 4000000
open List renaming getElem?_eq_some_iff->aaa,getElem?_eq_getElem->v0,mem_of_getElem?->aab,mem_map->aba,prefix_refl->acB,getElem?_of_mem->aal,mem_append->aae,getElem?_append_right->aao,range->f5,getElem?_append_left->aaq,mem_of_mem_take->aas,map_cons->aau,getElem?_map->aaN,take_add_one->ab2,any_eq_true->aax,not_any_eq_all_not->acF,map_append->abe,getElem?_eq_none->acd,mem_append_left->acH,getElem?_take->aaH,ext_getElem?->abS,append_assoc->ab6,all_eq_true->aag,nil_append->abb,length_nil->abV,sum_append->acE,sum_cons->acI,map_nil->aaJ
open Int renaming le_refl->acA,toNat_natCast->abN,tmod->abK,tmod_eq_emod_of_nonneg->abP,tdiv->acC,le_trans->acD
open Option renaming bind_some->abM,bind->abJ
open Bool renaming and_eq_true->hV,or_eq_true->aan,eq_iff_iff->abO,true_and->abW,false_or->aaC,or_eq_false_iff->aam,and_true->abQ,and_eq_false_iff->acG
namespace Go.AM
attribute [local simp] cg bX bu
variable {B:Int} {n:Go.AM.ab} {e:Go.AM.cX} {α:Type} {i k l:Nat} {a:Go.AM.aj} {b:List Int} {y:Go.AM.av} {m:Go.AM.aF} {s s':Go.AM.ah} {x:α}
theorem PD:eqB 3 2=false:=by simp[eqB]
theorem PF:eqB 4 2=false:=by simp[eqB]
theorem PG:eqB 4 3=false:=by simp[eqB]
theorem PH:eqB 6 5=false:=by simp[eqB]
theorem PJ:eqB 7 5=false:=by simp[eqB]
theorem PK:eqB 7 6=false:=by simp[eqB]
theorem LG:eqB 8 5=false:=by simp[eqB]
theorem LH:eqB 8 6=false:=by simp[eqB]
theorem LI:eqB 8 7=false:=by simp[eqB]
theorem PE:eqB 3 4=false:=by simp[eqB]
theorem PC:eqB 2 3=false:=by simp[eqB]
structure EP (e:cX):Prop where
 d:okB e.a9
 f:kL e.bD
 r:okB e.bD.co.bz.a9
def wq (n:ab) (e:cX):Bool×ab:=
 bif !inR e.cB 0 ((n.aT.length:Int)-1) then(false,n) else
 bif eqB e.a8 2 then(true,lG n e.cB.toNat) else
 bif eqB e.a8 3 then(true,No (kO n e.cB.toNat)) else
 bif leB 200 (n.aT.length:Int) then(false,n) else match n.aT[e.cB.toNat]? with
  |none=>(true,n)
  |some f=>(true,fX n f)
theorem KS (h:NP B n) (e:cX) (hk:e.a8=2\/e.a8=3\/e.a8=4) (hB:B+1<4611686018427387904):
 wR n e=some (wq n e)/\ow n e=some (wq n e)/\NP (B+1) (wq n e).2:=by
 have hfl:=h.fl
 simp only[wR,fK,ow,gK,wq,bP (n:=(n.aT.length:Int)-1) oaa,abM]
 cases hr:inR e.cB 0 ((n.aT.length:Int)-1)
 .exact⟨rt,rt,h.mono oaa⟩
 have hr:=bQ.1 hr
 obtain⟨k,hk'⟩:∃k:Nat,e.cB=k:=⟨e.cB.toNat,by omega⟩
 have hlt:k<n.aT.length:=by omega
 obtain⟨f,hf⟩:∃f,n.aT[k]?=some f:=⟨_,v0 hlt⟩
 have hp:=h.fs f (aab hf)
 simp only[hk',abN,QG h hlt,Qd h.fl hf,Bn hp.ok,QF h hlt,Qc h.fl hf,Bm hp.ok,bu,hf,au]
 rcases hk with e2|e2|e2<;>rw[e2]<;>simp only[PD,PF,PG,PH,PJ,PK,LG,LH,LI,PE,PC,bX,au]
 .exact⟨rt,rt,MZ h k hB⟩
 .exact⟨rt,rt,Jf (Dy h k) oaa⟩
 cases leB 200 (n.aT.length:Int)
 .exact⟨rt,rt,Ao h hp oaa⟩
 exact⟨rt,rt,h.mono oaa⟩
def GM (n:ab) (e:cX):Bool×ab:=
 bif !inR e.cB 0 ((n.aw.length:Int)-1) then(false,n) else match n.aw[e.cB.toNat]?,n.aA[e.cB.toNat]? with
  |some d,some s=>
   bif eqB e.a8 5 then(bif !eqB d.bp 0 then(false,n) else(true,gM n e.cB.toNat (dOn d))) else
   bif eqB e.a8 6 then(bif eqB e.bh d.bh||!eN n.ev e.bh then(false,n) else(true,gM n e.cB.toNat (sK d e.bh))) else
   bif eqB e.a8 7 then(bif !eqB d.bp 2 then(false,n) else(true,{n with aw:=n.aw.set e.cB.toNat (vd d)})) else
   bif(tD s e.a9).2 then(true,{n with aA:=n.aA.set e.cB.toNat (tD s e.a9).1}) else(false,n)
  |_,_=>(false,n)
theorem MX (d:aG):(vd d).dr=d.dr/\(vd d).bh=d.bh:=by
 rw[vd];grind
theorem U7 (h:NP B n) (e:cX) (he:EP e) (hk:e.a8=5\/e.a8=6\/e.a8=7\/e.a8=8) (hB:B+1<4611686018427387904):
 DN n e=some (GM n e)/\jZ n e=some (GM n e)/\NP (B+1) (GM n e).2:=by
 have hl:=h.ld
 have hm6:=mZ h.map
 have hnm:NP (B+1) n:=h.mono oaa
 simp only[DN,fK,jZ,gK,vX (show n.ev.bb.length<=1048576 by omega),GM,bP (n:=(n.aw.length:Int)-1) oaa,bP (n:=(n.ev.bb.length:Int)-1) oaa,abM]
 cases hr:inR e.cB 0 ((n.aw.length:Int)-1)
 .simp_all
 have hr:=bQ.1 hr
 obtain⟨k,hk'⟩:∃k:Nat,e.cB=k:=⟨e.cB.toNat,by omega⟩
 have hlt:k<n.aw.length:=by omega
 obtain⟨d,s,a,e1,e2,e3,hm⟩:=h.at_ hlt
 have l1:=(MY d).len
 have l2:(sK d e.bh).dy.length<=1:=by rcases KJ d e.bh with h|h;exact h.len;exact h.2.len
 simp only[hk',abN,bu,e1,e2,on_s hm.dp.ok,move_s hm.dp.ok hm.dp.ep,Z0 hm.dp.ok,Zl hm.sg.sp.ok,yn hlt (show(dOn d).dy.length<=1048576 by omega),yn hlt (show(sK d e.bh).dy.length<=1048576 by omega),on_i hm.dp.ok,move_i hm.dp.ok hm.dp.ep,ZZ hm.dp.ok,sub_i hm.sg.sp.ok,ym hlt (show(dOn d).dy.length<=1048576 by omega),ym hlt (show(sK d e.bh).dy.length<=1048576 by omega),au]
 try rw[show inR e.bh 0 ((n.ev.bb.length:Int)-1)=eN n.ev e.bh from rfl]
 rcases hk with e4|e4|e4|e4<;>rw[e4]<;>simp only[PD,PF,PG,PH,PJ,PK,LG,LH,LI,PE,PC,bX,au]
 .cases eqB d.bp 0
  .simp_all
  exact⟨rt,rt,nE h e1 (MY d) (ZH hm.dp) hm.dc hB⟩
 .cases hx:eqB e.bh d.bh<;>cases hy:eN n.ev e.bh<;>try exact⟨rt,rt,hnm⟩
  refine⟨rt,rt,?_⟩
  have hc:=bQ.1 (show inR e.bh 0 ((n.ev.bb.length:Int)-1)=true from hy)
  rcases KJ d e.bh with h'|h'
  .exact nE h e1 h' (KL hm.dp _) hm.dc hB
  exact nE h e1 h'.2 (KL hm.dp _) oaa hB
 .cases eqB d.bp 2
  .simp_all
  refine⟨rt,rt,NP.mono (B:=B) ?_ oaa⟩
  have hik:=MX d
  refine h.setD e2 e3 ⟨Tx hm.dp,by rw[hik.2];exact hm.dc,hm.sg,hm.sc,hm.si,?_⟩
  have:=hm.ids
  simp only[EV,hik.1] at this ⊢;exact this
 cases hb:(tD s e.a9).2
 .have hs:(tD s e.a9).1=s:=by
   revert hb;rw[tD];cases leB 24 (s.aH.length:Int)||ltB 60 (e.a9.length:Int)
   .simp_all
   intro _;rfl
  refine⟨?_,rt,hnm⟩
  first|trivial|(rw[hs,gR e2];rfl)
 refine⟨rt,rt,NP.mono (B:=B) ?_ oaa⟩
 have hg:=Yk hm.sg he.d
 refine h.setS e1 e3 ⟨hm.dp,hm.dc,hg,?_,?_,?_⟩
 all_goals
  rw[tD]
  cases leB 24 (s.aH.length:Int)||ltB 60 (e.a9.length:Int)
 .exact hm.sc
 .exact hm.sc
 .exact hm.si
 .exact hm.si
 .exact hm.ids
 exact hm.ids
def Fd (n:ab) (c:Int) (up:Bool):Bool×ab:=
 bif !eN n.ev c||booB (Do n c) up then(false,n) else(true,{n with dw:=Iy .i64 n.dw (lX .i64 1 c)})
theorem Qz (h:NP B n) (e:cX):
 BL n e.cB (eqB e.a8 10)=some (Fd n e.cB (eqB e.a8 10))/\rH n e=some (Fd n e.cB (eqB e.a8 10))/\NP B (Fd n e.cB (eqB e.a8 10)).2:=by
 have hm6:=mZ h.map
 simp only[BL,fK,Us hm6,rH,vX (show n.ev.bb.length<=1048576 by omega),Ur hm6,Fd,bP (n:=(n.ev.bb.length:Int)-1) oaa,abM]
 try rw[show inR e.cB 0 ((n.ev.bb.length:Int)-1)=eN n.ev e.cB from rfl]
 cases hc:eN n.ev e.cB
 .simp_all
 have hi:=bQ.1 (show inR e.cB 0 ((n.ev.bb.length:Int)-1)=true from hc)
 rw[leB_t.2 hi.1]
 cases booB (Do n e.cB) (eqB e.a8 10)
 .exact⟨rt,rt,{h with dn:=(Pj hm6.2 h.dn oaa).1}⟩
 simp_all
def yl (n:ab) (f:bM):Bool:=ltB (n.aT.length:Int) 200&&(inR f.bm 0 ((n.aw.length:Int)-1)&&eN n.ev f.bh)
def wr (n:ab) (f:bM):Bool×ab:=bif !yl n f then(false,n) else(true,fX n f)
theorem Na (h:NP B n) (e:cX) (he:EP e) (hB:B<4611686018427387904):
 (abJ (kh n e.bD) λr13=>bif !r13 then(some (false,n)) else(abJ (gS n e.bD) λr14=>some (true,r14)))=some (wr n e.bD)/\IX n e.bD=some (wr n e.bD)/\NP (B+1) (wr n e.bD).2:=by
 have hm6:=mZ h.map
 have hl:=h.ld
 simp only[kh,fK,Bn he.f,IX,gK,vX (show n.ev.bb.length<=1048576 by omega),Bm he.f,wr,yl,bP (n:=(n.ev.bb.length:Int)-1) oaa,bP (n:=(n.aw.length:Int)-1) oaa,abM]
 try rw[show inR e.bD.bh 0 ((n.ev.bb.length:Int)-1)=eN n.ev e.bD.bh from rfl]
 try rw[show leB 200 (n.aT.length:Int)=!ltB (n.aT.length:Int) 200 by simp only[leB,ltB];grind]
 cases h1:ltB (n.aT.length:Int) 200<;>cases h2:inR e.bD.bm 0 ((n.aw.length:Int)-1)<;>cases h3:eN n.ev e.bD.bh<;>try exact⟨rt,rt,h.mono oaa⟩
 have hd:=bQ.1 h2
 have hc:=bQ.1 (show inR e.bD.bh 0 ((n.ev.bb.length:Int)-1)=true from h3)
 exact⟨rt,rt,Ao h ⟨by omega,by omega,he.r,he.f⟩ oaa⟩
def iz (n:ab) (e:cX):Bool×ab:=
 if e.a8=1 then Fe n else
 if e.a8=2\/e.a8=3\/e.a8=4 then wq n e else
 if e.a8=5\/e.a8=6\/e.a8=7\/e.a8=8 then GM n e else
 if e.a8=9\/e.a8=10 then Fd n e.cB (eqB e.a8 10) else
 if e.a8=11\/e.a8=12 then p5 n e.cB (eqB e.a8 12) else
 if e.a8=13 then wr n e.bD else(false,n)
theorem vR (h:NP B n) (he:EP e) (hB:B+10000<4611686018427387904):
 zj n e=some (iz n e)/\tZ n e=some (iz n e)/\NP (B+10000) (iz n e).2:=by
 rw[iz,zj,tZ]
 by_cases h1:e.a8=1
 .rw[if_pos h1,h1]
  have:=R7 h hB
  simp_all
 rw[if_neg h1]
 have n1:eqB e.a8 1=false:=by simpa [eqB] using h1
 by_cases h2:e.a8=2\/e.a8=3\/e.a8=4
 .rw[if_pos h2]
  have:=KS h e h2 oaa
  have hb':(bif eqB e.a8 2 then(some (eqB e.a8 2)) else(abJ (bif eqB e.a8 3 then(some (eqB e.a8 3)) else(some (eqB e.a8 4))) λ(v3:Bool)=>some v3))=some true:=by
   rcases h2 with e|e|e<;>rw[e]<;>simp only[PD,PF,PG,PH,PJ,PK,LG,LH,LI,PE,PC,bX,au]<;>rfl
  rw[n1,hb']
  simp only[this.1,this.2.1,au]
  exact⟨rt,rt,this.2.2.mono oaa⟩
 rw[if_neg h2]
 have hb':(bif eqB e.a8 2 then(some (eqB e.a8 2)) else(abJ (bif eqB e.a8 3 then(some (eqB e.a8 3)) else(some (eqB e.a8 4))) λ(v3:Bool)=>some v3))=some false:=by
  rw[show eqB e.a8 2=false by simp_all,show eqB e.a8 3=false by simp_all,show eqB e.a8 4=false by simp_all];rfl
 rw[n1,hb']
 simp only[au]
 by_cases h3:e.a8=5\/e.a8=6\/e.a8=7\/e.a8=8
 .rw[if_pos h3]
  have:=U7 h e he h3 oaa
  have hb3:(bif eqB e.a8 5 then(some (eqB e.a8 5)) else(abJ (bif eqB e.a8 6 then(some (eqB e.a8 6)) else(abJ (bif eqB e.a8 7 then(some (eqB e.a8 7)) else(some (eqB e.a8 8))) λ(v7:Bool)=>some v7)) λ(v6:Bool)=>some v6))=some true:=by
   rcases h3 with e|e|e|e<;>rw[e]<;>simp only[PD,PF,PG,PH,PJ,PK,LG,LH,LI,PE,PC,bX,au]<;>rfl
  rw[hb3]
  simp only[this.1,this.2.1,au]
  exact⟨rt,rt,this.2.2.mono oaa⟩
 rw[if_neg h3]
 have hb3:(bif eqB e.a8 5 then(some (eqB e.a8 5)) else(abJ (bif eqB e.a8 6 then(some (eqB e.a8 6)) else(abJ (bif eqB e.a8 7 then(some (eqB e.a8 7)) else(some (eqB e.a8 8))) λ(v7:Bool)=>some v7)) λ(v6:Bool)=>some v6))=some false:=by
  rw[show eqB e.a8 5=false by simp_all,show eqB e.a8 6=false by simp_all,show eqB e.a8 7=false by simp_all,show eqB e.a8 8=false by simp_all];rfl
 rw[hb3]
 simp only[au]
 by_cases h4:e.a8=9\/e.a8=10
 .rw[if_pos h4]
  have:=Qz h e
  have hb4:(bif eqB e.a8 9 then(some (eqB e.a8 9)) else(some (eqB e.a8 10)))=some true:=by rcases h4 with e|e<;>rw[e]<;>simp[eqB]
  rw[hb4]
  simp only[this.1,this.2.1,au]
  exact⟨rt,rt,this.2.2.mono oaa⟩
 rw[if_neg h4]
 have hb4:(bif eqB e.a8 9 then(some (eqB e.a8 9)) else(some (eqB e.a8 10)))=some false:=by
  rw[show eqB e.a8 9=false by simp_all,show eqB e.a8 10=false by simp_all];rfl
 rw[hb4]
 simp only[au]
 by_cases h5:e.a8=11\/e.a8=12
 .rw[if_pos h5]
  have:=L7 h e.cB (eqB e.a8 12)
  have hb5:(bif eqB e.a8 11 then(some (eqB e.a8 11)) else(some (eqB e.a8 12)))=some true:=by rcases h5 with e|e<;>rw[e]<;>simp[eqB]
  rw[hb5]
  simp only[this.1,this.2.1 e rfl rfl,au]
  exact⟨rt,rt,this.2.2.mono oaa⟩
 rw[if_neg h5]
 have hb5:(bif eqB e.a8 11 then(some (eqB e.a8 11)) else(some (eqB e.a8 12)))=some false:=by
  rw[show eqB e.a8 11=false by simp_all,show eqB e.a8 12=false by simp_all];rfl
 rw[hb5]
 simp only[au]
 by_cases h6:e.a8=13
 .rw[if_pos h6,h6]
  have:=Na h e he oaa
  simp only[bX,this.1,this.2.1,au]
  exact⟨rt,rt,this.2.2.mono oaa⟩
 rw[if_neg h6,show eqB e.a8 13=false by simp_all]
 exact⟨rt,rt,h.mono oaa⟩
structure BY (n:ab):Prop where
 d1:∀d∈n.aw,∀x∈d.bW.aK,okB x.a9
 d2:∀d∈n.aw,∀p∈d.bW.be,okB p.a9
 s1:∀s∈n.aA,∀p∈s.aH,okB p.a9
 s2:∀s∈n.aA,∀x∈s.ax.aC,okB x.a9
 f:∀f∈n.aT,okB f.co.bz.a9
theorem NP.of (ok:iA n) (v:mT n=true) (b:BY n):NP n.jT n:=by
 simp only[mT,Ae,hV,bQ,ez,aag,flB] at v
 obtain⟨v1,v2,v3,v4,v5,v6,v7,v8,v9,v10,v11,v12⟩:=v
 have v4:=zu v4
 have v5:=yS v5
 have v6:=yS v6
 have v8:=zu v8
 have v12:=zu v12
 refine⟨v1,ok.1,v2,M8 (by simpa using v3),by omega,v5,v6,λi d s a hd hs ha=>?_,by omega,λf hf=>?_,bQ.2 v10,v11,⟨v12,by omega⟩⟩
 .have:=v7 i d hd
  simp only[wm,hs,ha,hV] at this
  obtain⟨m1,m2,m3,m4,m5,m6,m7,m8⟩:=this
  have hdm:=aab hd
  have hsm:=aab hs
  have c1:=bQ.1 (show inR d.bh 0 ((n.ev.bb.length:Int)-1)=true from m5)
  have c2:=bQ.1 (show inR s.bh 0 ((n.ev.bb.length:Int)-1)=true from m6)
  exact⟨DP.of m1 (ok.2.1.2 d hdm) (b.d1 d hdm) (b.d2 d hdm),by omega,⟨(vC (ok.2.2.1.2 s hsm)).1 m2,b.s1 s hsm,b.s2 s hsm,sm.1 m8⟩,by omega,qi m7,m4⟩
 have:=v9 f hf
 have c2:=bQ.1 (show inR f.bh 0 ((n.ev.bb.length:Int)-1)=true from this.2)
 exact⟨by omega,by omega,b.f f hf,ok.2.2.2.2.2 f hf⟩
theorem NP.okN (h:NP B n):iA n:=by
 have h1:=h.ld
 have h2:=h.ls
 have h3:=h.la
 have h4:=h.fl
 refine⟨h.mok,⟨by omega,λd hd=>?_⟩,⟨by omega,λs hs=>?_⟩,⟨by omega,λa ha=>?_⟩,⟨by omega,λf hf=>(h.fs f hf).ok⟩⟩
 .obtain⟨i,hi⟩:=aal hd
  have hlt:=(aaa.1 hi).1
  obtain⟨d',s,a,e1,e2,e3,hm⟩:=h.at_ hlt
  rw[hi] at e1;cases e1;exact hm.dp.ok
 .obtain⟨i,hi⟩:=aal hs
  have hlt:=(aaa.1 hi).1
  obtain⟨d',s,a,e1,e2,e3,hm⟩:=h.at_ (show i<n.aw.length by omega)
  rw[hi] at e2;cases e2;exact hm.sg.sp.ok
 obtain⟨i,hi⟩:=aal ha
 have hlt:=(aaa.1 hi).1
 obtain⟨d',s,a,e1,e2,e3,hm⟩:=h.at_ (show i<n.aw.length by omega)
 rw[hi] at e3;cases e3;exact hm.sg.mo.acc.ok
theorem NP.vn (h:NP B n):mT n=true:=by
 have h1:=h.ld
 have h2:=h.ls
 have h3:=h.la
 have h4:=h.fl
 have h5:=h.lo
 have hu:eqB n.eC.fP 0=false:=by simpa [eqB] using h.up
 simp only[mT,Ae,hV,bQ,ez,aag,flB]
 refine⟨h.map,h.core,by simp[hu],leB_t.2 oaa,eqB_t.2 oaa,eqB_t.2 oaa,λi d hd=>?_,leB_t.2 oaa,λf hf=>?_,bQ.1 h.dn,h.nw,leB_t.2 h5.1⟩
 .obtain⟨d',s,a,e1,e2,e3,hm⟩:=h.at_ (aaa.1 hd).1
  rw[hd] at e1;cases e1
  have hc:=hm.dp.ce
  have hsc:=hm.sg.sp
  simp only[wm,e2,e3,hV]
  exact⟨hm.dp.v,(vC hm.sg.sp.ok).2 hm.sg.sp,yL.2 hm.sg.mo.acc,hm.ids,bQ.2 (by have:=hm.dc;omega),bQ.2 (by have:=hm.sc;have:=hsc.ce;omega),eqB_t.2 hm.si,sm.2 hm.sg.mo⟩
 have hf:=h.fs f hf
 exact⟨by have:=hf.d;omega,bQ.2 (by have:=hf.c;omega)⟩
theorem OM (h:NP B n) (he:EP e) (hB:B+10000<4611686018427387904):qk n e=some (bif(iz n e).1 then((iz n e).2,true) else(n,false)):=by
 have:=(vR h he hB).2.1
 simp only[qk,net_ci h.okN,HG h.okN,h.vn,this,au]
 cases(iz n e).1<;>rfl
open Go.Proofs
theorem Ir (x:Int) (m:Nat) (hm:m<9223372036854775808):0<=z6 .i64 x (m:Int)/\z6 .i64 x (m:Int)<=m:=by
 unfold z6
 have h1:(BitVec.ofInt IntKind.i64.bits x&&& BitVec.ofInt IntKind.i64.bits (m:Int)).toNat<=m:=by
  rw[BitVec.toNat_and]
  refine Nat.le_trans Nat.and_le_right ?_
  show(BitVec.ofInt 64 (m:Int)).toNat<=m
  rw[BitVec.toNat_ofInt]
  omega
 rw[Kc oaa]
 omega
structure dL (c:bk):Prop where
 l:c.fb.length<=1048576
 u:∀x∈c.fb,yk x
 a:0<=c.fi
 b:c.fi<=c.fb.length
theorem AP {c:bk} (h:dL c):∃v c',uq c=some (v,c')/\0<=v/\v<=255/\dL c':=by
 unfold uq
 have:=h.l
 have ha:=h.a
 have hb:=h.b
 by_cases hi:c.fi<c.fb.length
 .obtain⟨x,hx,e⟩:=Ut h.a hi
  rw[show ltB c.fi (c.fb.length:Int)=true from by simp[ltB,hi]]
  simp only[e,au]
  refine⟨_,_,rfl,(Ir _ 255 oaa).1,(Ir _ 255 oaa).2,⟨h.l,h.u,?_,?_⟩⟩
  .show 0<=WR (c.fi+1);rw[bP oaa];omega
  show WR (c.fi+1)<=(c.fb.length:Int);rw[bP oaa];omega
 rw[show ltB c.fi (c.fb.length:Int)=false from by simp[ltB];omega]
 simp only[au]
 exact⟨_,_,rfl,(Ir _ 255 oaa).1,(Ir _ 255 oaa).2,⟨h.l,h.u,h.a,h.b⟩⟩
theorem DQ {v n:Int} (hv:0<=v) (hn:0<n):0<=abK v n/\abK v n<n:=by
 rw[abP hv]
 exact⟨Int.emod_nonneg _ oaa,Int.emod_lt_of_pos _ hn⟩
theorem Kx {c:bk} (h:dL c) {n:Int} (hn:1<=n):∃v c',cH c n=some (v,c')/\0<=v/\v<n/\dL c':=by
 unfold cH
 rw[show leB n 0=false from by simp[leB];omega]
 have hz:(!eqB n 0)=true:=by simp[eqB];omega
 simp only[hz,au]
 by_cases h2:n<=256
 .rw[show leB n 256=true from by simp[leB,h2]]
  obtain⟨v,c',e,h0,h1,hc⟩:=AP h
  have:=DQ h0 (show 0<n by omega)
  simp only[e,au]
  exact⟨_,_,rfl,this.1,this.2,hc⟩
 rw[show leB n 256=false from by simp[leB];omega]
 obtain⟨v,c1,e,h0,h1,hc⟩:=AP h
 obtain⟨v2,c2,e2,h02,h12,hc2⟩:=AP hc
 obtain⟨v3,c3,e3,h03,h13,hc3⟩:=AP hc2
 simp only[e,e2,e3,au]
 rw[bP (n:=v*65536) oaa,bP (n:=v2*256) oaa,bP (n:=v*65536+v2*256) oaa,bP (n:=v*65536+v2*256+v3) oaa]
 have:=DQ (v:=v*65536+v2*256+v3) oaa (show 0<n by omega)
 exact⟨_,_,rfl,this.1,this.2,hc3⟩
theorem XX {c:bk} (h:dL c) {n:Int} (hn:1<=n):∃v c',i8 c n=some (v,c')/\dL c':=by
 obtain⟨v,c',e,_,_,hc⟩:=Kx h hn
 exact⟨_,_,by rw[i8,e];rfl,hc⟩
theorem new_ok {xs:List Int} (hl:xs.length<=1048576) (hu:∀x∈xs,yk x):∃c,JX xs=some c/\dL c/\c.fb=xs:=by
 have key:∀(m n k:Nat) (v:Int),m=xs.length-k->k<=xs.length->m<n->∃r,iter (vG xs) n (v,(k:Int))=some r:=by
  intro m
  induction m with
  |zero=>
   intro n k v hm hk hn
   cases n with
   |zero=>omega
   |succ n=>
    have:k=xs.length:=by omega
    subst this
    exact⟨v,by rw[iter];simp[vG]⟩
  |succ m ih=>
   intro n k v hm hk hn
   cases n with
   |zero=>omega
   |succ n=>
    have hlt:k<xs.length:=by omega
    rw[iter]
    simp only[vG,cA hlt,bu,v0 hlt,WRs (k:=k),au]
    cases ltB (k:Int) 4000
    .exact⟨v,rfl⟩
    exact ih n (k+1) _ oaa oaa oaa
 obtain⟨r,hr⟩:=key xs.length FU 0 (WR (193017+(xs.length:Int))) oaa oaa (by have:=gZ;omega)
 refine⟨⟨xs,0,r⟩,?_,⟨hl,hu,acA 0,Int.natCast_nonneg _⟩,rfl⟩
 rw[JX,show iter (vG xs) FU (WR (193017+(xs.length:Int)),0)=some r from hr]
 rfl
theorem eh {c:bk} (h:dL c) {n:Int} (hn:1<=n):Wp (cH c n) (λr=>dL r.2/\0<=r.1/\r.1<n):=by
 obtain⟨v,c',e,h0,h1,hc⟩:=Kx h hn
 exact Wp.of e ⟨hc,h0,h1⟩
theorem yI {c:bk} (h:dL c) {n:Int} (hn:1<=n):Wp (i8 c n) (λr=>dL r.2):=by
 obtain⟨v,c',e,hc⟩:=XX h hn
 exact Wp.of e hc
theorem YJ {c:bk} (h:dL c) {xs:List Int} (hx:xs≠[]):Wp (Az c xs) (λr=>dL r.2/\r.1∈xs):=by
 have hl:0<xs.length:=List.length_pos_iff.2 hx
 unfold Az
 refine Wp.call (eh h oaa) λr hr=>?_
 exact Wp.ix hr.2.1 hr.2.2 λx hm _=>Wp.some ⟨hr.1,hm⟩
theorem Wq {c:bk} (h:dL c) {n:Int} (h0:0<=n) (hn:n<=4000):Wp (yz c n) (λr=>dL r.2/\okB r.1/\(r.1.length:Int)=n):=by
 unfold yz
 refine Wp.call (P:=λx=>dL x.2/\okB x.1/\(x.1.length:Int)=n) ?_ λx hx=>Wp.some hx
 refine Wp.iterF (λx=>(0<=x.1/\x.1<=n)/\dL x.2.2/\okB x.2.1/\(x.2.1.length:Int)=x.1) (λx=>(n-x.1).toNat) ⟨⟨by omega,by omega⟩,h,λx hx=>by simp at hx,by simp⟩ (by simp only;have:=gZ;omega) ?_
 rintro⟨v1,v5,v6⟩ ⟨⟨i0,i1⟩,i2,i3,i4⟩
 simp only at i0 i1 i2 i3 i4
 simp only[C8]
 refine Wp.cond (λhb=>?_) (λhb=>Wp.some ⟨i2,i3,by have:=qz hb;show(v5.length:Int)=n;omega⟩)
 have hb:=mu hb
 obtain⟨b,c',e,b0,b1,hc⟩:=AP i2
 refine Wp.call (Wp.of (Q:=λr=>dL r.2/\0<=r.1/\r.1<=255) e ⟨hc,b0,b1⟩) λr hr=>?_
 refine Wp.ok (f7 (by simp;omega) (by simp;omega)) (Wp.some ⟨⟨⟨?_,?_⟩,hr.1,?_,?_⟩,?_⟩)
 all_goals simp only[bP (show-9223372036854775808<=v1+1/\v1+1<=9223372036854775807 by omega)]
 .omega
 .omega
 .intro x hx
  rcases aae.1 hx with hx|hx
  .exact i3 x hx
  simp at hx;subst hx
  have e1:IntKind.u8.wrap r.1=r.1:=by rw[Gn];omega
  rw[e1];exact hr.2
 .simp;omega
 omega
theorem JU {P:α->Prop} {xs:List α} {a:α} (h:∀x∈xs,P x) (ha:P a):∀x∈xs.set i a,P x:=λx hx=>by
 rcases List.mem_or_eq_of_mem_set hx with h'|h'
 .exact h x h'
 rw[h'];exact ha
theorem U2 {v:List (Int×List Int)} (h1:v.length<=5) (h2:∀e∈v,e.2.length<=1000):gj (⟨v.map λe=>(⟨e.1,e.2⟩:fc)⟩:aS):=by
 refine⟨by show(v.map _).length<=_;simp;omega,λx hx=>?_⟩
 obtain⟨e,he,rfl⟩:=aba.1 hx
 exact⟨by have:=h2 e he;show e.2.length<=_;omega,λ_ _=>trivial⟩
theorem wKey {c:bk} (h:dL c):Wp (AD c) (λr=>dL r.2):=by
 unfold AD
 exact Wp.call (eh h oaa) λr1 h1=>Wp.some h1.1
structure JM (v:List (Int×List Int)):Prop where
 ar:∀e∈v,0<=e.1/\e.1<=1
 rg:∀(i:Nat) e,v[i]?=some e->∀x∈e.2,0<=x/\x<v.length/\x≠i
 sy:∀(i j:Nat) e f,v[i]?=some e->v[j]?=some f->(j:Int)∈e.2->(i:Int)∈f.2
def Pa (v:List (Int×List Int)) (a b:Nat) (x y:Int×List Int):List (Int×List Int):=(v.set a (x.1,x.2++[(b:Int)])).set b (y.1,y.2++[(a:Int)])
theorem Bi {v:List (Int×List Int)} {a b:Nat} {x y:Int×List Int} (hx:v[a]?=some x) (hy:v[b]?=some y) (hab:a≠b) {e':Int×List Int} (h:(Pa v a b x y)[i]?=some e'):
 ∃e,v[i]?=some e/\e'.1=e.1/\∀z,z∈e'.2↔z∈e.2\/(i=a/\z=b)\/(i=b/\z=a):=by
 rcases ry h with⟨e1,e2⟩|⟨e1,e2⟩
 .grind
 grind
theorem Uv {v:List (Int×List Int)} (h:JM v) {a b:Nat} {x y:Int×List Int} (hx:v[a]?=some x) (hy:v[b]?=some y) (hab:a≠b):JM (Pa v a b x y):=by
 have ha:=(aaa.1 hx).1
 have hb:=(aaa.1 hy).1
 have hl:(Pa v a b x y).length=v.length:=by simp[Pa]
 refine⟨λe he=>?_,λi e he z hz=>?_,λi j e f he hf hj=>?_⟩
 .obtain⟨i,hi⟩:=aal he
  obtain⟨e0,h0,h1,_⟩:=Bi hx hy hab hi
  rw[h1];exact h.ar e0 (aab h0)
 .obtain⟨e0,h0,h1,h2⟩:=Bi hx hy hab he
  rw[hl]
  rcases(h2 z).1 hz with hz|hz|hz
  .exact h.rg i e0 h0 z hz
  .omega
  omega
 obtain⟨e0,h0,h1,h2⟩:=Bi hx hy hab he
 obtain⟨f0,g0,g1,g2⟩:=Bi hx hy hab hf
 rw[g2]
 rcases(h2 j).1 hj with hz|hz|hz
 .exact .inl (h.sy i j e0 f0 h0 g0 hz)
 .omega
 omega
theorem wJoinJ {v:List (Int×List Int)} {a b:Int} {B:Nat} (hB:B<=1000) (hv:∀e∈v,e.2.length<=B) (hj:JM v) (a0:0<=a) (a1:a<v.length) (b0:0<=b) (b1:b<v.length) (hab:a≠b):Wp (vE v a b) (λr=>(r.length=v.length/\∀e∈r,e.2.length<=B+2)/\JM r):=by
 obtain⟨i,rfl⟩:∃i:Nat,a=i:=⟨a.toNat,by omega⟩
 obtain⟨j,rfl⟩:∃j:Nat,b=j:=⟨b.toNat,by omega⟩
 obtain⟨x,hx⟩:∃x,v[i]?=some x:=⟨_,v0 oaa⟩
 obtain⟨y,hy⟩:∃y,v[j]?=some y:=⟨_,v0 oaa⟩
 have h1:=hv x (aab hx)
 have h2:=hv y (aab hy)
 have hy':(v.set i (x.1,x.2++[(j:Int)]))[j]?=some y:=by rw[List.getElem?_set,if_neg oaa];exact hy
 unfold vE
 rw[bu,hx]
 simp only[abM,abN]
 refine Wp.ok (f7 (by simp;omega) (by simp;omega)) ?_
 rw[bu,hy']
 simp only[abM]
 refine Wp.ok (f7 (by simp;omega) (by simp;omega)) (Wp.some ⟨⟨by simp,JU (JU (λe he=>by grind) (by simp;omega)) (by simp;omega)⟩,?_⟩)
 exact Uv hj hx hy oaa
structure RW (n:Int) (e e':Int×List Int):Prop where
 a:e'.1=e.1
 m:∀z,z∈e'.2↔z∈e.2/\(0<=z/\z<n)
 o:e'.2.Pairwise λx y=>x<y
 l:(e'.2.length:Int)<=n
theorem NE {v w:List (Int×List Int)} (h:JM v) (hl:w.length=v.length) (h2:2<=v.length/\v.length<=5) (hw:∀(i:Nat) e,v[i]?=some e->∃e',w[i]?=some e'/\RW v.length e e'):pO (⟨w.map λe=>(⟨e.1,e.2⟩:fc)⟩:aS)=true:=by
 have hlen:(w.map λe=>(⟨e.1,e.2⟩:fc)).length=v.length:=by simp[hl]
 have get:∀(i:Nat) c,(w.map λe=>(⟨e.1,e.2⟩:fc))[i]?=some c->∃e e',v[i]?=some e/\w[i]?=some e'/\RW v.length e e'/\c=⟨e'.1,e'.2⟩:=by
  intro i c hc
  have hi:=(aaa.1 hc).1
  obtain⟨e,he⟩:∃e,v[i]?=some e:=⟨_,v0 oaa⟩
  obtain⟨e',he',hr⟩:=hw i e he
  rw[aaN,he'] at hc
  cases hc;exact⟨e,e',he,he',hr,rfl⟩
 simp only[pO,hV,bQ,ez,hlen]
 refine⟨by omega,λi c hc=>?_⟩
 obtain⟨e,e',he,he',hr,rfl⟩:=get i c hc
 have har:=h.ar e (aab he)
 simp only[BR,hV,bQ,ez,nbB,eN,hlen]
 refine⟨by rw[hr.a];omega,λk x hx=>?_⟩
 have hm:=aab hx
 have hme:=(hr.m x).1 hm
 have hrg:=h.rg i e he x hme.1
 obtain⟨j,rfl⟩:∃j:Nat,x=j:=⟨x.toNat,by omega⟩
 refine⟨by omega,by have:=hrg.2.2;simpa [eqB] using this,DF (key:=id) (by simpa using hr.o) hx,?_⟩
 obtain⟨f,hf⟩:∃f,v[j]?=some f:=⟨_,v0 oaa⟩
 obtain⟨f',hf',hrf⟩:=hw j f hf
 have hi:=(aaa.1 he).1
 have hs:=h.sy i j e f he hf hme.1
 simp only[AN,abN,aaN,hf',Option.map_some,aax]
 exact⟨i,(hrf.m i).2 ⟨hs,by omega,by omega⟩,bX _⟩
theorem wDrawJ {c:bk} (h:dL c):Wp (zh c) (λr=>dL r.2/\((2<=r.1.length/\r.1.length<=5)/\∀e∈r.1,e.2.length<=200)/\pO (⟨r.1.map λe=>(⟨e.1,e.2⟩:fc)⟩:aS)=true):=by
 unfold zh
 refine Wp.call (eh h oaa) λr1 h1=>?_
 obtain⟨n,hn⟩:∃n:Int,n=WR (2+r1.1):=⟨_,rfl⟩
 have hn1:n=2+r1.1:=by rw[hn,bP oaa]
 refine Wp.call (P:=λx=>dL ⟨x.1,x.2.1,x.2.2.1⟩/\(x.2.2.2.length:Int)=n/\∀a∈x.2.2.2,0<=a/\a<=1) ?_ ?_
 .refine Wp.iterF (λx=>(0<=x.1/\x.1<=n)/\dL ⟨x.2.1,x.2.2.1,x.2.2.2.1⟩/\(x.2.2.2.2.length:Int)=x.1/\∀a∈x.2.2.2.2,0<=a/\a<=1) (λx=>(n-x.1).toNat) ⟨⟨by omega,by omega⟩,h1.1,by simp,by simp⟩ oaa ?_
  rintro⟨v2,v3,v4,v5,v6⟩ ⟨⟨i0,i1⟩,i2,i3,i4⟩
  simp only at i0 i1 i2 i3 i4
  simp only[C0,<-hn]
  refine Wp.cond (λhb=>?_) (λhb=>Wp.some ⟨i2,by have:=qz hb;grind,i4⟩)
  have hb:=mu hb
  refine Wp.call (eh i2 oaa) λr12 h12=>Wp.ok (f7 (by simp;omega) (by simp;omega)) (Wp.some ⟨⟨⟨?_,?_⟩,h12.1,?_,?_⟩,?_⟩)
  all_goals simp only[bP (show-9223372036854775808<=v2+1/\v2+1<=9223372036854775807 by omega)]
  .omega
  .omega
  .simp;omega
  .grind
  omega
 rintro⟨v8,v9,v10,v11⟩ ⟨hc,hl,har⟩
 simp only at hc hl har
 refine Wp.call (P:=λx=>dL ⟨x.1,x.2.1,x.2.2.1⟩/\((x.2.2.2.length:Int)=n/\∀e∈x.2.2.2,e.2.length<=200)/\JM x.2.2.2) ?_ ?_
 .refine Wp.iterF (λx=>(1<=x.1/\x.1<=n)/\dL ⟨x.2.1,x.2.2.1,x.2.2.2.1⟩/\((x.2.2.2.2.length:Int)=n/\∀e∈x.2.2.2.2,e.2.length<=20*x.1.toNat)/\JM x.2.2.2.2) (λx=>(n-x.1).toNat) ⟨⟨by omega,by omega⟩,hc,⟨by grind,by simp⟩,⟨by grind,λi e he x hx=>?_,λi j e f he hf hj=>?_⟩⟩ oaa ?_
  .grind
  .grind
  rintro⟨v13,v14,v15,v16,v17⟩ ⟨⟨i0,i1⟩,i2,⟨i3,i4⟩,i5⟩
  simp only at i0 i1 i2 i3 i4 i5
  simp only[C4,<-hn]
  refine Wp.cond (λhb=>?_) (λhb=>Wp.some ⟨i2,⟨i3,λe he=>by grind⟩,i5⟩)
  have hb:=mu hb
  refine Wp.call (P:=λx=>dL ⟨x.1,x.2.1,x.2.2.1⟩/\((x.2.2.2.length:Int)=n/\∀e∈x.2.2.2,e.2.length<=20*v13.toNat+2*v13.toNat)/\JM x.2.2.2) ?_ ?_
  .refine Wp.iterF (λx=>(0<=x.1/\x.1<=v13)/\dL ⟨x.2.1,x.2.2.1,x.2.2.2.1⟩/\((x.2.2.2.2.length:Int)=n/\∀e∈x.2.2.2.2,e.2.length<=20*v13.toNat+2*x.1.toNat)/\JM x.2.2.2.2) (λx=>(v13-x.1).toNat) ⟨⟨by omega,by omega⟩,i2,⟨i3,by grind⟩,i5⟩ oaa ?_
   rintro⟨v43,v44,v45,v46,v47⟩ ⟨⟨j0,j1⟩,j2,⟨j3,j4⟩,j5⟩
   simp only at j0 j1 j2 j3 j4 j5
   simp only[C5]
   refine Wp.cond (λhc=>?_) (λhc=>Wp.some ⟨j2,⟨j3,λe he=>by grind⟩,j5⟩)
   have hc:=mu hc
   refine Wp.call (P:=λx=>dL ⟨x.2.1,x.2.2.1,x.2.2.2⟩) ?_ ?_
   .refine Wp.cond (λ_=>Wp.call (yI j2 oaa) λr62 h62=>?_) (λ_=>Wp.call (yI j2 oaa) λr64 h64=>Wp.some h64)
    exact Wp.cond (λ_=>Wp.some h62) (λ_=>Wp.call (yI h62 oaa) λr63 h63=>Wp.some h63)
   rintro⟨v58,v59,v60,v61⟩ hc2
   refine Wp.call (P:=λx=>((x.length:Int)=n/\∀e∈x,e.2.length<=20*v13.toNat+2*v43.toNat+2)/\JM x) ?_ ?_
   .refine Wp.cond (λ_=>Wp.call (wJoinJ (B:=20*v13.toNat+2*v43.toNat) oaa j4 j5 oaa oaa oaa oaa oaa) λr65 h65=>Wp.some ⟨⟨by omega,h65.1.2⟩,h65.2⟩) (λ_=>Wp.some ⟨⟨j3,λe he=>by grind⟩,j5⟩)
   intro v62 h62
   refine Wp.some ⟨⟨⟨?_,?_⟩,hc2,⟨h62.1.1,λe he=>?_⟩,h62.2⟩,?_⟩
   all_goals simp only[bP (show-9223372036854775808<=v43+1/\v43+1<=9223372036854775807 by omega)]
   .omega
   .omega
   .grind
   omega
  rintro⟨v55,v56,v57,v58⟩ ⟨k1,⟨k2,k3⟩,k4⟩
  simp only at k1 k2 k3 k4
  refine Wp.some ⟨⟨⟨?_,?_⟩,k1,⟨k2,λe he=>?_⟩,k4⟩,?_⟩
  all_goals simp only[bP (show-9223372036854775808<=v13+1/\v13+1<=9223372036854775807 by omega)]
  .omega
  .omega
  .grind
  omega
 rintro⟨v40,v41,v42,v43⟩ ⟨hc,⟨hl,hb⟩,hj⟩
 simp only at hc hl hb hj
 have hn5:2<=v43.length/\v43.length<=5:=by omega
 refine Wp.call (P:=λx=>((x.length:Int)=n/\∀e∈x,e.2.length<=200)/\∀(i:Nat) e,v43[i]?=some e->∃e',x[i]?=some e'/\RW n e e') ?_ λv78 h78=>Wp.some ⟨hc,⟨by grind,h78.1.2⟩,NE hj (by grind) hn5 (by grind)⟩
 refine Wp.iterF (λx=>(0<=x.1/\x.1<=n)/\((x.2.length:Int)=n/\∀e∈x.2,e.2.length<=200)/\∀(i:Nat) e,v43[i]?=some e->∃e',x.2[i]?=some e'/\((i:Int)<x.1->RW n e e')/\(x.1<=(i:Int)->e'=e)) (λx=>(n-x.1).toNat) ⟨⟨by omega,by omega⟩,⟨hl,hb⟩,λi e he=>⟨e,he,λhi=>by omega,λ_=>rfl⟩⟩ oaa ?_
 rintro⟨v66,v67⟩ ⟨⟨i0,i1⟩,⟨i3,i4⟩,i5⟩
 simp only at i0 i1 i3 i4 i5
 simp only[C6,<-hn]
 refine Wp.cond (λhb=>?_) (λhb=>Wp.some ⟨⟨i3,i4⟩,λi e he=>?_⟩)
 rotate_left
 .obtain⟨e',h1,h2,h3⟩:=i5 i e he
  have hi:=(aaa.1 he).1
  have:=qz hb
  grind
 have hb:=mu hb
 obtain⟨q,rfl⟩:∃q:Nat,v66=q:=⟨v66.toNat,by omega⟩
 obtain⟨e0,he0⟩:∃e0,v43[q]?=some e0:=⟨_,v0 oaa⟩
 obtain⟨eq',hq1,_,hq3⟩:=i5 q e0 he0
 have hq3:=hq3 (acA _)
 subst hq3
 have hl0:=i4 eq' (aab hq1)
 refine Wp.call (P:=λx=>(x.length:Int)<=n/\(∀z,z∈x↔z∈eq'.2/\(0<=z/\z<n))/\x.Pairwise λx y=>x<y) ?_ ?_
 .refine Wp.iterF (λx=>(0<=x.1/\x.1<=n)/\(x.2.length:Int)<=x.1/\(∀z,z∈x.2↔z∈eq'.2/\(0<=z/\z<x.1))/\x.2.Pairwise λx y=>x<y) (λx=>(n-x.1).toNat) ⟨⟨by omega,by omega⟩,by simp,λz=>by simp,by simp⟩ oaa ?_
  rintro⟨v79,v80⟩ ⟨⟨j0,j1⟩,j2,j3,j4⟩
  simp only at j0 j1 j2 j3 j4
  simp only[C7,<-hn]
  refine Wp.cond (λhc=>?_) (λhc=>?_)
  rotate_left
  .have:=qz hc
   have e:v79=n:=by omega
   subst e
   exact Wp.some ⟨j2,j3,j4⟩
  have hc:=mu hc
  simp only[bu,hq1,abM,Uc (show eq'.2.length<=1048576 by omega)]
  have key:(eq'.2.any λx=>eqB x v79)=true↔v79∈eq'.2:=by
   rw[aax];exact⟨λ⟨x,h1,h2⟩=>by rw[<-qi h2];exact h1,λh=>⟨v79,h,bX _⟩⟩
  refine Wp.call (P:=λx=>(x.length:Int)<=v79+1/\(∀z,z∈x↔z∈eq'.2/\(0<=z/\z<v79+1))/\x.Pairwise λx y=>x<y) ?_ λx hx=>Wp.some ⟨⟨⟨?_,?_⟩,?_,?_,hx.2.2⟩,?_⟩
  .refine Wp.cond (λhh=>Wp.ok (f7 (by simp;omega) (by simp;omega)) (Wp.some ⟨by simp;omega,λz=>?_,?_⟩)) (λhh=>Wp.some ⟨by omega,λz=>?_,j4⟩)
   .grind
   .grind
   grind
  all_goals simp only[bP (show-9223372036854775808<=v79+1/\v79+1<=9223372036854775807 by omega)]
  .omega
  .omega
  .exact hx.1
  .exact hx.2.1
  omega
 intro v84 h84
 simp only[bu,hq1,abM,abN]
 refine Wp.some ⟨⟨⟨?_,?_⟩,⟨by grind,JU i4 (by grind)⟩,λi e he=>?_⟩,?_⟩
 all_goals simp only[bP (show-9223372036854775808<=(q:Int)+1/\(q:Int)+1<=9223372036854775807 by omega)]
 .omega
 .omega
 .obtain⟨e',h1,h2,h3⟩:=i5 i e he
  by_cases hi:q=i
  .subst hi
   rw[he0] at he;cases he
   exact⟨(eq'.1,v84),by grind,λ_=>⟨rfl,h84.2.1,h84.2.2,h84.1⟩,λh=>by omega⟩
  grind
 omega
theorem Wn {c:bk} (h:dL c):Wp (BD c) (λr=>dL r.2/\gj r.1/\pO r.1=true):=by
 unfold BD
 exact Wp.call (wDrawJ h) λr hr=>Wp.some ⟨hr.1,U2 hr.2.1.1.2 (λe he=>by grind),hr.2.2⟩
theorem D4 {τ ρ:Type} {L:τ->Option (cr τ ρ)} (mk:Nat->τ) (xs:List α) (p:Nat->α->Bool) (f:ρ) (c:Option ρ) (hl:xs.length<=9223372036854775806)
 (hs:∀(k:Nat) (x:α),xs[k]?=some x->k<xs.length->L (mk k)=bif p k x then some (.next (mk (k+1))) else some (.done f)) (he:L (mk xs.length)=dn c):
 iter L FU (mk 0)=bif gb p xs then c else some f:=by
 have:=eJ (step:=L) xs.zipIdx (λk (_:Unit)=>mk k) (λ_ y=>bif p y.2 y.1 then some (.next ()) else some (.done f)) (λ_=>c) (by simp_all)
  (λk y s hy hk=>by
   have hk':k<xs.length:=by simpa using hk
   have:y=(xs[k],k):=by rw[v0 hk] at hy;simpa using hy.symm
   simp_all) (λs=>by simp_all) ()
 refine Eq.trans (show iter L FU (mk 0)=_ from this) ?_
 have key:∀ys:List (α×Nat),lk (λ(_:Unit) y=>bif p y.2 y.1 then some (.next ()) else some (cr.done f)) (λ_=>c) ys ()=bif ys.all (λy=>p y.2 y.1) then c else some f:=by
  intro ys
  induction ys with
  |nil=>rfl
  |cons x xs ih=>rw[lk];grind
 exact key _
theorem Hg (xs:List α):gb (λ_ _=>true) xs=true:=ez.2 λ_ _ _=>rfl
theorem L8 {m:aS} (h:gj m):qH m=some m:=by
 have hl:=h.1
 have:=D4 (L:=jP m) (λk=>((k:Int),m.bb.take k)) m.bb (λ_ _=>true) m.bb (some m.bb) oaa (λk x hx hk=>by
  have hm:=aab hx
  have h1:=(h.2 x hm).1
  have e:m.bb.take (k+1)=m.bb.take k++[x]:=by rw[ab2,hx];rfl
  simp only[jP,cA hk,bu,hx,abb,e,WRs (k:=k),
   f7 (b:=8) (n:=x.cQ.length) oaa oaa,
   f7 (b:=32) (n:=(m.bb.take k++[(⟨x.fZ,x.cQ⟩:fc)]).length) (by simp;omega) (by simp;omega),au]) (by simp[jP])
 rw[Hg] at this
 have this:iter (jP m) FU (0,[])=some m.bb:=by simpa using this
 rw[qH,this];rfl
def Aw (x y:aO):Bool:=eqB x.ID.eb y.ID.eb&&(eqB x.ID.bV y.ID.bV&&true)
theorem RI (x y:aO):Aw x y=(eqB x.ID.eb y.ID.eb&&(eqB x.ID.bV y.ID.bV&&true)):=rfl
def Fq (rs:List aO) (k:Nat) (x:aO):Bool:=tE x&&gb (λ_ y=>!Aw y x) (rs.take k)
def uG (rs:List aO):Bool:=gb (Fq rs) rs&&leB (rs.length:Int) 4
theorem Ml {xs:List α} (h:(xs.take k)[i]?=some x):xs[i]?=some x/\i<k:=by
 grind
theorem NB {rs:List aO} (hl:rs.length<=1000):ux rs=some (uG rs):=by
 have h2:∀(i:Nat) (x:aO),rs[i]?=some x->iter (o8 rs (i:Int)) FU 0=bif gb (λ_ y=>!Aw y x) (rs.take i) then some (.next ((i+1:Nat):Int)) else some (.done false):=by
  intro i x hx
  have hi:=(aaa.1 hx).1
  have hlt:(rs.take i).length=i:=by simp;omega
  refine lq (rs.take i) (λ_ y=>!Aw y x) (cr.done false) _ oaa (λk y hy hk=>?_) (by simp[o8,hlt,WRs (k:=i)])
  obtain⟨hy',hki⟩:=Ml hy
  simp only[o8,cA hki,bu,hx,hy',WRs (k:=k),<-RI,au]
  cases Aw y x<;>rfl
 have hL:iter (o7 rs) FU 0=bif gb (Fq rs) rs then some (leB (rs.length:Int) 4) else some false:=by
  refine lq rs (Fq rs) false _ oaa (λk x hx hk=>?_) (by simp[o7])
  simp only[o7,cA hk,bu,hx,Vm,h2 k x hx,Fq,au]
  cases tE x<;>cases gb (λ_ y=>!Aw y x) (rs.take k)<;>rfl
 simp only[ux,hL,uG]
 grind
def uN (c:Nat) (rs:List aO) (j:Nat):aG:=⟨⟨(rs.getD j default).ID,(rs.getD j default).eX,(rs.getD j default).cW⟩,0,abK (j:Int) (c:Int),0,0,0,false,0,⟨1,[],[]⟩⟩
def mQ (p:bR) (rs:List aO) (j:Nat):ah:=⟨rs.getD j default,p,0,⟨0,0,0,0,0⟩,0,0,0,0,0,0,⟨0,0,0⟩,[],⟨1,[]⟩,0,⟨(j:Int),0,0⟩⟩
def AO (b:Int):Int:=bif inR b 0 100000 then b else 0
def z1 (b:Int):aj:=⟨AO b,AO b,0,[]⟩
def ip (m:aS) (rs:List aO) (p:bR) (b:Int) (n:Nat):ab:=
 ⟨m,(f5 n).map (uN m.bb.length rs),(f5 n).map (mQ p rs),(f5 n).map (λ_=>z1 b),[],0,⟨2,3⟩,0,0⟩
def zeroN:ab:=⟨⟨[]⟩,[],[],[],[],0,⟨0,0⟩,0,0⟩
theorem acc_s (b:Int):uf b=some (z1 b):=by
 simp only[uf,fK,abM,z1,AO];cases inR b 0 100000<;>rfl
theorem ses_s {p:bR} (h:eK p) (x:aO) (k:Int):uh x p k=some (⟨x,p,0,⟨0,0,0,0,0⟩,0,0,0,0,0,0,⟨0,0,0⟩,[],⟨1,[]⟩,0,⟨k,0,0⟩⟩:ah):=by
 have h1:=h.1
 simp only[uh,vK,abb,f7 (b:=8) (n:=p.bU.length) oaa oaa,au];rfl
theorem Xf (c:lp) (k:Int):Au c k=some (⟨c,0,k,0,0,0,false,0,⟨1,[],[]⟩⟩:aG):=by rfl
theorem Rq (f:Nat->α) (k:Nat):(f5 (k+1)).map f=(f5 k).map f++[f k]:=by rw[List.range_succ,abe];rfl
theorem OV [Inhabited α] {xs:List α} (h:xs[k]?=some x):xs.getD k default=x:=by simp_all
def mkN (m:aS) (rs:List aO) (p:bR) (b:Int) (k:Nat):Int×List aj×List ah×List aG:=((k:Int),(ip m rs p b k).bG,(ip m rs p b k).aA,(ip m rs p b k).aw)
theorem new_s {m:aS} (hm:gj m) {rs:List aO} (hl:rs.length<=1000) {p:bR} (hp:eK p) (b:Int):
 ug m rs p b=some (bif pO m&&(qK p&&uG rs) then ip m rs p b rs.length else zeroN):=by
 simp only[ug,Y4 hm,V1 hp,NB hl,abM]
 cases hv:pO m with
 |false=>rfl
 |true=>
  cases qK p with
  |false=>rfl
  |true=>
   cases uG rs with
   |false=>rfl
   |true=>
    have hc:1<=m.bb.length:=by
     simp only[pO,hV] at hv
     have:=bQ.1 hv.1;omega
    have hz:eqB (m.bb.length:Int) 0=false:=eqB_f.2 oaa
    have:=D4 (L:=oQ m rs p b) (mkN m rs p b) rs (λ_ _=>true) ((ip m rs p b rs.length).bG,(ip m rs p b rs.length).aA,(ip m rs p b rs.length).aw) (some ((ip m rs p b rs.length).bG,(ip m rs p b rs.length).aA,(ip m rs p b rs.length).aw)) oaa (λk x hx hk=>by
     simp only[mkN,ip,oQ,cA hk,bu,hx,hz,Xf,c8,ses_s hp,acc_s,WRs (k:=k),Rq,
      f7 (b:=144) (n:=((f5 k).map (uN m.bb.length rs)++[(⟨⟨x.ID,x.eX,x.cW⟩,0,abK (k:Int) (m.bb.length:Int),0,0,0,false,0,⟨1,[],[]⟩⟩:aG)]).length) (by simp;omega) (by simp;omega),
      f7 (b:=288) (n:=((f5 k).map (mQ p rs)++[(⟨x,p,0,⟨0,0,0,0,0⟩,0,0,0,0,0,0,⟨0,0,0⟩,[],⟨1,[]⟩,0,⟨(k:Int),0,0⟩⟩:ah)]).length) (by simp;omega) (by simp;omega),
      f7 (b:=48) (n:=((f5 k).map (λ_=>z1 b)++[(⟨(z1 b).gU,(z1 b).bY,(z1 b).ey,[]⟩:aj)]).length) (by simp;omega) (by simp;omega),uN,mQ,OV hx,au]
     rfl) (by simp[mkN,oQ])
    rw[Hg] at this
    simp only[Bool.and_self,L8 hm,au]
    rw[show((0:Int),([]:List aj),([]:List ah),([]:List aG))=mkN m rs p b 0 from rfl,this]
    rfl
section
variable {m:aS} {rs:List aO} {p:bR} {b:Int}
theorem w0:WR 0=0:=bP oaa
theorem w1:WR 1=1:=bP oaa
theorem okN (hm:gj m) (hp:eK p) (hl:rs.length<=1000):iA (ip m rs p b rs.length):=by
 refine⟨hm,⟨by simp[ip];omega,λx hx=>?_⟩,⟨by simp[ip];omega,λx hx=>?_⟩,⟨by simp[ip];omega,λx hx=>?_⟩,⟨by simp[ip],λx hx=>by simp[ip] at hx⟩⟩
 .obtain⟨k,_,rfl⟩:=aba.1 hx
  exact⟨⟨by simp[uN],by simp[uN]⟩,⟨by simp[uN],by simp[uN]⟩⟩
 .obtain⟨k,_,rfl⟩:=aba.1 hx
  exact⟨hp,⟨by simp[mQ],by simp[mQ]⟩,⟨by simp[mQ],by simp[mQ]⟩⟩
 obtain⟨k,_,rfl⟩:=aba.1 hx
 exact⟨by simp[z1],λ_ _=>trivial⟩
theorem HP (f:Nat->α) {n:Nat} (hk:k<n):((f5 n).map f)[k]?=some (f k):=by simp[hk]
theorem Bs {f:Nat->α} {n:Nat} (h:((f5 n).map f)[k]?=some x):k<n/\x=f k:=by
 grind
theorem ZA (b:Int):0<=AO b/\AO b<=100000:=by
 unfold AO
 cases h:inR b 0 100000 with
 |false=>simp
 |true=>simpa using bQ.1 h
variable (H:pO m=true/\qK p=true/\uG rs=true)
include H
theorem Eg:1<=m.bb.length/\m.bb.length<=6:=by
 obtain⟨hv,hs,hr⟩:=id H
 simp only[pO,hV] at hv
 have:=bQ.1 hv.1;omega
theorem PO (hk:k<rs.length):tE (rs.getD k default)=true:=by
 obtain⟨hv,hs,hr⟩:=id H
 simp only[uG,hV] at hr
 have:=ez.1 hr.1 k _ (v0 hk)
 simp only[Fq,hV] at this
 simp_all
theorem Vn:rs.length<=4:=by
 obtain⟨hv,hs,hr⟩:=id H
 simp only[uG,hV] at hr
 have:=zu hr.2;omega
theorem ZI (hk:k<rs.length):li (uN m.bb.length rs k)=true:=by
 obtain⟨hv,hs,hr⟩:=id H
 have h1:=PO H hk
 obtain⟨c1,c2⟩:=Eg H
 have h2:=DQ (v:=(k:Int)) (n:=(m.bb.length:Int)) oaa oaa
 simp only[tE,hV] at h1
 simp only[li,uN,uH,h1.1,h1.2.1,h1.2.2,bQ.2 (show(0:Int)<=abK (k:Int) (m.bb.length:Int)/\abK (k:Int) (m.bb.length:Int)<=5 from⟨h2.1,by omega⟩),abW,abQ]
 simp[inR,leB,ra,pb,BS,gb,eqB,w1]
theorem ses_in (hk:k<rs.length):ja (mQ p rs k)=true:=by
 obtain⟨hv,hs,hr⟩:=id H
 have h1:=PO H hk
 have hq:lT (⟨(k:Int),0,0⟩:cP)=true:=by simp[lT,leB]
 simp only[ja,mQ,h1,hs,hq,abW]
 have hp:uc (mQ p rs k)=true:=by
  simp[uc,mQ,LN,hq,yf,w0,leB]
 simp only[mQ] at hp
 rw[hp]
 simp[inR,leB,ltB,ra,ki,kj,E5,BS,gb,eqB,w1]
theorem SU:jM (z1 b)=true:=by
 obtain⟨hv,hs,hr⟩:=id H
 obtain⟨b1,b2⟩:=ZA b
 simp only[jM,z1,Sa,Sb,List.foldl_nil,Int.add_zero,bP (show-9223372036854775808<=AO b/\AO b<=9223372036854775807 by omega),bQ.2 (show(0:Int)<=AO b/\AO b<=100000 from⟨b1,b2⟩),bQ.2 (show(0:Int)<=AO b/\AO b<=AO b from⟨b1,by omega⟩),bQ.2 (show(0:Int)<=0/\(0:Int)<=AO b from⟨by omega,b1⟩),bX,abW,abQ]
 simp[leB,gb]
theorem mem_in (hk:k<rs.length):wm (ip m rs p b rs.length) k (uN m.bb.length rs k)=true:=by
 obtain⟨hv,hs,hr⟩:=id H
 obtain⟨c1,c2⟩:=Eg H
 have h2:=DQ (v:=(k:Int)) (n:=(m.bb.length:Int)) oaa oaa
 have hq:lT (⟨(k:Int),0,0⟩:cP)=true:=by simp[lT,leB]
 have e1:(ip m rs p b rs.length).aA[k]?=some (mQ p rs k):=HP _ hk
 have e2:(ip m rs p b rs.length).bG[k]?=some (z1 b):=HP _ hk
 have i1:EV (uN m.bb.length rs k) (mQ p rs k)=true:=by simp[EV,uN,mQ]
 have i2:eN (ip m rs p b rs.length).ev (uN m.bb.length rs k).bh=true:=bQ.2 (show(0:Int)<=abK (k:Int) (m.bb.length:Int)/\abK (k:Int) (m.bb.length:Int)<=(m.bb.length:Int)-1 from⟨h2.1,by omega⟩)
 have i3:eN (ip m rs p b rs.length).ev (mQ p rs k).bh=true:=bQ.2 (show(0:Int)<=0/\(0:Int)<=(m.bb.length:Int)-1 from⟨by omega,by omega⟩)
 have i4:wX (z1 b) (mQ p rs k).b9=true:=by
  have ha:=SU (b:=b) H
  simp only[z1] at ha
  simp[wX,ha,mQ,hq,iJ,z1,eqB]
 have i5:eqB (mQ p rs k).b9.aJ (k:Int)=true:=by simp[mQ]
 simp only[wm,e1,e2,ZI H hk,ses_in H hk,SU (b:=b) H,i1,i2,i3,i4,i5,abQ]
theorem net_in:mT (ip m rs p b rs.length)=true:=by
 obtain⟨hv,hs,hr⟩:=id H
 obtain⟨c1,c2⟩:=Eg H
 have hl:=Vn H
 have he:Ae (ip m rs p b rs.length)=true:=by
  have:∀c:Nat,1<=c->c<=6->inR 0 0 (WR ((lX .i64 1 (c:Int))-1))=true:=by
   intro c h1 h2
   rcases(show c=1\/c=2\/c=3\/c=4\/c=5\/c=6 by omega) with rfl|rfl|rfl|rfl|rfl|rfl<;>kernel_rfl
  simp only[Ae,ip,this _ c1 c2,abW];simp[inR,leB]
 have hp:jQ (ip m rs p b rs.length).eC=true:=by show jQ ⟨2,3⟩=true;kernel_rfl
 have ha:gb (wm (ip m rs p b rs.length)) (ip m rs p b rs.length).aw=true:=ez.2 λk d hd=>by
  obtain⟨hk,rfl⟩:=Bs hd
  exact mem_in H hk
 have hd:(ip m rs p b rs.length).aw.length=rs.length:=by simp[ip]
 have hse:(ip m rs p b rs.length).aA.length=rs.length:=by simp[ip]
 have hac:(ip m rs p b rs.length).bG.length=rs.length:=by simp[ip]
 simp only[mT,show pO (ip m rs p b rs.length).ev=true from hv,hp,ha,he,hd,hse,hac,bX,leB_t.2 (show(rs.length:Int)<=4 by omega),abW,abQ]
 simp[ip,leB,eqB]
end
theorem B2:∀(l:List Int) (r:ByteArray),(l.foldl (λr n=>r.push (UInt8.ofNat n.toNat)) r).data.toList=r.data.toList++l.map λn=>UInt8.ofNat n.toNat
 |[],r=>by simp
 |x::l,r=>by
  rw[List.foldl_cons,B2 l,aau]
  simp[ByteArray.push]
theorem Tk {a b:List Int} (ha:okB a) (hb:okB b) (h:xm a=xm b):a=b:=by
 have h1:=B2 a ByteArray.empty
 have h2:=B2 b ByteArray.empty
 have e:(a.foldl (λr n=>r.push (UInt8.ofNat n.toNat)) ByteArray.empty).data.toList=(b.foldl (λr n=>r.push (UInt8.ofNat n.toNat)) ByteArray.empty).data.toList:=by
  have:xm a=xm b:=h
  unfold xm at this;rw[this]
 rw[h1,h2] at e
 replace e:=List.append_cancel_left e
 clear h h1 h2
 induction a generalizing b with
 |nil=>cases b with
  |nil=>rfl
  |cons y b=>simp at e
 |cons x a ih=>cases b with
  |nil=>simp at e
  |cons y b=>
   simp only[aau,List.cons.injEq] at e
   have hx:=ha x (by simp)
   have hy:=hb y (by simp)
   have e1:=congrArg UInt8.toNat e.1
   simp only[yk] at hx hy
   rw[UInt8.toNat_ofNat',UInt8.toNat_ofNat'] at e1
   rw[ih (λz hz=>ha z (by simp[hz])) (λz hz=>hb z (by simp[hz])) e.2,show x=y by omega]
theorem P9 {a:List Int} (ha:okB a) (hb:okB b):strB (xm a) (xm b)=decide (a=b):=by
 rw[abO,strB_t,decide_eq_true_eq]
 exact⟨Tk ha hb,λh=>by rw[h]⟩
theorem JB {x:av} (hx:okB x.bz.a9) (hy:okB y.bz.a9):qC x y=some (decide (x=y)):=by
 have key:(bif eqB x.ag y.ag then bif eqB x.aV y.aV then bif eqB x.bz.cZ y.bz.cZ then bif eqB x.bz.fQ y.bz.fQ then bif eqB x.bz.iK y.bz.iK then decide (x.bz.a9=y.bz.a9) else false else false else false else false else false)=decide (x=y):=by
  rw[abO]
  obtain⟨g,e,⟨a,b,c,d⟩⟩:=x
  obtain⟨g',e',⟨a',b',c',d'⟩⟩:=y
  simp only[eqB,cond_eq_ite]
  simp only[decide_eq_true_eq,av.mk.injEq,bi.mk.injEq]
  constructor
  .intro h
   split at h<;>try (cases h;done)
   split at h<;>try (cases h;done)
   split at h<;>try (cases h;done)
   split at h<;>try (cases h;done)
   split at h<;>try (cases h;done)
   simp_all
  rintro⟨rfl,rfl,rfl,rfl,rfl,rfl⟩;simp
 rw[<-key]
 simp only[qC,p7,qB,P9 hx hy]
 cases eqB x.ag y.ag<;>cases eqB x.aV y.aV<;>cases eqB x.bz.cZ y.bz.cZ<;>cases eqB x.bz.fQ y.bz.fQ<;>cases eqB x.bz.iK y.bz.iK<;>rfl
def VR (a b:aF):Bool:=(eqB a.a8 b.a8&&(eqB a.bh b.bh&&(eqB a.ag b.ag&&(eqB a.aV b.aV&&(eqB a.bV b.bV&&(eqB a.cd.ew b.cd.ew&&(eqB a.cd.f4 b.cd.f4&&(eqB a.cd.iK b.cd.iK&&(eqB a.cd.w8 b.cd.w8&&(eqB a.cd.eX b.cd.eX&&(eqB a.iK b.iK&&true)))))))))))
theorem Ys (a b:aF):VR a b=decide (a=b):=by
 rw[abO]
 obtain⟨a1,a2,a3,a4,a5,⟨v1,v2,v3,v4,v5⟩,a6⟩:=a
 obtain⟨b1,b2,b3,b4,b5,⟨w1,w2,w3,w4,w5⟩,b6⟩:=b
 simp only[VR,hV,eqB_t,decide_eq_true_eq,aF.mk.injEq,cy.mk.injEq]
 constructor
 .rintro⟨rfl,rfl,rfl,rfl,rfl,rfl,rfl,rfl,rfl,rfl,rfl,_⟩;simp
 rintro⟨rfl,rfl,rfl,rfl,rfl,⟨rfl,rfl,rfl,rfl,rfl⟩,rfl⟩;simp
theorem VM {x y:bM} (hx:okB x.co.bz.a9) (hy:okB y.co.bz.a9):lQ x y=some (decide (x=y)):=by
 have key:(eqB x.bm y.bm&&(booB x.eG y.eG&&(booB x.dZ y.dZ&&(eqB x.bh y.bh&&(VR x.bg y.bg&&decide (x.co=y.co))))))=decide (x=y):=by
  rw[abO]
  obtain⟨a1,a2,a3,a4,a5,a6⟩:=x
  obtain⟨b1,b2,b3,b4,b5,b6⟩:=y
  simp only[Ys,hV,eqB_t,booB_t,decide_eq_true_eq,bM.mk.injEq]
 rw[<-key]
 simp only[lQ,JB hx hy,abM]
 rw[show(eqB x.bg.a8 y.bg.a8&&(eqB x.bg.bh y.bg.bh&&(eqB x.bg.ag y.bg.ag&&(eqB x.bg.aV y.bg.aV&&(eqB x.bg.bV y.bg.bV&&(eqB x.bg.cd.ew y.bg.cd.ew&&(eqB x.bg.cd.f4 y.bg.cd.f4&&(eqB x.bg.cd.iK y.bg.cd.iK&&(eqB x.bg.cd.w8 y.bg.cd.w8&&(eqB x.bg.cd.eX y.bg.cd.eX&&(eqB x.bg.iK y.bg.iK&&true)))))))))))=VR x.bg y.bg from rfl]
 cases eqB x.bm y.bm<;>cases booB x.eG y.eG<;>cases booB x.dZ y.dZ<;>cases eqB x.bh y.bh<;>cases VR x.bg y.bg<;>rfl
def hUp (s:ah) (m:aF):Bool:=
 bif eqB m.a8 3 then leB m.ag s.bF.cW&&(!eqB m.ag s.bI||!eqB m.bV s.aK.w8) else
 bif eqB m.a8 5||eqB m.a8 8 then ltB m.ag s.ag||(eqB m.ag s.ag&&!tx s.aZ m) else true
def CN (d:aG) (m:aF):Bool:=
 bif eqB m.a8 2 then eqB (jS d.dr.eX d.dr.di m.cd) 1||eqB (jS d.dr.eX d.dr.di m.cd) 2 else
 bif eqB m.a8 4||eqB m.a8 6 then ltB m.ag d.ag||(eqB m.ag d.ag&&!tx d.aZ m) else true
def IO (d:aG) (x:av):Bool:=ltB x.ag d.ag||(eqB x.ag d.ag&&!wY d.aZ x)
def Nd (n:ab) (f:bM):Bool:=match n.aw[f.bm.toNat]?,n.aA[f.bm.toNat]? with
 |some d,some s=>bif f.dZ then f.eG||IO d f.co else bif f.eG then hUp s f.bg else CN d f.bg
 |_,_=>true
def ph (n:ab) (e:cX):Bool:=!eqB e.a8 13||(!yl n e.bD||(n.aT.any (λf=>decide (f=e.bD))||Nd n e.bD))
theorem hUp_s (s:ah) (m:aF):pa s m=some (hUp s m):=by
 simp only[pa,J7,abM,hUp]
 cases eqB m.a8 3<;>cases eqB m.a8 5<;>cases eqB m.a8 8<;>cases leB m.ag s.bF.cW<;>cases eqB m.ag s.bI<;>cases ltB m.ag s.ag<;>cases eqB m.ag s.ag<;>rfl
theorem Xs {d:aG} (m:aF):mh d m=some (CN d m):=by
 simp only[mh,J7,Qj,abM,CN]
 cases eqB m.a8 2<;>cases eqB m.a8 4<;>cases eqB m.a8 6<;>cases eqB (jS d.dr.eX d.dr.di m.cd) 1<;>cases ltB m.ag d.ag<;>cases eqB m.ag d.ag<;>rfl
theorem poss_s (h:NP B n) (f:bM):kh n f=some (yl n f):=by
 have hm6:=mZ h.map
 have hl:=h.ld
 simp only[kh,yl,fK,bP (n:=(n.ev.bb.length:Int)-1) oaa,bP (n:=(n.aw.length:Int)-1) oaa,abM]
 rw[show inR f.bh 0 ((n.ev.bb.length:Int)-1)=eN n.ev f.bh from rfl]
 cases ltB (n.aT.length:Int) 200<;>cases inR f.bm 0 ((n.aw.length:Int)-1)<;>rfl
theorem OX (h:NP B n) (he:EP e):nJ n e=some (ph n e):=by
 have hfl:=h.fl
 simp only[nJ,Ri h.okN,h.vn,poss_s h,abM,ph]
 cases eqB e.a8 13
 .rfl
 cases hp:yl n e.bD
 .rfl
 simp only[aaC,au]
 simp only[yl,hV,bQ] at hp
 obtain⟨d,s,a,e1,e2,e3,hm⟩:=h.at_ (show e.bD.bm.toNat<n.aw.length by omega)
 have hdev:=IH e.bD.bm hp.2.1.1
 have i1:ix n.aw e.bD.bm=some d:=by rw[hdev,bu];exact e1
 have i2:ix n.aA e.bD.bm=some s:=by rw[hdev,bu];exact e2
 have:=lq (L:=oJ n e) n.aT (λ_ f=>!decide (f=e.bD)) true (some (Nd n e.bD)) oaa (λk x hx hk=>by
  have hx':=h.fs x (aab hx)
  simp only[oJ,cA hk,bu,hx,VM hx'.b he.r,WRs (k:=k),dn,au]
  cases decide (x=e.bD)<;>rfl) (by
  simp only[oJ,cg,i1,i2,hUp_s,Xs,xi he.r,Nd,e1,e2,IO,au]
  cases e.bD.dZ<;>cases e.bD.eG<;>cases ltB e.bD.co.ag d.ag<;>cases eqB e.bD.co.ag d.ag<;>rfl)
 rw[this,qg]
 rw[show n.aT.all (λf=>!decide (f=e.bD))=!n.aT.any (λf=>decide (f=e.bD)) by rw[<-acF]]
 cases n.aT.any (λf=>decide (f=e.bD))<;>rfl
theorem wPlanV {c:bk} (h:dL c):Wp (BH c) (λr=>dL r.2/\r.1.bU.length<=4/\qK r.1=true):=by
 unfold BH
 refine Wp.call (eh h oaa) λr1 h1=>Wp.call (eh h1.1 oaa) λr2 h2=>Wp.call (eh h2.1 oaa) λr3 h3=>?_
 refine Wp.call (P:=λx=>dL x.2/\x.1.length<=4/\(∀a∈x.1,0<=a/\a<=3)/\x.1.Pairwise λa b=>a<b) ?_ ?_
 .refine Wp.iterF (λx=>(0<=x.1/\x.1<=4)/\dL x.2.2/\(x.2.1.length:Int)<=x.1/\(∀a∈x.2.1,0<=a/\a<x.1)/\x.2.1.Pairwise λa b=>a<b) (λx=>(4-x.1).toNat) ⟨⟨by omega,by omega⟩,h3.1,by simp,by simp,by simp⟩ (by simp) ?_
  rintro⟨v4,v8,v9⟩ ⟨⟨i0,i1⟩,i2,i3,i4,i5⟩
  simp only at i0 i1 i2 i3 i4 i5
  simp only[C9]
  refine Wp.cond (λhb=>?_) (λhb=>Wp.some ⟨i2,by show v8.length<=4;omega,λa ha=>by have:=i4 a ha;omega,i5⟩)
  have hb:=mu hb
  refine Wp.call (yI i2 oaa) λr15 h15=>?_
  refine Wp.call (P:=λx=>(x.length:Int)<=v4+1/\(∀a∈x,0<=a/\a<v4+1)/\x.Pairwise λa b=>a<b) ?_ λx hx=>Wp.some ⟨⟨⟨?_,?_⟩,h15,?_,?_,hx.2.2⟩,?_⟩
  .refine Wp.cond (λ_=>Wp.ok (f7 (by simp;omega) (by simp;omega)) (Wp.some ⟨by simp;omega,λa ha=>?_,?_⟩)) (λ_=>Wp.some ⟨by omega,λa ha=>by have:=i4 a ha;omega,i5⟩)
   .rcases aae.1 ha with ha|ha
    .have:=i4 a ha;omega
    simp at ha;omega
   refine List.pairwise_append.2 ⟨i5,by simp,λx hx y hy=>?_⟩
   simp at hy;have:=i4 x hx;omega
  all_goals simp only[bP (show-9223372036854775808<=v4+1/\v4+1<=9223372036854775807 by omega)]
  .omega
  .omega
  .exact hx.1
  .exact hx.2.1
  omega
 rintro⟨x,c2⟩ ⟨k1,k2,k3,k4⟩
 simp only at k1 k2 k3 k4
 refine Wp.some ⟨k1,k2,?_⟩
 simp only[qK,Fo,hV,bQ,ez]
 rw[bP (show-9223372036854775808<=1+r1.1/\1+r1.1<=9223372036854775807 by omega),bP (show-9223372036854775808<=1+r2.1/\1+r2.1<=9223372036854775807 by omega),bP (show-9223372036854775808<=1+r3.1/\1+r3.1<=9223372036854775807 by omega)]
 refine⟨⟨by omega,by omega,by omega⟩,λk a ha=>⟨k3 a (aab ha),DF (key:=id) (by simpa using k4) ha⟩⟩
theorem Wo {c:bk} (h:dL c):Wp (nh c) (λr=>dL r.2/\(1<=r.1.length/\r.1.length<=3)/\uG r.1=true/\∀y∈r.1,y.cW<=20):=by
 unfold nh
 refine Wp.call (eh h oaa) λr1 h1=>?_
 have hw:WR (1+r1.1)=1+r1.1:=bP oaa
 refine Wp.call (P:=λx=>dL x.2/\(x.1.length:Int)=1+r1.1/\∀(k:Nat) y,x.1[k]?=some y->tE y=true/\y.ID.bV=1+r1.1-k/\y.cW<=20) ?_ ?_
 .refine Wp.iterF (λx=>0<=x.1/\dL x.2.2/\(x.2.1.length:Int)+x.1=1+r1.1/\∀(k:Nat) y,x.2.1[k]?=some y->tE y=true/\y.ID.bV=1+r1.1-k/\y.cW<=20) (λx=>x.1.toNat) ⟨by rw[hw];omega,h1.1,by rw[hw];simp,by simp⟩ (by simp only;rw[hw];omega) ?_
  rintro⟨v2,v6,v7⟩ ⟨i0,i2,i3,i4⟩
  simp only at i0 i2 i3 i4
  simp only[tu]
  refine Wp.cond (λhb=>?_) (λhb=>Wp.some ⟨i2,by have:=qz hb;show(v6.length:Int)=_;omega,i4⟩)
  have hb:=mu hb
  have hkey:Wp (AD v7) (λr=>dL r.2/\ra r.1=true):=by
   unfold AD
   exact Wp.call (eh i2 oaa) λr1 h1=>Wp.some ⟨h1.1,bQ.2 (by rw[bP oaa];omega)⟩
  refine Wp.call hkey λr13 h13=>Wp.call (eh h13.1 oaa) λr14 h14=>Wp.ok (f7 (by simp;omega) (by simp;omega)) (Wp.some ⟨⟨?_,h14.1,?_,λk y hy=>?_⟩,?_⟩)
  rotate_left 2
  .rw[List.getElem?_append] at hy
   split at hy
   .exact i4 k y hy
   rename_i hk
   have hk0:k-v6.length=0:=by
    have:=(aaa.1 hy).1
    simp at this;omega
   rw[hk0] at hy
   simp at hy;subst hy
   simp only[tE,Oj,hV,bQ]
   exact⟨⟨⟨by omega,by omega⟩,h13.2,by omega⟩,by omega,by omega⟩
  all_goals simp only[bP (show-9223372036854775808<=v2-1/\v2-1<=9223372036854775807 by omega)]
  .omega
  .omega
  simp;omega
 rintro⟨x,c2⟩ ⟨k1,k2,k3⟩
 simp only at k1 k2 k3
 refine Wp.some ⟨k1,by show 1<=x.length/\x.length<=3;omega,?_,λy hy=>by obtain⟨k,hk⟩:=aal hy;exact(k3 k y hk).2.2⟩
 simp only[uG,hV,ez,Fq]
 refine⟨λk y hy=>⟨(k3 k y hy).1,λi z hz=>?_⟩,leB_t.2 oaa⟩
 obtain⟨hz1,hz2⟩:=Ml hz
 have e1:=(k3 k y hy).2.1
 have e2:=(k3 i z hz1).2.1
 have:eqB z.ID.bV y.ID.bV=false:=eqB_f.2 oaa
 simp[Aw,this]
inductive Reach:Nat->ab->Prop
 |new {m:aS} {rs:List aO} {p:bR} {b:Int} (h:pO m=true/\qK p=true/\uG rs=true) (hm:gj m) (hp:eK p) (hl:1<=rs.length/\rs.length<=3) (hq:∀y∈rs,y.cW<=20):Reach 0 (ip m rs p b rs.length)
 |step {k:Nat} {n:ab} {e:cX}:Reach k n->EP e->ph n e=true->Reach (k+1) (iz n e).2
def FS (n:ab) (e:cX):Prop:=e.a8=13->e.bD.dZ=true->e.bD.eG=false/\∃d,n.aw[e.bD.bm.toNat]?=some d/\e.bD.co.ag=d.ag/\wY d.aZ e.bD.co=false
theorem EB (n:ab) (h:e.a8≠13):FS n e:=λh1=>absurd h1 h
inductive DX:Nat->ab->Prop
 |new {m:aS} {rs:List aO} {p:bR} {b:Int} (h:pO m=true/\qK p=true/\uG rs=true) (hm:gj m) (hp:eK p) (hl:1<=rs.length/\rs.length<=3) (hq:∀y∈rs,y.cW<=20):DX 0 (ip m rs p b rs.length)
 |step {k:Nat} {n:ab} {e:cX}:DX k n->EP e->ph n e=true->FS n e->DX (k+1) (iz n e).2
theorem DX.re:∀{k:Nat} {n:ab},DX k n->Reach k n
 |_,_,.new h hm hp hl hq=>.new h hm hp hl hq
 |_,_,.step h he hh _=>.step h.re he hh
theorem Reach.np:∀{k:Nat} {n:ab},Reach k n->k<=1000000->NP (10000*(k:Int)) n
 |_,_,.new (m:=m) (rs:=rs) (p:=p) (b:=b) h hm hp hl _,_=>by
  have ok:iA (ip m rs p b rs.length):=okN hm hp oaa
  have v:=net_in (b:=b) h
  have by':BY (ip m rs p b rs.length):=by
   refine⟨λd hd=>?_,λd hd=>?_,λs hs=>?_,λs hs=>?_,by simp[ip]⟩
   .simp only[ip,aba] at hd;obtain⟨j,_,rfl⟩:=hd;simp[uN]
   .simp only[ip,aba] at hd;obtain⟨j,_,rfl⟩:=hd;simp[uN]
   .simp only[ip,aba] at hs;obtain⟨j,_,rfl⟩:=hs;simp[mQ]
   simp only[ip,aba] at hs;obtain⟨j,_,rfl⟩:=hs;simp[mQ]
  exact(NP.of ok v by').mono (by show(0:Int)<=_;omega)
 |_,_,.step (k:=k) h he _,hk=>by
  have:=(vR (h.np oaa) he oaa).2.2
  exact this.mono oaa
theorem Ev {k i c:Int} (hb:okB b):EP ⟨k,i,c,b,fM⟩:=⟨hb,Ke,λx hx=>by simp[fM,eB,mj] at hx⟩
theorem xJ (n:ab) (h:e.a8≠13):ph n e=true:=by
 rw[ph,eqB_f.2 h];rfl
theorem XZ (h:NP B n) (hs:n.aA[i]?=some s) (b:List Int):(iz n ⟨8,i,0,b,fM⟩).2={n with aA:=n.aA.set i (tD s b).1}:=by
 have hi:=(aaa.1 hs).1
 have hls:=h.ls
 obtain⟨d,s',a,e1,e2,e3,hm⟩:=h.at_ (show i<n.aw.length by omega)
 have hr:inR (i:Int) 0 ((n.aw.length:Int)-1)=true:=bQ.2 oaa
 simp only[iz]
 rw[if_neg (show ¬(8:Int)=1 by omega),if_neg (show ¬((8:Int)=2\/(8:Int)=3\/(8:Int)=4) by omega),if_pos (show(8:Int)=5\/(8:Int)=6\/(8:Int)=7\/True by simp)]
 simp only[GM,hr,abN,e1,hs,LG,LH,LI,au]
 cases hb:(tD s b).2
 .have hs':(tD s b).1=s:=by
   revert hb;rw[tD];cases leB 24 (s.aH.length:Int)||ltB 60 (b.length:Int)
   .intro hb;cases hb
   intro _;rfl
  simp only[cond_false,hs',gR hs]
 rfl
theorem own_on (h:NP B n) {d:aG} (hd:n.aw[i]?=some d):(iz n ⟨5,i,0,[],fM⟩).2=gM n i (dOn d):=by
 have hi:=(aaa.1 hd).1
 obtain⟨d',s,a,e1,e2,e3,hm⟩:=h.at_ hi
 have hr:inR (i:Int) 0 ((n.aw.length:Int)-1)=true:=bQ.2 oaa
 simp only[iz]
 rw[if_neg (show ¬(5:Int)=1 by omega),if_neg (show ¬((5:Int)=2\/(5:Int)=3\/(5:Int)=4) by omega),if_pos (show True\/(5:Int)=6\/(5:Int)=7\/(5:Int)=8 by simp)]
 simp only[GM,hr,abN,hd,e2,bX,au]
 cases hb:eqB d.bp 0
 .simp only[gM,dOn,hb,gR hd,aaJ,au];rfl
 rfl
def RN (B:Nat) (l:Nat) (n:ab):Prop:=∃k,DX k n/\k<=B/\n.aw.length=l
theorem RN.np {B:Nat} (h:RN B l n) (hB:B<=1000000):∃b:Int,NP b n/\b<=10000000000:=by
 obtain⟨k,h1,h2,_⟩:=h
 exact⟨_,h1.re.np oaa,by omega⟩
theorem RN.sub {B:Nat} (h:RN B l n) (hB:B<=1000000) (hs:n.aA[i]?=some s) (hb:okB b):RN (B+1) l {n with aA:=n.aA.set i (tD s b).1}:=by
 obtain⟨b',hn,_⟩:=h.np hB
 obtain⟨k,h1,h2,h3⟩:=h
 have:=DX.step h1 (Ev (k:=8) (i:=(i:Int)) (c:=0) hb) (xJ n (by simp)) (EB n (by simp))
 rw[XZ hn hs b] at this
 exact⟨_,this,by omega,h3⟩
theorem RN.on {B:Nat} (h:RN B l n) (hB:B<=1000000) {d:aG} (hd:n.aw[i]?=some d):RN (B+1) l (gM n i (dOn d)):=by
 obtain⟨b',hn,_⟩:=h.np hB
 obtain⟨k,h1,h2,h3⟩:=h
 have:=DX.step h1 (Ev (k:=5) (i:=(i:Int)) (c:=0) (b:=[]) (λx hx=>by simp at hx)) (xJ n (by simp)) (EB n (by simp))
 rw[own_on hn hd] at this
 exact⟨_,this,by omega,by rw[(pC n i (dOn d)).1];exact h3⟩
def RZ (B:Nat) (l:Nat) (n:ab):Prop:=∃k,DX k n/\k<=B/\n.aw.length=l/\n.dw=0
theorem RZ.rn {B:Nat} (h:RZ B l n):RN B l n:=by
 obtain⟨k,h1,h2,h3,_⟩:=h;exact⟨k,h1,h2,h3⟩
theorem RZ.np {B:Nat} (h:RZ B l n) (hB:B<=1000000):∃b:Int,NP b n/\b<=10000000000:=h.rn.np hB
theorem RZ.sub {B:Nat} (h:RZ B l n) (hB:B<=1000000) (hs:n.aA[i]?=some s) (hb:okB b):RZ (B+1) l {n with aA:=n.aA.set i (tD s b).1}:=by
 obtain⟨k,h1,h2,h3⟩:=h.rn.sub hB hs hb
 exact⟨k,h1,h2,h3,h.choose_spec.2.2.2⟩
theorem RZ.on {B:Nat} (h:RZ B l n) (hB:B<=1000000) {d:aG} (hd:n.aw[i]?=some d):RZ (B+1) l (gM n i (dOn d)):=by
 obtain⟨k,h1,h2,h3⟩:=h.rn.on hB hd
 exact⟨k,h1,h2,h3,(lP ((dOn d).dy.map (jj i true)) {n with aw:=n.aw.set i (dOn d).bm}).2.2.2.2.1.trans h.choose_spec.2.2.2⟩
theorem YI {c:bk} (h:dL c):Wp (BK c) (λr=>dL r.2/\∃l,(1<=l/\l<=3)/\RZ 40 l r.1):=by
 unfold BK
 refine Wp.call (wPlanV h) λr1 h1=>?_
 have hp:eK r1.1:=⟨by have:=h1.2.1;omega,λ_ _=>trivial⟩
 refine Wp.call (P:=λx=>dL x.2.2.2.2.2.2.2.1/\∃l,(1<=l/\l<=3)/\RZ 0 l ⟨⟨x.2.2.2.2.2.2.1⟩,x.2.2.2.2.2.1,x.2.2.2.2.1,x.2.2.2.1,[],x.1,x.2.2.2.2.2.2.2.2,x.2.1,x.2.2.1⟩) ?_ ?_
 .refine Wp.call (Wn h1.1) λr16 h16=>Wp.call (Wo h16.1) λr17 h17=>Wp.call (eh h17.1 oaa) λr18 h18=>?_
  have hv:pO r16.1=true/\qK r1.1=true/\uG r17.1=true:=⟨h16.2.2,h1.2.2,h17.2.2.1⟩
  have hl:=h17.2.1
  rw[new_s h16.2.1 oaa hp,hv.1,hv.2.1,hv.2.2]
  refine Wp.some ⟨h18.1,r17.1.length,hl,0,?_,Nat.le_refl _,by simp[ip]⟩
  exact DX.new (b:=WR (30+r18.1)) hv h16.2.1 hp hl h17.2.2.2
 rintro⟨v5,v8,v9,v10,v11,v12,v13,v14,v15⟩ ⟨hc,l,hl,hr⟩
 simp only at hc hr
 refine Wp.call (P:=λx=>dL x.1/\RZ 40 l x.2) ?_ λx hx=>Wp.some ⟨hx.1,l,hl,hx.2⟩
 refine Wp.iterF (λx=>(0<=x.1/\x.1<=(l:Int))/\dL x.2.1/\RZ (7*x.1.toNat) l x.2.2) (λx=>((l:Int)-x.1).toNat) ⟨⟨by simp only;omega,by simp only;omega⟩,hc,hr⟩ (by simp only;omega) ?_
 rintro⟨v20,v34,n⟩ ⟨⟨i0,i1⟩,i2,i3⟩
 simp only at i0 i1 i2 i3
 obtain⟨b,hn,hb⟩:=i3.np oaa
 have hdl:n.aw.length=l:=i3.choose_spec.2.2.1
 simp only[Ga]
 refine Wp.cond (λhb=>?_) (λhb=>Wp.some ⟨i2,?_⟩)
 rotate_left
 .obtain⟨k,g1,g2,g3⟩:=i3;exact⟨k,g1,by omega,g3⟩
 have hb:=mu hb
 obtain⟨q,rfl⟩:∃q:Nat,v20=q:=⟨v20.toNat,by omega⟩
 refine Wp.call (eh i2 oaa) λr117 h117=>?_
 refine Wp.call (P:=λx=>dL x.2/\RZ (7*q+6) l {n with aA:=x.1}) ?_ ?_
 .refine Wp.iterF (λx=>(0<=x.1/\x.1<=6)/\dL x.2.2/\RZ (7*q+(6-x.1.toNat)) l {n with aA:=x.2.1}) (λx=>x.1.toNat) ⟨⟨by simp only;omega,by simp only;omega⟩,h117.1,?_⟩ (by simp only;omega) ?_
  .obtain⟨k,g1,g2,g3⟩:=i3;exact⟨k,g1,by simp only[abN] at g2;omega,g3⟩
  rintro⟨v118,v122,v123⟩ ⟨⟨j0,j1⟩,j2,j3⟩
  simp only at j0 j1 j2 j3
  simp only[Gb]
  refine Wp.cond (λhc=>?_) (λhc=>Wp.some ⟨j2,?_⟩)
  rotate_left
  .obtain⟨k,g1,g2,g3⟩:=j3;exact⟨k,g1,by omega,g3⟩
  have hc:=mu hc
  obtain⟨b',hn',_⟩:=j3.np oaa
  have hls:=hn'.ls
  simp only at hls
  obtain⟨s,hs⟩:∃s,v122[q]?=some s:=⟨_,v0 oaa⟩
  obtain⟨d',s',a',e1,e2,e3,hm⟩:=hn'.at_ (i:=q) (by simp only;omega)
  simp only at e1 e2 e3
  rw[hs] at e2;cases e2
  simp only[bu,hs,abM]
  refine Wp.call (eh j2 oaa) λr135 h135=>Wp.call (Wq h135.1 h135.2.1 oaa) λr136 h136=>?_
  rw[Zl hm.sg.sp.ok]
  simp only[abM,abN]
  refine Wp.some ⟨⟨⟨?_,?_⟩,h136.1,?_⟩,?_⟩
  all_goals simp only[bP (show-9223372036854775808<=v118-1/\v118-1<=9223372036854775807 by omega)]
  .omega
  .omega
  .have:=j3.sub oaa (i:=q) hs h136.2.1
   obtain⟨k,g1,g2,g3⟩:=this
   exact⟨k,g1,by omega,g3⟩
  omega
 rintro⟨v132,v133⟩ ⟨k1,k2⟩
 simp only at k1 k2
 obtain⟨b',hn',_⟩:=k2.np oaa
 obtain⟨d,hd⟩:∃d,n.aw[q]?=some d:=⟨_,v0 oaa⟩
 obtain⟨d',s',a',e1,e2,e3,hm⟩:=hn'.at_ (i:=q) (by simp only;omega)
 simp only at e1
 rw[hd] at e1;cases e1
 refine Wp.call (yI k1 oaa) λr139 h139=>?_
 refine Wp.call (P:=λx=>RZ (7*q+7) l x) ?_ λx hx=>Wp.some ⟨⟨⟨?_,?_⟩,h139,?_⟩,?_⟩
 .refine Wp.cond (λ_=>?_) (λ_=>Wp.some ?_)
  .simp only[bu,hd,on_s hm.dp.ok,abM,abN]
   have hlen:=(MY d).len
   have:=eJ (step:=tp (q:Int) (dOn d)) (dOn d).dy (λk n=>((k:Int),n)) (λn x=>abJ (gS n (jj (q:Int) true x)) λr=>some (.next r)) some oaa
    (λk x n hx hk=>by
     simp only[tp,cA hk,bu,hx,WRs (k:=k),jj,au]
     cases gS n ⟨(q:Int),true,false,x.bh,x,eB⟩<;>rfl) (λn=>by simp[tp]) {n with aw:=n.aw.set q (dOn d).bm,aA:=v132}
   rw[vh gS (jj (q:Int) true) (λn x=>Bn (BC (q:Int) true x))] at this
   rw[show iter (tp (q:Int) (dOn d)) FU (0,{n with aw:=n.aw.set q (dOn d).bm,aA:=v132})=_ from this]
   exact Wp.some (k2.on oaa (i:=q) hd)
  obtain⟨k,g1,g2,g3⟩:=k2;exact⟨k,g1,by omega,g3⟩
 all_goals simp only[bP (show-9223372036854775808<=(q:Int)+1/\(q:Int)+1<=9223372036854775807 by omega)]
 .omega
 .omega
 .obtain⟨k,g1,g2,g3⟩:=hx;exact⟨k,g1,by omega,g3⟩
 omega
theorem w32New {c:bk} (h:dL c):Wp (BK c) (λr=>dL r.2/\∃l,(1<=l/\l<=3)/\RN 40 l r.1):=
 Wp.mono (YI h) λr ⟨h1,l,h2,h3⟩=>⟨h1,l,h2,h3.rn⟩
abbrev C2 {α:Type} (r:α×bk):Prop:=dL r.2
abbrev C1 {α:Type} (r:bk×α):Prop:=dL r.1
theorem Ol {c:bk} (h:dL c):Wp (zl c) C2:=by
 unfold zl
 refine Wp.call (yI h oaa) λr1 h1=>Wp.cond (λ_=>Wp.call (YJ h1 (by simp)) λr2 h2=>Wp.some h2.1) (λ_=>?_)
 refine Wp.call (yI h1 oaa) λr3 h3=>Wp.cond (λ_=>Wp.call (YJ h3 (by simp)) λr2 h2=>Wp.some h2.1) (λ_=>?_)
 exact Wp.call (eh h3 oaa) λr5 h5=>Wp.call (eh h5.1 oaa) λr6 h6=>Wp.some h6.1
theorem w5Seq {c:bk} (h:dL c):Wp (J1 c) C2:=by
 unfold J1
 refine Wp.call (yI h oaa) λr1 h1=>Wp.cond (λ_=>Wp.call (YJ h1 (by simp)) λr2 h2=>Wp.some h2.1) (λ_=>?_)
 exact Wp.call (eh h1 oaa) λr5 h5=>Wp.some h5.1
theorem w5Vec {c:bk} (h:dL c):Wp (zm c) C2:=by
 unfold zm
 refine Wp.call (wKey h) λr1 h1=>Wp.call (eh h1 oaa) λr2 h2=>Wp.call (w5Seq h2.1) λr3 h3=>?_
 rw[Ql]
 simp only[abM]
 refine Wp.call (eh h3 oaa) λr5 h5=>?_
 refine Wp.call (P:=C1) ?_ λx hx=>Wp.some hx
 refine Wp.cond (λ_=>Wp.call (Ol h5.1) λr h=>Wp.some h) (λ_=>?_)
 refine Wp.call (P:=C1) ?_ λx hx=>Wp.some hx
 refine Wp.cond (λ_=>Wp.call (YJ h5.1 (by simp)) λr h=>Wp.some h.1) (λ_=>?_)
 refine Wp.call (P:=λ_=>True) (Wp.cond (λ_=>Wp.some trivial) (λ_=>Wp.some trivial)) λx _=>Wp.some h5.1
theorem w30 {c:bk} (h:dL c) (s:ah):Wp (wO c s) C2:=by
 unfold wO
 refine Wp.call (eh h oaa) λr1 h1=>Wp.call (eh h1.1 oaa) λr2 h2=>Wp.call (eh h2.1 oaa) λr3 h3=>Wp.call (eh h3.1 oaa) λr4 h4=>?_
 refine Wp.call (P:=C1) ?_ λx hx=>?_
 .refine Wp.cond (λ_=>Wp.some h4.1) (λ_=>?_)
  refine Wp.call (P:=C2) ?_ λx hx=>Wp.some hx
  refine Wp.cond (λ_=>?_) (λ_=>Wp.some h4.1)
  refine Wp.call (eh h4.1 oaa) λr17 h17=>Wp.call (eh h17.1 oaa) λr18 h18=>?_
  rw[Lq];exact Wp.some h18.1
 obtain⟨v10,v11⟩:=x
 simp only[CC,abM]
 replace hx:dL _:=hx
 refine Wp.call (eh hx oaa) λr21 h21=>?_
 refine Wp.call (P:=C1) ?_ λx hx=>Wp.some hx
 refine Wp.cond (λ_=>Wp.call (Ol h21.1) λr h=>Wp.some h) (λ_=>?_)
 refine Wp.call (P:=λ_=>True) ?_ λx _=>Wp.some h21.1
 refine Wp.cond (λ_=>Wp.some trivial) (λ_=>?_)
 exact Wp.call (P:=λ_=>True) (Wp.cond (λ_=>Wp.some trivial) (λ_=>Wp.some trivial)) λx _=>Wp.some trivial
theorem w29 {c:bk} (h:dL c) (d:aG):Wp (DM c d) C2:=by
 unfold DM
 refine Wp.call (eh h oaa) λr1 h1=>?_
 refine Wp.call (P:=C1) ?_ λx hx=>?_
 .refine Wp.cond (λ_=>?_) (λ_=>?_)
  .rw[Tm]
   simp only[abM]
   rw[Ql]
   simp only[abM]
   refine Wp.call (yI h1.1 oaa) λr20 h20=>?_
   refine Wp.call (P:=C1) ?_ λx hx=>Wp.some hx
   exact Wp.cond (λ_=>Wp.call (w5Vec h20) λr h=>Wp.some h) (λ_=>Wp.some h20)
  refine Wp.call (P:=C2) ?_ λx hx=>Wp.some hx
  exact Wp.cond (λ_=>Wp.call (eh h1.1 oaa) λr h=>Wp.some h.1) (λ_=>Wp.some h1.1)
 obtain⟨v16,v17⟩:=x
 simp only[CC,abM]
 replace hx:dL _:=hx
 refine Wp.call (eh hx oaa) λr39 h39=>?_
 refine Wp.call (P:=C1) ?_ λx hx=>Wp.some hx
 refine Wp.cond (λ_=>Wp.call (Ol h39.1) λr h=>Wp.some h) (λ_=>?_)
 refine Wp.call (P:=C1) ?_ λx hx=>Wp.some hx
 refine Wp.cond (λ_=>Wp.call (eh h39.1 oaa) λr h=>Wp.some h.1) (λ_=>?_)
 exact Wp.call (P:=λ_=>True) (Wp.cond (λ_=>Wp.some trivial) (λ_=>Wp.some trivial)) λx _=>Wp.some h39.1
theorem rad_fr (h:w7 y) (i c:Int) (k:Int):kL ⟨i,false,true,c,d9,{y with bz:={y.bz with iK:=k}}⟩/\okB y.bz.a9:=⟨⟨Nat.le_trans h.2 (by decide),λ_ _=>trivial⟩,h.1⟩
abbrev FR (f:bM):Prop:=kL f/\okB f.co.bz.a9
abbrev FP2 (d:aG) (i:Int) (x:bk×bM):Prop:=dL x.1/\FR x.2/\(x.2.bm=i)/\((x.2.dZ=true/\x.2.eG=false/\IO d x.2.co=true/\x.2.co.ag=d.ag/\wY d.aZ x.2.co=false)\/x.2.dZ=false)
theorem X7 {d:aG} {k i cell:Int} {c:bk} (hc:dL c) (h:w7 y) (hh:IO d {y with bz:={y.bz with iK:=k}}=true) (hg:y.ag=d.ag) (hv:wY d.aZ {y with bz:={y.bz with iK:=k}}=false):
 Wp (some (c,(⟨i,false,true,cell,d9,{y with bz:={y.bz with iK:=k}}⟩:bM))) (FP2 d i):=
 Wp.some ⟨hc,rad_fr h _ _ _,rfl,.inl ⟨rfl,rfl,hh,hg,hv⟩⟩
theorem H9 (d:aG) (x:ae):wY d.aZ {iH d.aZ d.ag d.aV x with bz:={(iH d.aZ d.ag d.aV x).bz with iK:=abK (WR ((iH d.aZ d.ag d.aV x).bz.iK+1)) 2147483647}}=false:=by
 have hin:∀k (m:bi),0<=mac k m/\mac k m<2147483647:=λk m=>lE _ _
 have key:∀a:Int,0<=a->a<2147483647->abK (WR (a+1)) 2147483647≠a:=by
  intro a h0 h1 h
  rw[bP oaa,abP oaa] at h
  omega
 simp only[iH,FT,wY]
 rw[acG];right
 rw[acG];right
 refine eqB_f.2 ?_
 simp only[mac]
 exact key _ (hin _ ⟨1,x.cW,tC (dk (LR d.aZ d.aV) (2*x.cW+1)) x.a9,0⟩).1 (hin _ ⟨1,x.cW,tC (dk (LR d.aZ d.aV) (2*x.cW+1)) x.a9,0⟩).2
theorem QL (d:aG) (x:ae):IO d {iH d.aZ d.ag d.aV x with bz:={(iH d.aZ d.ag d.aV x).bz with iK:=abK (WR ((iH d.aZ d.ag d.aV x).bz.iK+1)) 2147483647}}=true:=by
 rw[IO,H9 d x]
 simp[iH,bX]
theorem wForge (h:NP B n) (hd:1<=n.aw.length) {c:bk} (hc:dL c):Wp (zk c n) (λr=>dL r.2/\EP r.1/\ph n r.1=true/\(r.1.bD.dZ=true->r.1.bD.eG=false/\∃d,n.aw[r.1.bD.bm.toNat]?=some d/\r.1.bD.co.ag=d.ag/\wY d.aZ r.1.bD.co=false)):=by
 have hm6:=mZ h.map
 have hls:=h.ls
 unfold zk
 refine Wp.call (eh hc oaa) λr1 h1=>?_
 obtain⟨i,hi⟩:∃i:Nat,r1.1=i:=⟨r1.1.toNat,by omega⟩
 obtain⟨d,s,a,e1,e2,e3,hm⟩:=h.at_ (i:=i) oaa
 simp only[hi,bu,e1,e2,abM]
 refine Wp.call (eh h1.1 oaa) λr3 h3=>Wp.call (yI h3.1 oaa) λr4 h4=>Wp.call (eh h4 oaa) λr5 h5=>?_
 refine Wp.call (P:=FP2 d (i:Int)) ?_ ?_
 .refine Wp.cond (λ_=>?_) (λ_=>?_)
  .refine Wp.call (eh h5.1 oaa) λr30 h30=>?_
   have hs:=NN (x:=⟨WR (1+r30.1),[9]⟩) (by show 0<=WR (1+r30.1);rw[bP oaa];omega) (by show WR (1+r30.1)<=1000000;rw[bP oaa];omega) (λx hx=>by simp at hx;subst hx;simp[yk]) (by simp) d.aZ d.ag d.aV
   have hr:=Ax d.aZ d.ag d.aV (x:=⟨WR (1+r30.1),[9]⟩) (by simp)
   have hh:=QL d ⟨WR (1+r30.1),[9]⟩
   have hv:=H9 d ⟨WR (1+r30.1),[9]⟩
   have hg:(iH d.aZ d.ag d.aV ⟨WR (1+r30.1),[9]⟩).ag=d.ag:=rfl
   generalize iH d.aZ d.ag d.aV ⟨WR (1+r30.1),[9]⟩=y at hs hr hh hv hg
   rw[hs]
   exact X7 h30.1 hr hh hg hv
  refine Wp.call (P:=λx=>dL x.2.1) ?_ λx hx=>Wp.some ⟨hx,⟨Ke,λx hx=>by simp[eB,mj] at hx⟩,rfl,.inr rfl⟩
  exact Wp.cond (λ_=>Wp.call (w29 h5.1 d) λr h=>Wp.some h) (λ_=>Wp.call (w30 h5.1 s) λr h=>Wp.some h)
 rintro⟨c2,f⟩ ⟨k1,k2,k3,k4⟩
 simp only at k1 k2 k3 k4
 have he:EP {ed with a8:=13,bD:=f}:=⟨λx hx=>by simp[ed] at hx,k2.1,k2.2⟩
 rw[OX h he]
 simp only[abM]
 refine Wp.call (P:=λk=>k=bif ph n {ed with a8:=13,bD:=f} then f.bg.a8 else 7) ?_ ?_
 .cases ph n {ed with a8:=13,bD:=f}<;>exact Wp.some rfl
 rintro k rfl
 refine Wp.some ⟨k1,⟨λx hx=>by simp[ed] at hx,k2.1,k2.2⟩,?_,λhr=>by
  rcases k4 with⟨q1,q2,q3,q4,q5⟩|q1
  .exact⟨q2,d,by show n.aw[f.bm.toNat]?=some d;rw[k3];exact e1,q4,q5⟩
  rw[show f.dZ=true from hr] at q1;cases q1⟩
 cases hh:ph n {ed with a8:=13,bD:=f}
 .simp only[cond_false,ph]
  rw[aan,aan,aan];right;right;right
  simp only[Nd,k3,abN,e1,e2]
  rcases k4 with⟨q1,q2,q3,_,_⟩|q1
  .rw[q1,q2,q3];rfl
  rw[q1]
  have z:∀k:Int,k≠7->eqB 7 k=false:=λk hk=>eqB_f.2 (Ne.symm hk)
  cases f.eG<;>simp only[hUp,CN,z _ (show(2:Int)≠7 by omega),z _ (show(3:Int)≠7 by omega),z _ (show(4:Int)≠7 by omega),z _ (show(5:Int)≠7 by omega),z _ (show(6:Int)≠7 by omega),z _ (show(8:Int)≠7 by omega),Bool.or_self,au]
 simp only[cond_true]
 rw[show({f with bg:={f.bg with a8:=f.bg.a8}}:bM)=f from rfl]
 exact hh
theorem Fg (n:ab) (f:bM):(fX n f).aw.length=n.aw.length:=by rw[(rK n f).1]
theorem Mn:∀(c i:Nat) (n:ab),(rp c i n).aw.length=n.aw.length
 |0,_,_=>rfl
 |c+1,i,n=>by
  rw[rp]
  cases n.aw[i]? with
  |none=>rfl
  |some d=>simp only;rw[Mn,(pC _ _ _).1]
theorem Mp:∀(c i:Nat) (n:ab),(xl c i n).aw.length=n.aw.length
 |0,_,_=>rfl
 |c+1,i,n=>by
  rw[xl]
  cases n.aA[i]? with
  |none=>rfl
  |some s=>cases n.bG[i]? with
   |none=>rfl
   |some a=>simp only;rw[Mp,(HO _ _ _).1]
theorem M2 (n:ab) (k:Nat):(lG n k).aw.length=n.aw.length:=by
 rw[lG]
 cases n.aT[k]? with
 |none=>rfl
 |some f=>
  simp only
  cases Do (kO n k) f.bh
  .rfl
  simp only[au]
  cases f.eG
  .simp only[cond_false]
   cases hd:(kO n k).aw[f.bm.toNat]? with
   |none=>rfl
   |some d=>
    simp only
    cases eqB d.bh f.bh
    .rfl
    simp only[au];rw[(pC _ _ _).1];rfl
  simp only[cond_true]
  cases f.dZ||!eqB f.bg.bh f.bh
  .simp only[cond_false]
   cases hs:(kO n k).aA[f.bm.toNat]? with
   |none=>rfl
   |some s=>simp only[Cn];rw[(lP _ _).1];rfl
  rfl
theorem Ta (n:ab) (e:cX):(iz n e).2.aw.length=n.aw.length:=by
 rw[iz]
 split
 .rw[Fe]
  cases leB 100000 n.rr
  .simp only[cond_false];rw[Mp,Mn]
  rfl
 split
 .rw[wq]
  cases inR e.cB 0 ((n.aT.length:Int)-1)
  .rfl
  simp only[au]
  cases eqB e.a8 2
  .simp only[cond_false]
   cases eqB e.a8 3
   .simp only[cond_false]
    cases leB 200 (n.aT.length:Int)
    .simp only[cond_false]
     cases n.aT[e.cB.toNat]? with
     |none=>rfl
     |some f=>exact Fg n f
    rfl
   rfl
  exact M2 n _
 split
 .rw[GM]
  cases inR e.cB 0 ((n.aw.length:Int)-1)
  .rfl
  simp only[au]
  cases n.aw[e.cB.toNat]? with
  |none=>rfl
  |some d=>cases n.aA[e.cB.toNat]? with
   |none=>rfl
   |some s=>
    simp only
    cases eqB e.a8 5
    .simp only[cond_false]
     cases eqB e.a8 6
     .simp only[cond_false]
      cases eqB e.a8 7
      .simp only[cond_false]
       cases(tD s e.a9).2<;>rfl
      simp only[cond_true]
      cases eqB d.bp 2
      .rfl
      simp
     simp only[cond_true]
     cases eqB e.bh d.bh||!eN n.ev e.bh
     .exact(pC _ _ _).1
     rfl
    simp only[cond_true]
    cases eqB d.bp 0
    .rfl
    exact(pC _ _ _).1
 split
 .rw[Fd];cases !eN n.ev e.cB||booB (Do n e.cB) (eqB e.a8 10)<;>rfl
 split
 .rw[p5]
  cases !inR e.cB 0 (n.eC.fC-1)||(booB (xj n.eC e.cB) (eqB e.a8 12)||eqB (pk n.eC e.cB (eqB e.a8 12)).fP 0)<;>rfl
 split
 .rw[wr];cases yl n e.bD
  .rfl
  exact Fg n _
 rfl
abbrev NQ (n:ab) (r:cX×bk):Prop:=dL r.2/\EP r.1/\ph n r.1=true/\FS n r.1
theorem wPl {c:bk} (h:dL c) {k i cell:Int} (hb:okB b) (hk:k≠13):Wp (some ((⟨k,i,cell,b,fM⟩:cX),c)) (NQ n):=
 Wp.some ⟨h,Ev hb,xJ n hk,EB n hk⟩
theorem m9:okB []:=λx hx=>by simp at hx
theorem wNo {b:Bool} {y:α} {β:Type} {f:α->Option β} {Q:β->Prop} (h:∀z,Wp (f z) Q):Wp (abJ (bif b then some x else some y) f) Q:=by
 cases b<;>exact h _
theorem Zq {c':bk} (hc:dL c'):Wp (abJ (bif ltB 0 (n.aT.length:Int) then(abJ (i8 c' 4) λr21=>some (!r21.1,r21.2)) else(some (false,c'))) λ((v16,v20):Bool×bk)=>bif v16 then(abJ (FD (n.aT.length:Int) 3) λr22=>abJ (cH v20 r22) λr23=>abJ (cH r23.2 12) λr24=>bif eqB r24.1 0 then(some ({ed with a8:=3,cB:=r23.1},r24.2)) else(bif eqB r24.1 1 then(some ({ed with a8:=4,cB:=r23.1},r24.2)) else(some ({ed with a8:=2,cB:=r23.1},r24.2)))) else(some ({ed with a8:=1},v20))) (NQ n):=by
 refine Wp.call (P:=λx=>dL x.2/\(x.1=true->0<n.aT.length)) ?_ ?_
 .refine Wp.cond (λhb=>?_) (λ_=>Wp.some ⟨hc,λh=>by simp at h⟩)
  have hb:=mu hb
  exact Wp.call (yI hc oaa) λr21 h21=>Wp.some ⟨h21,λ_=>by omega⟩
 rintro⟨v16,v20⟩ ⟨k1,k2⟩
 simp only at k1 k2
 refine Wp.cond (λhb=>?_) (λ_=>wPl k1 m9 oaa)
 have:=k2 hb
 rw[Lr]
 simp only[abM]
 have hm:1<=kw (n.aT.length:Int) 3:=by unfold kw;split<;>omega
 refine Wp.call (eh k1 hm) λr23 h23=>Wp.call (eh h23.1 oaa) λr24 h24=>?_
 exact Wp.cond (λ_=>wPl h24.1 m9 oaa) (λ_=>Wp.cond (λ_=>wPl h24.1 m9 oaa) (λ_=>wPl h24.1 m9 oaa))
theorem wNext (h:NP B n) (hd:1<=n.aw.length) {c:bk} (hc:dL c):Wp (BM c n) (NQ n):=by
 have hm6:=mZ h.map
 have hl:=h.ld
 unfold BM
 rw[Lq]
 simp only[abM]
 have hmx:1<=Cm 1 (n.aw.length:Int):=by unfold Cm;split<;>omega
 have hw:WR ((n.ev.bb.length:Int)+1)=(n.ev.bb.length:Int)+1:=bP oaa
 refine Wp.call (eh hc hmx) λr2 h2=>Wp.call (eh h2.1 oaa) λr3 h3=>?_
 refine Wp.cond (λ_=>wPl h3.1 m9 oaa) (λ_=>wNo λ_=>?_)
 refine Wp.cond (λ_=>Wp.call (eh h3.1 oaa) λr5 h5=>wPl h5.1 m9 oaa) (λ_=>?_)
 refine Wp.cond (λ_=>wPl h3.1 m9 oaa) (λ_=>wNo λ_=>?_)
 refine Wp.cond (λ_=>Wp.call (eh h3.1 oaa) λr7 h7=>Wp.call (Wq h7.1 h7.2.1 oaa) λr8 h8=>wPl h8.1 h8.2.1 oaa) (λ_=>?_)
 refine Wp.cond (λ_=>Wp.call (eh h3.1 oaa) λr9 h9=>wPl h9.1 m9 oaa) (λ_=>wNo λ_=>?_)
 refine Wp.cond (λ_=>Wp.call (eh h3.1 oaa) λr9 h9=>wPl h9.1 m9 oaa) (λ_=>?_)
 refine Wp.cond (λ_=>Wp.call (eh h3.1 oaa) λr9 h9=>wPl h9.1 m9 oaa) (λ_=>?_)
 refine Wp.cond (λ_=>Wp.call (eh h3.1 oaa) λr9 h9=>wPl h9.1 m9 oaa) (λ_=>wNo λ_=>?_)
 refine Wp.cond (λ_=>Wp.cond (λ_=>?_) (λ_=>Zq h3.1)) (λ_=>Zq h3.1)
 refine Wp.call (wForge h hd h3.1) λr15 h15=>Wp.some ⟨h15.1,⟨m9,h15.2.1.f,h15.2.1.r⟩,?_,λ_=>h15.2.2.2⟩
 exact h15.2.2.1
theorem RN.apply {B:Nat} (h:RN B l n) (he:EP e) (hh:ph n e=true) (hf:FS n e):RN (B+1) l (iz n e).2:=by
 obtain⟨k,h1,h2,h3⟩:=h
 exact⟨k+1,h1.step he hh hf,by omega,by rw[Ta];exact h3⟩
theorem RN.mono {B B':Nat} (h:RN B l n) (hb:B<=B'):RN B' l n:=by
 obtain⟨k,h1,h2,h3⟩:=h;exact⟨k,h1,by omega,h3⟩
theorem w33Run {c:bk} (h:dL c) {most:Int} (hm:1<=most/\most<=1000):Wp (BN c most) (λr=>dL r.2.2.2/\∃l,(1<=l/\l<=3)/\RN 40 l r.1/\RN (42+most.toNat) l r.2.2.1/\(r.2.1.length<=1010/\∀e∈r.2.1,EP e)):=by
 unfold BN
 refine Wp.call (w32New h) λr1 h1=>?_
 obtain⟨h11,l,hl,hr⟩:=h1
 obtain⟨b,hn,hb⟩:=hr.np oaa
 rw[Y7 hn.okN]
 simp only[abM]
 refine Wp.call (eh h11 hm.1) λr3 h3=>?_
 have hw:WR (3+r3.1)=3+r3.1:=bP oaa
 refine Wp.call (P:=λx=>dL x.2.1/\RN (42+most.toNat) l x.2.2/\(x.1.length<=1010/\∀e∈x.1,EP e)) ?_ λx hx=>Wp.some ⟨hx.1,l,hl,hr,hx.2.1,hx.2.2⟩
 refine Wp.iterF (λx=>(0<=x.1/\x.1<=2+most)/\dL x.2.2.1/\RN (40+(2+most-x.1).toNat) l x.2.2.2/\((x.2.1.length:Int)<=1010-x.1/\∀e∈x.2.1,EP e)) (λx=>x.1.toNat) ⟨⟨by rw[hw];omega,by rw[hw];omega⟩,h3.1,hr.mono oaa,by simp only[abV];rw[hw];omega,by simp⟩ (by simp only;rw[hw];omega) ?_
 rintro⟨v4,v8,v19,n⟩ ⟨⟨i0,i1⟩,i2,i3,i4,i5⟩
 simp only at i0 i1 i2 i3 i4 i5
 simp only[Gd]
 refine Wp.cond (λhb=>?_) (λhb=>Wp.some ⟨i2,i3.mono oaa,by show v8.length<=1010;omega,i5⟩)
 have hb:=mu hb
 obtain⟨b',hn',hb'⟩:=i3.np oaa
 have hdl:n.aw.length=l:=i3.choose_spec.2.2
 refine Wp.call (wNext hn' oaa i2) λr51 h51=>?_
 refine Wp.ok (f7 (by simp;omega) (by simp;omega)) ?_
 have ha:=vR hn' h51.2.1 oaa
 rw[Y7 hn'.okN]
 simp only[abM]
 rw[ha.1]
 simp only[abM]
 have hst:=i3.apply h51.2.1 h51.2.2.1 h51.2.2.2
 refine Wp.call (P:=λx=>RN (40+(2+most-v4).toNat+1) l x) (Wp.cond (λ_=>Wp.some hst) (λ_=>Wp.some (i3.mono oaa))) λx hx=>Wp.some ⟨⟨⟨?_,?_⟩,h51.1,?_,?_,?_⟩,?_⟩
 all_goals simp only[bP (show-9223372036854775808<=v4-1/\v4-1<=9223372036854775807 by omega)]
 .omega
 .omega
 .exact hx.mono oaa
 .simp;omega
 .intro e he
  rcases aae.1 he with he|he
  .exact i5 e he
  simp at he;subst he;exact h51.2.1
 omega
def zJ (r:aO) (g:Int):Int:=(vec r.eX (Eh r.ID g) g).eX
def jC (l:List bJ) (k:Nat):Int:=((l.take k).map λp=>(p.a9.length:Int)).sum
def iG (w:aY):Int:=w.bE-1-w.aC.length
structure SI (d:aG) (s:ah) (a:aj):Prop where
 cl:d.dr.di<=s.bF.cW
 pq:s.bI<=s.bF.cW
 pg:0<s.bI->s.ag<s.bI
 pv:0<s.bI->s.aK=vec s.bF.eX (Eh s.bF.ID s.bI) s.bI
 sg:s.ag<=s.bF.cW
 s1:s.bp=1->0<s.ag
 sk:0<s.ag->s.aZ=zJ s.bF s.ag
 dg:d.ag<=d.dr.di
 dk:0<d.ag->d.aZ=zJ s.bF d.ag
 pr:d.bW.be<+:s.aH
 pe:∀x∈d.bW.aK,s.aH[(x.cW-1).toNat]?=some ⟨x.a9⟩/\x.cW<s.ax.bE
 nx:d.bW.bE<=s.ax.bE
 wn:∀x∈s.ax.aC,s.aH[(x.cW-1).toNat]?=some ⟨x.a9⟩
 ak:iG s.ax<d.bW.bE
 ch:a.ey+s.b9.em=jC s.aH (iG s.ax).toNat
def Dc (s:ah) (x:av):Prop:=∃(k g e:Int) (b:List Int),0<g/\(1<=k/\k<s.ax.bE)/\s.aH[(k-1).toNat]?=some ⟨b⟩/\x=iH (zJ s.bF g) g e ⟨k,b⟩
def RadB (d:aG) (x:av):Prop:=x.ag<d.ag\/(x.ag=d.ag/\wY d.aZ x=false)
def WN (s:ah) (m:aF):Prop:=∃q,(1<=q/\q<=s.bF.cW)/\m.ag=q/\m.cd=vec s.bF.eX (Eh s.bF.ID q) q
def WM (d:aG) (m:aF):Prop:=jS d.dr.eX d.dr.di m.cd=1\/jS d.dr.eX d.dr.di m.cd=2
def Zs (s:ah) (m:aF):Prop:=m.ag<s.ag\/(m.ag=s.ag/\tx s.aZ m=false)
structure FI (d:aG) (s:ah) (f:bM):Prop where
 up:f.eG=true->f.dZ=false->f.bg.a8=8->f.bg.bV<=d.bW.bE\/Zs s f.bg
 rd:f.eG=false->f.dZ=true->Dc s f.co\/RadB d f.co
 dn:f.eG=false->f.dZ=false->f.bg.a8=2->WN s f.bg\/WM d f.bg
structure BW (d:aG) (s:ah) (d':aG) (s':ah):Prop where
 ck:d'.dr.eX=d.dr.eX
 cl:d.dr.di<=d'.dr.di
 dg:d.ag<d'.ag\/(d'.ag=d.ag/\d'.aZ=d.aZ)
 rn:d.bW.bE<=d'.bW.bE
 ri:s'.bF.ID=s.bF.ID
 rk:s'.bF.eX=s.bF.eX
 rs:s.bF.cW<=s'.bF.cW
 sg:s.ag<s'.ag\/(s'.ag=s.ag/\s'.aZ=s.aZ)
 su:s.aH<+:s'.aH
 wn:s.ax.bE<=s'.ax.bE
theorem BW.refl (d:aG) (s:ah):BW d s d s:=⟨rfl,acA _,.inr ⟨rfl,rfl⟩,acA _,rfl,rfl,acA _,.inr ⟨rfl,rfl⟩,acB _,acA _⟩
theorem JA {xs ys:List α} (h:xs<+:ys) (hx:xs[k]?=some x):ys[k]?=some x:=by
 obtain⟨zs,rfl⟩:=h
 rw[aaq (aaa.1 hx).1];exact hx
theorem Uw {r r':aO} (h1:r'.ID=r.ID) (h2:r'.eX=r.eX) (g:Int):zJ r' g=zJ r g:=by rw[zJ,zJ,h1,h2]
theorem Ok {k l l':Int} {v:cy} (h:l<=l') (hb:jS k l v=1\/jS k l v=2):jS k l' v=1\/jS k l' v=2:=by
 revert hb
 rw[jS,jS]
 intro hb
 split at hb
 .rename_i h1;rw[if_pos h1];exact hb
 rename_i h1;rw[if_neg h1]
 split at hb
 .rename_i h2;rw[if_pos oaa];exact .inr rfl
 split at hb<;>omega
theorem FI.mono {d d':aG} {f:bM} (h:FI d s f) (m:BW d s d' s'):FI d' s' f:=by
 refine⟨λh1 h2 h3=>?_,λh1 h2=>?_,λh1 h2 h3=>?_⟩
 .rcases h.up h1 h2 h3 with q|q
  .exact .inl (acD q m.rn)
  right
  rcases m.sg with g|⟨g1,g2⟩
  .left;rcases q with q|q<;>omega
  rcases q with q|q
  .left;omega
  right;rw[g1,g2];exact q
 .rcases h.rd h1 h2 with⟨k,g,e,b,q1,q2,q3,q4⟩|q
  .left;exact⟨k,g,e,b,q1,⟨q2.1,Int.lt_of_lt_of_le q2.2 m.wn⟩,JA m.su q3,by rw[Uw m.ri m.rk];exact q4⟩
  right
  rcases m.dg with g|⟨g1,g2⟩
  .left;rcases q with q|q<;>omega
  rcases q with q|q
  .left;omega
  right;rw[g1,g2];exact q
 rcases h.dn h1 h2 h3 with⟨q,q1,q2,q3⟩|q
 .left;exact⟨q,⟨q1.1,acD q1.2 m.rs⟩,q2,by rw[m.ri,m.rk];exact q3⟩
 right;rw[WM,m.ck];exact Ok m.cl q
structure PI (n:ab):Prop where
 si:∀(i:Nat) d s a,n.aw[i]?=some d->n.aA[i]?=some s->n.bG[i]?=some a->SI d s a
 fi:∀f∈n.aT,∀d s,n.aw[f.bm.toNat]?=some d->n.aA[f.bm.toNat]?=some s->FI d s f
theorem PI.send (h:PI n) {f:bM} (hf:∀d s,n.aw[f.bm.toNat]?=some d->n.aA[f.bm.toNat]?=some s->FI d s f):PI (fX n f):=by
 rw[fX]
 cases leB 200 (n.aT.length:Int)
 .refine⟨h.si,λg hg=>?_⟩
  rcases aae.1 hg with hg|hg
  .exact h.fi g hg
  simp at hg;subst hg;exact hf
 exact⟨h.si,h.fi⟩
theorem PI.sends:∀(l:List bM) {n:ab},PI n->(∀f∈l,∀d s,n.aw[f.bm.toNat]?=some d->n.aA[f.bm.toNat]?=some s->FI d s f)->PI (sends n l)
 |[],n,h,_=>h
 |f::l,n,h,hf=>by
  have hk:=rK n f
  exact PI.sends l (h.send (hf f (by simp))) (λg hg=>by rw[hk.1,hk.2.1];exact hf g (by simp[hg]))
theorem PI.setM (h:PI n) {d d':aG} {a':aj} (hd:n.aw[i]?=some d) (hs:n.aA[i]?=some s) (hm:BW d s d' s') (hi:SI d' s' a'):
 PI {n with aw:=n.aw.set i d',aA:=n.aA.set i s',bG:=n.bG.set i a'}:=by
 refine⟨λj x y z hx hy hz=>?_,λf hf x y hx hy=>?_⟩
 .rcases ry hx with⟨e1,e2⟩|⟨e1,e2⟩<;>rcases ry hy with⟨e3,e4⟩|⟨e3,e4⟩<;>rcases ry hz with⟨e5,e6⟩|⟨e5,e6⟩<;>first|omega|skip
  .subst e2;subst e4;subst e6;exact hi
  exact h.si j x y z e2 e4 e6
 rcases ry hx with⟨e1,e2⟩|⟨e1,e2⟩<;>rcases ry hy with⟨e3,e4⟩|⟨e3,e4⟩<;>first|omega|skip
 .subst e2;subst e4
  exact(h.fi f hf d s (by rw[<-e1];exact hd) (by rw[<-e1];exact hs)).mono hm
 exact h.fi f hf x y e2 e4
structure BV (d:aG) (s:ah) (a:aj) (r:aX):Prop where
 mo:BW d s r.bm s
 si:SI r.bm s a
 sg:∀m∈r.dy,m.a8=8->m.bV<=r.bm.bW.bE
theorem BV.keep {d:aG} (h:SI d s a) {r:aX} (h1:r.bm.dr=d.dr) (h2:r.bm.ag=d.ag) (h3:r.bm.aZ=d.aZ) (h4:r.bm.bW=d.bW) (h5:∀m∈r.dy,m.a8≠8):BV d s a r:=
 ⟨⟨by rw[h1],by rw[h1];exact acA _,.inr ⟨h2,h3⟩,by rw[h4];exact acA _,rfl,rfl,acA _,.inr ⟨rfl,rfl⟩,acB _,acA _⟩,
  {h with cl:=by rw[h1];exact h.cl,dg:=by rw[h1,h2];exact h.dg,dk:=by rw[h2,h3];exact h.dk,pr:=by rw[h4];exact h.pr,pe:=by rw[h4];exact h.pe,nx:=by rw[h4];exact h.nx,ak:=by rw[h4];exact h.ak},
  λm hm e=>absurd e (h5 m hm)⟩
theorem BV.none {d:aG} (h:SI d s a):BV d s a ⟨d,[]⟩:=.keep h rfl rfl rfl rfl (by simp)
section
variable {d:aG} {s:ah} {a:aj} (h:SI d s a)
include h
theorem MO {d':aG} (h1:d'.dr=d.dr) (h2:d'.ag=d.ag) (h3:d'.aZ=d.aZ) (h4:d'.bW=d.bW):BV d s a (xn d'):=
 .keep h h1 h2 h3 h4 (by simp[xn,xB,wL])
theorem Tz:BV d s a (rf d):=by
 rw[rf]
 cases ltB 0 d.fo<;>cases eqB d.bp 1<;>cases eqB d.bp 2&&!d.cq<;>exact .keep h rfl rfl rfl rfl (by simp[yQ,xB,wL])
theorem ZG:BV d s a (dOn d):=by
 rw[dOn];cases eqB d.bp 0<;>exact .keep h rfl rfl rfl rfl (by simp[yQ])
theorem Ty (c:Int):BV d s a (sK d c):=by
 rw[sK]
 cases eqB c d.bh||!inR c 0 5
 .cases eqB d.bp 2&&ltB d.aV 999999
  .exact .keep h rfl rfl rfl rfl (by simp)
  exact MO h rfl rfl rfl rfl
 exact .none h
theorem W5 (hk:d.dr.eX=s.bF.eX) (hr:s.bF.cW<=999999) (hf:WN s m\/WM d m):BV d s a (Gu d m):=by
 rw[Gu]
 cases hv:eqB (jS d.dr.eX d.dr.di m.cd) 0
 .exact .none h
 have hv:=qi hv
 rcases hf with⟨q,q1,q2,q3⟩|q
 .have hq:inR q 0 999999=true:=bQ.2 oaa
  rw[q3,hk,Sc oaa oaa] at hv
  have hlt:d.dr.di<q:=by
   by_cases hle:q<=d.dr.di
   .rw[if_pos hle] at hv;omega
   omega
  have hu:unm d.dr.eX m.cd.ew m.cd.f4=q:=by
   rw[q3,hk];simp only[vec,hq,cond_true];exact Qf oaa oaa
  have hrand:m.cd.ew=Eh s.bF.ID q:=by rw[q3];simp only[vec,hq,cond_true]
  have hg:=h.dg
  rw[hk,hrand] at hu
  simp only[cond_true,hu,hrand,q2,hk]
  refine⟨⟨hk.symm,by simp only;omega,.inl (by simp only;omega),acA _,rfl,rfl,acA _,.inr ⟨rfl,rfl⟩,acB _,acA _⟩,{h with cl:=q1.2,dg:=acA _,dk:=λ_=>rfl},λm hm=>by simp at hm;subst hm;intro e;simp at e⟩
 rcases q with q|q<;>omega
theorem W9 (hk:d.dr.eX=s.bF.eX) (hr:s.bF.cW<=999999) (hf:m.a8=2->WN s m\/WM d m):BV d s a (Ab d m):=by
 rw[Ab]
 cases !lH m||(!eqB m.bh d.bh||eqB d.bp 0)
 .simp only[cond_false]
  cases h2:eqB m.a8 2&&eqB d.bp 1
  .simp only[cond_false]
   cases eqB m.a8 4&&(eqB d.bp 1&&(ra d.aZ&&(eqB m.ag d.ag&&tx d.aZ m)))
   .simp only[cond_false]
    cases eqB m.a8 6&&(eqB d.bp 2&&(eqB m.ag d.ag&&(eqB m.aV d.aV&&tx d.aZ m)))
    .simp only[cond_false]
     cases eqB m.a8 7&&(eqB d.bp 3&&ltB d.aV 999999)
     .simp only[cond_false]
      cases eqB m.a8 7&&eqB d.bp 2
      .exact .none h
      exact MO h rfl rfl rfl rfl
     exact MO h rfl rfl rfl rfl
    exact .keep h rfl rfl rfl rfl (by simp)
   exact .keep h rfl rfl rfl rfl (by simp)
  rw[hV] at h2
  exact W5 h hk hr (hf (qi h2.1))
 exact .none h
omit h in
theorem Ve {l sub:List bJ} {t:List ae} {nx:Int} (hp:l<+:sub) (hn:nx=(l.length:Int)+1) (ht:∀(k:Nat) (y:ae),t[k]?=some y->y.cW=nx+k/\sub[(y.cW-1).toNat]?=some ⟨y.a9⟩):l++t.map (λy=>(⟨y.a9⟩:bJ))<+:sub:=by
 obtain⟨zs,hz⟩:=hp
 refine⟨zs.drop t.length,?_⟩
 apply abS
 intro i
 rw[<-hz]
 by_cases h1:i<l.length
 .rw[ab6,aaq h1,aaq h1]
 rw[ab6,aao oaa,aao (show l.length<=i by omega)]
 by_cases h2:i-l.length<t.length
 .rw[aaq (by simpa using h2),aaN,v0 h2]
  obtain⟨e1,e2⟩:=ht (i-l.length) _ (v0 h2)
  rw[<-hz,e1,aao oaa] at e2
  rw[show(nx+((i-l.length:Nat):Int)-1).toNat-l.length=i-l.length by omega] at e2
  rw[e2];rfl
 rw[aao (by simpa using h2),List.getElem?_drop]
 congr 1;simp;omega
theorem W7 (hp:RcV d.bW) (hs:SP s) (hb:∀p∈s.aH,okB p.a9) {x:av} (hf:Dc s x\/RadB d x):BV d s a (Aa d x):=by
 simp only[Aa]
 cases ho:eqB d.bp 2&&(ro d.aZ d.ag d.aV x).2
 .exact .none h
 simp only[cond_true]
 rw[hV] at ho
 have hcond:x.ag=d.ag/\x.aV=d.aV/\wY d.aZ x=true:=by
  have:=ho.2
  rw[ro] at this
  split at this
  .assumption
  cases this
 rcases hf with⟨k,g,e,b,q1,q2,q3,q4⟩|q
 .have hsub:=aab q3
  have hl:=hs.sl
  have hnx:=hs.nx
  have hgen:d.ag=g:=by rw[<-hcond.1,q4];rfl
  have hep:d.aV=e:=by rw[<-hcond.2.1,q4];rfl
  have hkey:d.aZ=zJ s.bF g:=by rw[<-hgen];exact h.dk oaa
  have hopen:ro d.aZ d.ag d.aV x=(⟨k,b⟩,true):=by
   rw[q4,hgen,hep,hkey]
   exact Rn q2.1 (by show k<=100000;omega) (hb _ hsub) (hs.sd _ hsub) _ _ _
  rw[hopen]
  simp only
  cases hlate:yc d.bW ⟨k,b⟩
  .obtain⟨t,dd,t1,t2,t3,t4,t5,t6,t7,t8⟩:=Gg hp hlate
   have hmem:∀y∈qw ⟨k,b⟩ d.bW.aK,s.aH[(y.cW-1).toNat]?=some ⟨y.a9⟩/\y.cW<s.ax.bE:=λy hy=>by
    rcases Be.1 hy with e|e
    .subst e;exact⟨q3,q2.2⟩
    exact h.pe y e
   have hpre:=Ve (l:=d.bW.be) (sub:=s.aH) (t:=t) h.pr hp.n (λk y hy=>⟨t2 k y hy,(hmem y (by rw[t1];exact acH _ (aab hy))).1⟩)
   have hnext:(nN d.bW ⟨k,b⟩).bE<=s.ax.bE:=by
    rw[t3]
    by_cases ht:t.length=0
    .rw[ht];have:=h.nx;simp;omega
    obtain⟨y,hy⟩:∃y,t[t.length-1]?=some y:=⟨_,v0 oaa⟩
    have e1:=t2 _ y hy
    have e2:=(hmem y (by rw[t1];exact acH _ (aab hy))).2
    omega
   have hak:=h.ak
   refine⟨⟨rfl,acA _,.inr ⟨rfl,rfl⟩,by simp only;rw[t3];omega,rfl,rfl,acA _,.inr ⟨rfl,rfl⟩,acB _,acA _⟩,
    {h with pr:=by simp only;rw[t4];exact hpre,pe:=λy hy=>?_,nx:=hnext,ak:=by simp only;rw[t3];omega},λm hm _=>?_⟩
   .simp only at hy
    rcases t6 with e|e
    .rw[e] at hy;exact hmem y (by rw[t1];exact List.mem_append_right _ hy)
    rw[e] at hy;simp at hy
   simp at hm;subst hm;exact acA _
  have e:nN d.bW ⟨k,b⟩=d.bW:=by rw[nN,hlate];rfl
  rw[e]
  refine⟨BW.refl d s,h,λm hm _=>?_⟩
  simp at hm;subst hm;exact acA _
 exfalso
 rcases q with q|⟨q1,q2⟩
 .omega
 rw[hcond.2.2] at q2;cases q2
end
theorem XB {d:aG} (h:SI d s a):SI (vd d) s a/\BW d s (vd d) s:=by
 rw[vd]
 cases eqB d.bp 2
 .exact⟨h,BW.refl d s⟩
 have:=BV.keep h (r:=⟨{d with bp:=3},[]⟩) rfl rfl rfl rfl (by simp)
 exact⟨this.si,this.mo⟩
theorem vr (h:PI n) {d:aG} (hd:n.aw[i]?=some d) (hs:n.aA[i]?=some s) (ha:n.bG[i]?=some a) {r:aX} (st:BV d s a r):PI (gM n i r):=by
 have hi:=(aaa.1 hd).1
 have hm:=h.setM hd hs st.mo (a':=a) st.si
 rw[gR hs,gR ha] at hm
 refine PI.sends _ hm λf hf x y hx hy=>?_
 obtain⟨m,hm',rfl⟩:=aba.1 hf
 simp only[jj,abN] at hx hy
 have e1:(n.aw.set i r.bm)[i]?=some r.bm:=by simp[hi]
 rw[e1] at hx;rw[hs] at hy
 cases hx;cases hy
 exact⟨λ_ _ h3=>.inl (st.sg m hm' h3),λh1 _=>by simp[jj] at h1,λh1 _ _=>by simp[jj] at h1⟩
structure DY (d:aG) (s:ah) (a:aj) (r:bN):Prop where
 mo:BW d s d r.aU
 si:SI d r.aU a
 sg:∀m∈r.dy,m.a8=2->WN r.aU m
theorem V2 (xs:List ae) (j:Nat):f6 xs=f6 (xs.take j)+f6 (xs.drop j):=by
 simp only[f6]
 rw[<-acE,<-abe,List.take_append_drop]
theorem Kz {l:List bJ} {p:bJ} (h:l[k]?=some p):jC l (k+1)=jC l k+p.a9.length:=by
 simp only[jC]
 rw[ab2,h]
 simp
theorem Ee {l:List bJ} {u:List ae} {A:Nat} (h:∀(i:Nat) x,u[i]?=some x->l[A+i]?=some ⟨x.a9⟩):∀j:Nat,j<=u.length->jC l (A+j)=jC l A+f6 (u.take j)
 |0,_=>by simp[f6]
 |j+1,hj=>by
  obtain⟨x,hx⟩:∃x,u[j]?=some x:=⟨_,v0 oaa⟩
  rw[<-Nat.add_assoc,Kz (h j x hx),Ee h j oaa,ab2,hx]
  simp only[f6,Option.toList_some,abe,acE,aau,aaJ,acI,List.sum_nil]
  omega
theorem MS {l l':List bJ} (h:l<+:l') (hk:k<=l.length):jC l' k=jC l k:=by
 obtain⟨z,rfl⟩:=h
 simp only[jC]
 rw[List.take_append_of_le_length hk]
theorem yH {x:aO} (h:tE x=true):0<=x.cW/\x.cW<=999999:=by
 simp only[tE,hV,bQ] at h;omega
section
variable {d:aG} {s:ah} {a:aj} (h:SI d s a) (g:SG s a)
theorem DY.none (h:SI d s a):DY d s a ⟨s,[]⟩:=⟨BW.refl d s,h,by simp⟩
include h
theorem Q0 {l:List aF} (h1:s'.bF=s.bF) (h2:s'.aK=s.aK) (h3:s'.bI=s.bI) (h4:s'.bp=s.bp) (h5:s'.ag=s.ag) (h6:s'.aZ=s.aZ) (h7:s'.aH=s.aH) (h8:s'.ax=s.ax) (h9:s'.b9.em=s.b9.em) (hl:∀m∈l,m.a8≠2):DY d s a ⟨s',l⟩:=by
 refine⟨⟨rfl,acA _,.inr ⟨rfl,rfl⟩,acA _,by rw[h1],by rw[h1],by rw[h1];exact acA _,.inr ⟨h5,h6⟩,by rw[h7];exact acB _,by rw[h8];exact acA _⟩,?_,λm hm e=>absurd e (hl m hm)⟩
 exact⟨by rw[h1];exact h.cl,by rw[h1,h3];exact h.pq,by rw[h3,h5];exact h.pg,by rw[h1,h2,h3];exact h.pv,by rw[h1,h5];exact h.sg,by rw[h4,h5];exact h.s1,by rw[h1,h5,h6];exact h.sk,h.dg,by rw[h1];exact h.dk,by rw[h7];exact h.pr,by rw[h7,h8];exact h.pe,by rw[h8];exact h.nx,by rw[h7,h8];exact h.wn,by rw[h8];exact h.ak,by rw[h7,h8,h9];exact h.ch⟩
include g
theorem Ry (m:aF):DY d s a (GX s m):=by
 have hr:=yH g.sp.rcd
 simp only[GX]
 cases hb:eqB s.bF.cW 999999
 .have hb:=M8 hb
  simp only[cond_false]
  refine⟨⟨rfl,acA _,.inr ⟨rfl,rfl⟩,acA _,rfl,rfl,by simp only;omega,.inr ⟨rfl,rfl⟩,acB _,acA _⟩,?_,λx hx e=>?_⟩
  .have h1:=h.cl
   have h2:=h.sg
   exact {h with cl:=by simp only;omega,pq:=acA _,pg:=λ_=>by simp only;omega,pv:=λ_=>rfl,sg:=by simp only;omega,sk:=h.sk,dk:=h.dk}
  simp at hx;subst hx
  exact⟨s.bF.cW+1,⟨by omega,acA _⟩,rfl,rfl⟩
 exact .none h
theorem NK (m:aF):DY d s a (zW s m):=by
 rw[zW]
 cases hb:leB s.bI 0||(!eqB m.ag s.bI||(!eqB m.bV s.aK.w8||leB 999999 s.aV))
 .simp only[aam] at hb
  have hp:=yd hb.1
  have h1:=h.pg hp
  simp only[cond_false,xq]
  refine⟨⟨rfl,acA _,.inr ⟨rfl,rfl⟩,acA _,rfl,rfl,acA _,.inl h1,acB _,acA _⟩,?_,λx hx e=>?_⟩
  .have h2:=h.pq
   have h3:=yH g.sp.rcd
   exact {h with pq:=by show(0:Int)<=s.bF.cW;omega,pg:=λe=>by simp at e,pv:=λe=>by simp at e,sg:=h2,s1:=λ_=>hp,sk:=λ_=>by show s.aK.eX=zJ s.bF s.bI;rw[h.pv hp];rfl}
  simp[y9,wL] at hx;subst hx;simp at e
 exact .none h
omit g in
theorem NI (m:aF):DY d s a (zV s m):=by
 rw[zV]
 cases !sW s m||(ltB m.aV s.aV||(eqB m.aV s.aV&&!eqB m.bh s.bh))
 .exact Q0 h rfl rfl rfl rfl rfl rfl rfl rfl rfl (by simp[y9,wL])
 exact .none h
theorem Rx (hf:m.bV<=d.bW.bE\/Zs s m):DY d s a (GW s m):=by
 rw[GW]
 cases hb:!sW s m||ltB s.ax.bE m.bV
 .simp only[cond_false]
  simp only[aam,Bool.not_eq_false'] at hb
  obtain⟨hk,hn⟩:=hb
  simp only[sW,hV] at hk
  rcases hf with hf|hf
  .have hg:=HW g m.bV
   have hw:=g.sp.win
   have hd:=He hw hn
   have hle:=qz hn
   have f1:=hw.f
   have f2:=hw.n
   have hch:=h.ch
   have hak:=h.ak
   obtain⟨j,hj⟩:∃j,j=(m.bV-(s.ax.bE-s.ax.aC.length)).toNat:=⟨_,rfl⟩
   rw[<-hj] at hd
   have hjl:j<=s.ax.aC.length:=by omega
   have hnx:(lj s.ax m.bV).bE=s.ax.bE:=by rw[hd]
   have hlen:(lj s.ax m.bV).aC.length=s.ax.aC.length-j:=by rw[hd];simp
   have hacked:iG (lj s.ax m.bV)=iG s.ax+j:=by simp only[iG,hnx,hlen];omega
   have ha0:0<=iG s.ax:=by simp only[iG];omega
   have hcut:=V2 s.ax.aC j
   have hb':jC s.aH ((iG s.ax).toNat+j)=jC s.aH (iG s.ax).toNat+f6 (s.ax.aC.take j):=by
    refine Ee (λi x hx=>?_) j hjl
    have e1:=(hw.u i x hx).1
    have e2:=h.wn x (aab hx)
    rw[show(iG s.ax).toNat+i=(x.cW-1).toNat by simp only[iG];omega];exact e2
   refine⟨⟨rfl,acA _,.inr ⟨rfl,rfl⟩,acA _,rfl,rfl,acA _,.inr ⟨rfl,rfl⟩,acB _,by simp only[lJ,hnx];exact acA _⟩,?_,by simp⟩
   refine⟨h.cl,h.pq,h.pg,h.pv,h.sg,h.s1,h.sk,h.dg,h.dk,h.pr,?_,?_,λx hx=>h.wn x (AI _ _ x hx),?_,?_⟩
   .simp only[lJ,hnx];exact h.pe
   .simp only[lJ,hnx];exact h.nx
   .show iG (lj s.ax m.bV)<d.bW.bE
    rw[hacked];simp only[iG] at hak ⊢;omega
   rw[hg.2]
   show a.ey+(s.b9.em+(f6 s.ax.aC-f6 (lj s.ax m.bV).aC))=jC s.aH (iG (lj s.ax m.bV)).toNat
   rw[hacked,show(iG s.ax+(j:Int)).toNat=(iG s.ax).toNat+j by omega,hb',<-hch,hd]
   simp only;omega
  exfalso
  have e1:=qi hk.2.1
  rcases hf with q|⟨q1,q2⟩
  .omega
  rw[hk.2.2] at q2;cases q2
 exact .none h
theorem VJ (hf:m.a8=8->m.bV<=d.bW.bE\/Zs s m):DY d s a (sUp s m):=by
 rw[sUp]
 cases lH m
 .exact .none h
 simp only[au]
 cases eqB m.a8 1
 .cases eqB m.a8 3
  .cases eqB m.a8 5
   .cases h8:eqB m.a8 8
    .exact .none h
    exact Rx h g (hf (qi h8))
   exact NI h m
  exact NK h g m
 exact Ry h g m
theorem NH:DY d s a ⟨lL s,[]⟩:=by
 have hr:=yH g.sp.rcd
 exact⟨⟨rfl,acA _,.inr ⟨rfl,rfl⟩,acA _,rfl,rfl,acA _,.inr ⟨rfl,rfl⟩,acB _,acA _⟩,
  {h with pq:=by show(0:Int)<=s.bF.cW;omega,pg:=λe=>by simp[lL] at e,pv:=λe=>by simp[lL] at e},by simp⟩
theorem RF (b:List Int):DY d s a ⟨(tD s b).1,[]⟩:=by
 rw[tD]
 cases leB 24 (s.aH.length:Int)||ltB 60 (b.length:Int)
 .simp only[cond_false]
  have hp:s.aH<+:s.aH++[(⟨b⟩:bJ)]:=List.prefix_append _ _
  have hnx:=g.sp.nx
  refine⟨⟨rfl,acA _,.inr ⟨rfl,rfl⟩,acA _,rfl,rfl,acA _,.inr ⟨rfl,rfl⟩,hp,acA _⟩,
   {h with pr:=h.pr.trans hp,pe:=λx hx=>⟨JA hp (h.pe x hx).1,(h.pe x hx).2⟩,wn:=λx hx=>JA hp (h.wn x hx),ch:=?_},by simp⟩
  show a.ey+s.b9.em=jC (s.aH++[(⟨b⟩:bJ)]) (iG s.ax).toNat
  rw[MS hp (by simp only[iG];omega)];exact h.ch
 exact .none h
end
theorem Dc.mono {x:av} (h:Dc s x) (h1:s'.bF=s.bF) (h2:s'.aH=s.aH) (h3:s.ax.bE<=s'.ax.bE):Dc s' x:=by
 obtain⟨k,g,e,b,q1,q2,q3,q4⟩:=h
 exact⟨k,g,e,b,q1,⟨q2.1,by omega⟩,by rw[h2];exact q3,by rw[h1];exact q4⟩
structure TrS (d:aG) (s:ah) (a:aj) (s':ah) (a':aj) (r:List av):Prop where
 rc:s'.bF=s.bF
 gn:s'.ag=s.ag
 rk:s'.aZ=s.aZ
 su:s'.aH=s.aH
 st:s'.bp=s.bp
 wn:s.ax.bE<=s'.ax.bE
 si:SI d s' a'
 rd:∀x∈r,Dc s' x
theorem TrS.mo {d:aG} {a':aj} {r:List av} (h:TrS d s a s' a' r):BW d s d s':=
 ⟨rfl,acA _,.inr ⟨rfl,rfl⟩,acA _,by rw[h.rc],by rw[h.rc],by rw[h.rc];exact acA _,.inr ⟨h.gn,h.rk⟩,by rw[h.su];exact acB _,h.wn⟩
theorem SI.pay {d:aG} {a':aj} (h:SI d s a) (h1:s'.bF=s.bF) (h2:s'.aK=s.aK) (h3:s'.bI=s.bI) (h4:s'.bp=s.bp) (h5:s'.ag=s.ag) (h6:s'.aZ=s.aZ) (h7:s'.aH=s.aH) (h8:s'.ax=s.ax) (h9:a'.ey+s'.b9.em=a.ey+s.b9.em):SI d s' a':=
 ⟨by rw[h1];exact h.cl,by rw[h1,h3];exact h.pq,by rw[h3,h5];exact h.pg,by rw[h1,h2,h3];exact h.pv,by rw[h1,h5];exact h.sg,by rw[h4,h5];exact h.s1,by rw[h1,h5,h6];exact h.sk,h.dg,by rw[h1];exact h.dk,by rw[h7];exact h.pr,by rw[h7,h8];exact h.pe,by rw[h8];exact h.nx,by rw[h7,h8];exact h.wn,by rw[h8];exact h.ak,by rw[h9,h7,h8];exact h.ch⟩
theorem M7 (h:SG s a) (n:Int):(dh s a n).2.ey+(dh s a n).1.b9.em=a.ey+s.b9.em:=by
 rw[dh]
 cases leB (mn s n) 0
 .have:=(Ft h.mo.acc s.b9.aJ (Cm (mn s n) s.gT.eD)).2.2.2.2.2.1
  simp only[cond_false,jp,this]
 rfl
theorem QJ {d:aG} (h:SI d s a) (g:SG s a) (n:Int):SI d (dh s a n).1 (dh s a n).2:=by
 obtain⟨q,hk⟩:=nz s a n
 have hp:=M7 g n
 exact h.pay (by rw[hk]) (by rw[hk]) (by rw[hk]) (by rw[hk]) (by rw[hk]) (by rw[hk]) (by rw[hk]) (by rw[hk]) hp
theorem Yo {d:aG} (h:SI d s a) (g:SG s a) {x:bJ} (e:rm s=some x):SI d {s with ax:=pI s.ax x.a9} a:=by
 obtain⟨hm,_,hx,hn,hl,hb⟩:=nn g.sp e
 have hnx:=h.nx
 have hac:iG (pI s.ax x.a9)=iG s.ax:=by simp only[iG,pI,List.length_append,List.length_cons,abV];omega
 refine⟨h.cl,h.pq,h.pg,h.pv,h.sg,h.s1,h.sk,h.dg,h.dk,h.pr,λy hy=>⟨(h.pe y hy).1,by have:=(h.pe y hy).2;simp only[pI];omega⟩,by simp only[pI];omega,λy hy=>?_,by rw[hac];exact h.ak,by rw[hac];exact h.ch⟩
 simp only[pI,aae,List.mem_singleton] at hy
 rcases hy with hy|hy
 .exact h.wn y hy
 subst hy;exact hx
theorem HY {d:aG} (h:SI d s a) (h1:s.bp=1) {y:ae} (hy:s.aH[(y.cW-1).toNat]?=some ⟨y.a9⟩) (hk:1<=y.cW/\y.cW<s.ax.bE) (e:Int):Dc s (iH s.aZ s.ag e y):=by
 have hg:=h.s1 h1
 exact⟨y.cW,s.ag,e,y.a9,hg,hk,hy,by rw[h.sk hg]⟩
theorem H3 {d:aG}:∀(k:Nat) {s:ah} {a:aj} {r:List av},SI d s a->SG s a->s.bp=1->(∀x∈r,Dc s x)->TrS d s a (gp k s a r).1 (gp k s a r).2.1 (gp k s a r).2.2
 |0,s,a,r,h,g,h1,hr=>⟨rfl,rfl,rfl,rfl,rfl,acA _,h,hr⟩
 |k+1,s,a,r,h,g,h1,hr=>by
  rw[gp]
  cases e:rm s with
  |none=>exact⟨rfl,rfl,rfl,rfl,rfl,acA _,h,hr⟩
  |some x=>
   obtain⟨hm,_,hx,hn,hl,hb⟩:=nn g.sp e
   have he:=ve g (n:=(x.a9.length:Int)) oaa
   have hsi:=QJ h g (x.a9.length:Int)
   obtain⟨q,hk⟩:=nz s a (x.a9.length:Int)
   have hw:=g.sp.win.n
   simp only
   cases hq:ltB 0 (mn (dh s a (x.a9.length:Int)).1 (x.a9.length:Int))
   .simp only[cond_false]
    have e':rm (dh s a (x.a9.length:Int)).1=some x:=by rw[hk];exact e
    have hsent:=Yo hsi he e'
    have hsg:=BB he e' hq
    have hst:({(dh s a (x.a9.length:Int)).1 with ax:=pI (dh s a (x.a9.length:Int)).1.ax x.a9}:ah).bp=1:=by rw[hk];exact h1
    have hrad:∀y∈r++[iH (dh s a (x.a9.length:Int)).1.aZ (dh s a (x.a9.length:Int)).1.ag (dh s a (x.a9.length:Int)).1.aV ⟨(dh s a (x.a9.length:Int)).1.ax.bE,x.a9⟩],Dc {(dh s a (x.a9.length:Int)).1 with ax:=pI (dh s a (x.a9.length:Int)).1.ax x.a9} y:=by
     intro y hy
     rcases aae.1 hy with hy|hy
     .exact(hr y hy).mono (by rw[hk]) (by rw[hk]) (by rw[hk];simp only[pI];omega)
     simp at hy;subst hy
     exact HY hsent hst (y:=⟨(dh s a (x.a9.length:Int)).1.ax.bE,x.a9⟩) (by rw[hk];exact hx) (by rw[hk];simp only[pI];omega) _
    have ih:=H3 k hsent hsg hst hrad
    refine⟨by rw[ih.rc,hk],by rw[ih.gn,hk],by rw[ih.rk,hk],by rw[ih.su,hk],by rw[ih.st,hk],?_,ih.si,ih.rd⟩
    refine acD ?_ ih.wn
    rw[hk];simp only[pI];omega
   simp only[cond_true]
   refine⟨by rw[hk],by rw[hk],by rw[hk],by rw[hk],by rw[hk],by rw[hk];exact acA _,hsi,λy hy=>(hr y hy).mono (by rw[hk]) (by rw[hk]) (by rw[hk];exact acA _)⟩
theorem MM {d:aG} (h:SI d s a) (g:SG s a) (h1:s.bp=1):∀x∈xv s,Dc s x:=by
 rw[xv,h1]
 simp only[bX,cond_true]
 intro x hx
 obtain⟨y,hy,rfl⟩:=aba.1 hx
 have hy:=aas hy
 obtain⟨k,hk⟩:=aal hy
 have hu:=(g.sp.win.u k y hk).1
 have hf:=g.sp.win.f
 have hlt:=(aaa.1 hk).1
 exact HY h h1 (h.wn y hy) oaa _
theorem RG {d:aG} (h:SI d s a) (g:SG s a) (m:aS):TrS d s a (nL s a m).aU (nL s a m).eu (nL s a m).co/\∀x∈(nL s a m).ju,x.a8=7:=by
 rw[nL]
 cases h1:eqB s.bp 1
 .exact⟨⟨rfl,rfl,rfl,rfl,rfl,acA _,h,by simp⟩,by simp⟩
 have h1:=qi h1
 simp only[au]
 have hg:=ED g
 have hq:=yo g.sp
 cases ltB 4 (iV s)
 .simp only[cond_false,LY]
  have hsi:SI d {s with dT:=iV s,dP:=(mq s).2,b9:=(fH s a).2} (fH s a).1:=h.pay rfl rfl rfl rfl rfl rfl rfl rfl hg.2.2.2.1
  have ht:=H3 2 hsi (g.upd hq (yq g.sp)) h1 (r:=[]) (by simp)
  refine⟨⟨ht.rc,ht.gn,ht.rk,ht.su,ht.st,ht.wn,ht.si,λx hx=>?_⟩,by simp⟩
  rcases aae.1 hx with hx|hx
  .have hx':Dc s x:=by
    rw[mq] at hx;revert hx
    cases De s
    .simp
    cases ltB 0 s.dP
    .exact MM h g h1 x
    simp
   exact hx'.mono ht.rc ht.su ht.wn
  exact ht.rd x hx
 simp only[cond_true,FE]
 refine⟨⟨rfl,rfl,rfl,rfl,rfl,acA _,h.pay rfl rfl rfl rfl rfl rfl rfl rfl hg.2.2.2.1,by simp⟩,λx hx=>?_⟩
 obtain⟨c,_,rfl⟩:=aba.1 hx
 rfl
theorem MP.key {nc:Nat} {d:aG} (h:MP nc i d s a):d.dr.eX=s.bF.eX:=by
 have:=h.ids
 simp only[EV,hV,eqB_t] at this
 exact this.2
theorem Rp (h:PI n) {d:aG} (hd:n.aw[i]?=some d) (hs:n.aA[i]?=some s) (ha:n.bG[i]?=some a) {r:bN} (st:DY d s a r):PI (Cn n i r):=by
 have hi:=(aaa.1 hs).1
 have hm:=h.setM hd hs st.mo (a':=a) st.si
 rw[gR hd,gR ha] at hm
 refine PI.sends _ hm λf hf x y hx hy=>?_
 obtain⟨m,hm',rfl⟩:=aba.1 hf
 simp only[jj,abN] at hx hy
 have e1:(n.aA.set i r.aU)[i]?=some r.aU:=by simp[hi]
 rw[e1] at hy;rw[hd] at hx
 cases hx;cases hy
 exact⟨λh1 _=>by simp[jj] at h1,λ_ h1=>by simp[jj] at h1,λ_ _ h3=>.inl (st.sg m hm' h3)⟩
theorem Vg (h:PI n) {d:aG} (hd:n.aw[i]?=some d) (hs:n.aA[i]?=some s) (ha:n.bG[i]?=some a) {t:bO} (st:TrS d s a t.aU t.eu t.co) (hp:∀x∈t.ju,x.a8=7):PI (xf n i t):=by
 have hi:=(aaa.1 hs).1
 have hm:=h.setM hd hs st.mo st.si
 rw[gR hd] at hm
 have e1:(n.aA.set i t.aU)[i]?=some t.aU:=by simp[hi]
 have hpg:=PI.sends (t.ju.map (jj i false)) hm λf hf x y hx hy=>by
  obtain⟨m,hm',rfl⟩:=aba.1 hf
  have hk:=hp m hm'
  exact⟨λh1 _=>by simp[jj] at h1,λ_ h1=>by simp[jj] at h1,λ_ _ h3=>by simp only[jj] at h3;omega⟩
 have hkeep:=lP (t.ju.map (jj i false)) {n with aA:=n.aA.set i t.aU,bG:=n.bG.set i t.eu}
 refine PI.sends _ hpg λf hf x y hx hy=>?_
 obtain⟨m,hm',rfl⟩:=aba.1 hf
 rw[hkeep.2.1] at hy
 simp only[s7,abN] at hy
 rw[e1] at hy;cases hy
 exact⟨λh1=>by simp[s7] at h1,λ_ _=>.inl (st.rd m hm'),λ_ h1=>by simp[s7] at h1⟩
theorem Mm:∀(c i:Nat) {B:Int} {n:ab},NP B n->B+c<4611686018427387904->PI n->PI (rp c i n)
 |0,_,_,_,_,_,h=>h
 |c+1,i,B,n,hn,hB,h=>by
  rw[rp]
  cases hd:n.aw[i]? with
  |none=>exact h
  |some d=>
   obtain⟨d',s,a,e1,e2,e3,hm⟩:=hn.at_ (aaa.1 hd).1
   rw[hd] at e1;cases e1
   exact Mm c (i+1) (nE hn hd (xC d) (En hm.dp) hm.dc oaa) oaa (vr h hd e2 e3 (Tz (h.si i d s a hd e2 e3)))
theorem Mo:∀(c i:Nat) {B:Int} {n:ab},NP B n->B+2000*c<4611686018427387904->PI n->PI (xl c i n)
 |0,_,_,_,_,_,h=>h
 |c+1,i,B,n,hn,hB,h=>by
  rw[xl]
  cases hs:n.aA[i]? with
  |none=>exact h
  |some s=>cases ha:n.bG[i]? with
   |none=>exact h
   |some a=>
    have hls:=hn.ls
    have hml:=mZ hn.map
    obtain⟨d,s',a',e1,e2,e3,hm⟩:=hn.at_ (i:=i) (by have:=(aaa.1 hs).1;omega)
    rw[hs] at e2;rw[ha] at e3;cases e2;cases e3
    have ht:=RG (h.si i d s a e1 hs ha) hm.sg n.ev
    exact Mo c (i+1) (LF hn hs ha (BA hm.sg oaa) (LZ hm.sg hn.map) oaa) oaa (Vg h e1 hs ha ht.1 ht.2)
theorem Tp (h:PI n) (k:Nat):PI (kO n k):=⟨h.si,λf hf=>h.fi f (by
 simp only[kO,aae] at hf
 rcases hf with hf|hf
 .exact aas hf
 exact List.mem_of_mem_drop hf)⟩
theorem M1 (hn:NP B n) (h:PI n) (k:Nat):PI (lG n k):=by
 rw[lG]
 cases hf:n.aT[k]? with
 |none=>exact h
 |some f=>
  have hfm:=aab hf
  have hp:=hn.fs f hfm
  have h1:=Tp h k
  have hdd:=hp.d
  obtain⟨d,s,a,e1,e2,e3,hm⟩:=hn.at_ (i:=f.bm.toNat) oaa
  have hfi:=h.fi f hfm d s e1 e2
  have hsi:=h.si _ d s a e1 e2 e3
  have q1:(kO n k).aw[f.bm.toNat]?=some d:=e1
  have q2:(kO n k).aA[f.bm.toNat]?=some s:=e2
  have q3:(kO n k).bG[f.bm.toNat]?=some a:=e3
  simp only
  cases Do (kO n k) f.bh
  .exact⟨h1.si,h1.fi⟩
  simp only[q1,q2,au]
  cases hu:f.eG
  .simp only[cond_false]
   cases eqB d.bh f.bh
   .exact⟨h1.si,h1.fi⟩
   simp only[au]
   cases hr:f.dZ
   .exact vr h1 q1 q2 q3 (W9 hsi hm.key (yH hm.sg.sp.rcd).2 (λe=>hfi.dn hu hr e))
   exact vr h1 q1 q2 q3 (W7 hsi (Fx.1 hm.dp.rc.v) hm.sg.sp hm.sg.b1 (hfi.rd hu hr))
  simp only[cond_true]
  cases hr:f.dZ||!eqB f.bg.bh f.bh
  .simp only[cond_false]
   simp only[aam] at hr
   exact Rp h1 q1 q2 q3 (VJ hsi hm.sg (λe=>hfi.up hu hr.1 e))
  exact h1
theorem Xt {d:aG} {f:bM} (h:(bif f.dZ then f.eG||IO d f.co else bif f.eG then hUp s f.bg else CN d f.bg)=true):FI d s f:=by
 refine⟨λh1 h2 h3=>?_,λh1 h2=>?_,λh1 h2 h3=>?_⟩
 .rw[h2,h1] at h
  simp only[hUp,h3,show eqB 8 3=false from by simp[eqB],bX,Bool.or_true,au] at h
  right
  rcases aan _ _ |>.mp h with q|q
  .exact .inl (mu q)
  rw[hV] at q;exact .inr ⟨qi q.1,by simpa using q.2⟩
 .rw[h2,h1] at h
  simp only[cond_true,aaC,IO] at h
  right
  rcases aan _ _ |>.mp h with q|q
  .exact .inl (mu q)
  rw[hV] at q;exact .inr ⟨qi q.1,by simpa using q.2⟩
 rw[h2,h1] at h
 simp only[CN,h3,bX,au] at h
 right
 rcases aan _ _ |>.mp h with q|q
 .exact .inl (qi q)
 exact .inr (qi q)
theorem PI.same {n':ab} (h:PI n) (h1:n'.aw=n.aw) (h2:n'.aA=n.aA) (h3:n'.bG=n.bG) (h4:∀f∈n'.aT,f∈n.aT):PI n':=
 ⟨by rw[h1,h2,h3];exact h.si,λf hf=>by rw[h1,h2];exact h.fi f (h4 f hf)⟩
theorem own_PI (hn:NP B n) (h:PI n) (e:cX):PI (GM n e).2:=by
 rw[GM]
 cases inR e.cB 0 ((n.aw.length:Int)-1)
 .exact h
 simp only[au]
 cases hd:n.aw[e.cB.toNat]? with
 |none=>exact h
 |some d=>
  obtain⟨d',s,a,e1,e2,e3,hm⟩:=hn.at_ (aaa.1 hd).1
  rw[hd] at e1;cases e1
  have hsi:=h.si _ d s a hd e2 e3
  simp only[e2]
  cases eqB e.a8 5
  .simp only[cond_false]
   cases eqB e.a8 6
   .simp only[cond_false]
    cases eqB e.a8 7
    .simp only[cond_false]
     cases(tD s e.a9).2
     .exact h
     have st:=RF hsi hm.sg e.a9
     have hm':=h.setM hd e2 st.mo (a':=a) st.si
     rw[gR hd,gR e3] at hm'
     exact hm'
    simp only[cond_true]
    cases eqB d.bp 2
    .exact h
    have st:=XB hsi
    have hm':=h.setM hd e2 st.2 (a':=a) st.1
    rw[gR e2,gR e3] at hm'
    exact hm'
   simp only[cond_true]
   cases eqB e.bh d.bh||!eN n.ev e.bh
   .exact vr h hd e2 e3 (Ty hsi e.bh)
   exact h
  simp only[cond_true]
  cases eqB d.bp 0
  .exact h
  exact vr h hd e2 e3 (ZG hsi)
theorem RO (hn:NP B n) (h:PI n) (k:Int) (up:Bool):PI (p5 n k up).2:=by
 rw[p5]
 cases !inR k 0 (n.eC.fC-1)||(booB (xj n.eC k) up||eqB (pk n.eC k up).fP 0)
 .simp only[cond_false]
  have key:∀(i:Nat) d s' a,n.aw[i]?=some d->(zE n.eC (pk n.eC k up) n.aA.length 0 n.aA)[i]?=some s'->n.bG[i]?=some a->∃s,n.aA[i]?=some s/\SI d s' a/\BW d s d s':=by
   intro i d s' a hd hs ha
   rcases sb n.eC (pk n.eC k up) n.aA.length 0 n.aA i with q|⟨t,q1,q2⟩
   .rw[q] at hs;exact⟨s',hs,h.si i d s' a hd hs ha,BW.refl d s'⟩
   rw[q2] at hs;cases hs
   have hm:=hn.m i d t a hd q1 ha
   have st:=NH (h.si i d t a hd q1 ha) hm.sg
   exact⟨t,q1,st.si,st.mo⟩
  refine⟨λi d s' a hd hs ha=>?_,λf hf d s' hd hs=>?_⟩
  .obtain⟨s,_,g,_⟩:=key i d s' a hd hs ha;exact g
  obtain⟨d',t,a,e1,e2,e3,hm⟩:=hn.at_ (i:=f.bm.toNat) (aaa.1 hd).1
  obtain⟨s,g1,_,g2⟩:=key _ d s' a hd hs e3
  exact(h.fi f hf d s hd g1).mono g2
 exact h
theorem Kt (hn:NP B n) (hB:B+10000<4611686018427387904) (h:PI n) (he:EP e) (hh:ph n e=true):PI (iz n e).2:=by
 rw[iz]
 split
 .rw[Fe]
  cases hb:leB 100000 n.rr
  .simp only[cond_false]
   have hb:=yd hb
   have hl:=hn.ld
   have hnw:=hn.nw
   have h1:NP B {n with rr:=n.rr+1}:={hn with nw:=by simp only;omega}
   have p1:PI {n with rr:=n.rr+1}:=h.same rfl rfl rfl (λf hf=>hf)
   have p2:=Mm n.aw.length 0 h1 oaa p1
   have hnp:∀(c i:Nat) {B:Int} {n:ab},NP B n->B+c<4611686018427387904->NP (B+c) (rp c i n):=by
    intro c
    induction c with
    |zero=>intro i B n hn _;simpa [rp] using hn
    |succ c ih=>
     intro i B n hn hB
     rw[rp]
     cases hd:n.aw[i]? with
     |none=>exact hn.mono oaa
     |some d=>
      obtain⟨d',s,a,e1,e2,e3,hm⟩:=hn.at_ (aaa.1 hd).1
      rw[hd] at e1;cases e1
      exact(ih (i+1) (nE hn hd (xC d) (En hm.dp) hm.dc oaa) oaa).mono oaa
   have h2:=hnp n.aw.length 0 h1 oaa
   have hls:=h2.ls
   have hl2:=h2.ld
   exact Mo _ 0 h2 oaa p2
  exact h
 split
 .rw[wq]
  cases inR e.cB 0 ((n.aT.length:Int)-1)
  .exact h
  simp only[au]
  cases eqB e.a8 2
  .simp only[cond_false]
   cases eqB e.a8 3
   .simp only[cond_false]
    cases leB 200 (n.aT.length:Int)
    .simp only[cond_false]
     cases hf:n.aT[e.cB.toNat]? with
     |none=>exact h
     |some f=>exact h.send (h.fi f (aab hf))
    exact h
   exact(Tp h _).same rfl rfl rfl (λf hf=>hf)
  exact M1 hn h _
 split
 .exact own_PI hn h e
 split
 .rw[Fd];cases !eN n.ev e.cB||booB (Do n e.cB) (eqB e.a8 10)
  .exact h.same rfl rfl rfl (λf hf=>hf)
  exact h
 split
 .exact RO hn h _ _
 split
 .rename_i h13
  rw[wr];cases hp:yl n e.bD
  .exact h
  refine h.send λd s hd hs=>?_
  rw[ph,h13,hp] at hh
  simp only[bX,Bool.not_true,aaC,aan,aax,decide_eq_true_eq] at hh
  rcases hh with⟨f,hf,rfl⟩|hh
  .exact h.fi _ hf d s hd hs
  rw[Nd,hd,hs] at hh
  exact Xt hh
 exact h
theorem new_PI {m:aS} {rs:List aO} {p:bR} {b:Int} (hv:uG rs=true):PI (ip m rs p b rs.length):=by
 refine⟨λi d s a hd hs ha=>?_,λf hf=>by simp[ip] at hf⟩
 obtain⟨hk,rfl⟩:=Bs hd
 obtain⟨_,rfl⟩:=Bs hs
 obtain⟨_,rfl⟩:=Bs ha
 simp only[uG,hV,ez] at hv
 have hr:=hv.1 i _ (v0 hk)
 simp only[Fq,hV] at hr
 have hq:=yH hr.1
 have hg:rs.getD i default=rs[i]:=OV (v0 hk)
 refine⟨acA _,?_,λe=>?_,λe=>?_,?_,λe=>?_,λe=>?_,?_,λe=>?_,?_,?_,?_,?_,?_,?_⟩
 .simp only[mQ];rw[hg];exact hq.1
 .simp[mQ] at e
 .simp[mQ] at e
 .simp only[mQ];rw[hg];exact hq.1
 .simp[mQ] at e
 .simp[mQ] at e
 .simp only[uN];rw[hg];exact hq.1
 .simp[uN] at e
 .simp[uN]
 .simp[uN]
 .simp[uN,mQ]
 .simp[mQ]
 .simp[iG,mQ,uN]
 simp[iG,mQ,z1,jC]
theorem Reach.pi:∀{k:Nat} {n:ab},Reach k n->k<=1000000->PI n
 |_,_,.new h hm hp hl _,_=>new_PI h.2.2
 |_,_,.step h he hh,hk=>Kt (h.np oaa) oaa (h.pi oaa) he hh
theorem VL {a:List Int} (ha:okB a) (hb:okB b):L0 a b=decide (a=b):=P9 ha hb
def Fj (d:aG) (s:ah):Bool:=decide (d.bW.be<+:s.aH)
theorem Vf {xs ys:List bJ} (hx:∀p∈xs,okB p.a9) (hy:∀p∈ys,okB p.a9) (hl:xs.length<=1000):tO xs ys=some (decide (xs<+:ys)):=by
 rw[tO]
 cases hb:ltB (ys.length:Int) (xs.length:Int)
 .have hb:=qz hb
  have:=fr (L:=nW xs ys) xs (λk x=>decide (ys[k]?=some x)) (some true) oaa (λk x hx' hk=>by
   obtain⟨y,hy'⟩:∃y,ys[k]?=some y:=⟨_,v0 oaa⟩
   simp only[nW,cA hk,bu,hx',hy',TT,VL (hx x (aab hx')) (hy y (aab hy')),WRs (k:=k),dn,au]
   have e:decide (x.a9=y.a9)=decide (some y=some x):=by
    obtain⟨x⟩:=x;obtain⟨y⟩:=y
    simp only[Option.some.injEq,bJ.mk.injEq]
    exact decide_eq_decide.2 ⟨Eq.symm,Eq.symm⟩
   rw[e]
   cases decide (some y=some x)<;>rfl) (by simp only[nW,cg,cond_false])
  rw[cond_false,this]
  have e:gb (λk x=>decide (ys[k]?=some x)) xs=decide (xs<+:ys):=by
   rw[abO,ez,decide_eq_true_eq,List.prefix_iff_eq_take]
   constructor
   .intro h
    apply abS
    intro k
    by_cases hk:k<xs.length
    .have:=h k _ (v0 hk)
     rw[decide_eq_true_eq] at this
     rw[aaH,if_pos hk,this,v0 hk]
    rw[acd oaa,acd (by simp;omega)]
   intro h k x hk
   rw[decide_eq_true_eq]
   have hlt:=(aaa.1 hk).1
   rw[h,aaH,if_pos hlt] at hk;exact hk
  rw[e];cases decide (xs<+:ys)<;>rfl
 have hb:=mu hb
 have:¬xs<+:ys:=λh=>by have:=h.length_le;omega
 rw[decide_eq_false this];rfl
theorem LB:∀(c k fu:Nat) (l:List bJ) (v:Int),l.length<=1000->k+c=l.length->c<fu->0<=v->v+60*c<=1000000->(∀p∈l,p.a9.length<=60)->iter (jH l) fu (v,(k:Int))=some (v+((l.drop k).map λp=>(p.a9.length:Int)).sum)
 |0,k,fu,l,v,h6,h1,h2,h3,h4,h5=>by
  cases fu with
  |zero=>omega
  |succ fu=>
   rw[iter]
   simp only[jH,ltB_f.2 (show(l.length:Int)<=(k:Int) by omega),cond_false]
   rw[List.drop_eq_nil_of_le oaa];simp
 |c+1,k,fu,l,v,h6,h1,h2,h3,h4,h5=>by
  cases fu with
  |zero=>omega
  |succ fu=>
   obtain⟨x,hx⟩:∃x,l[k]?=some x:=⟨_,v0 oaa⟩
   have hxl:=h5 x (aab hx)
   rw[iter]
   simp only[jH,cA (show k<l.length by omega),bu,hx,WRs (k:=k),bP (n:=v+(x.a9.length:Int)) oaa,au]
   rw[LB c (k+1) fu l _ h6 oaa oaa oaa oaa h5,List.drop_eq_getElem_cons (show k<l.length by omega)]
   have:l[k]=x:=by have:=v0 (show k<l.length by omega);rw[hx] at this;exact(Option.some.inj this).symm
   rw[this];simp only[aau,acI];congr 1;omega
theorem W1 (h:SP s) (k:Int):pT s k=some (jC s.aH k.toNat):=by
 have hl:=h.sl
 rw[pT,UF]
 simp only[abM,Pm]
 obtain⟨m,hm,hm2,hm3⟩:∃m:Nat,kw (Cm k 0) (s.aH.length:Int)=(m:Int)/\m<=s.aH.length/\s.aH.take m=s.aH.take k.toNat:=by
  refine⟨min k.toNat s.aH.length,?_,Nat.min_le_right _ _,?_⟩
  .unfold kw Cm;split<;>split<;>omega
  rw[List.take_eq_take_min (i:=k.toNat)]
 rw[hm,show eF s.aH 0 (m:Int)=true by simp[eF];omega]
 simp only[cond_true,abN,uT]
 have:=LB (s.aH.take m).length 0 FU (s.aH.take m) 0 (by simp;omega) oaa (by have:=gZ;simp;omega) oaa (by simp;omega) (λp hp=>h.sd p (aas hp))
 rw[show iter (jH (s.aH.take m)) FU (0,0)=_ from this]
 simp only[abM,List.drop_zero,jC,hm3];congr 1;omega
section
variable {B:Int} {n:ab} (h:NP B n) {i:Nat} {d:aG} {s:ah} {a:aj} (hd:n.aw[i]?=some d) (hs:n.aA[i]?=some s) (ha:n.bG[i]?=some a)
include h hd hs ha
omit hs ha in
theorem Xu:sU n (i:Int)=some true/\qv n (i:Int)=some true:=by
 have h1:=h.ls
 have h2:=h.la
 have h3:=h.ld
 have hi:=(aaa.1 hd).1
 simp only[sU,qv,gK,bP (n:=(n.aw.length:Int)-1) oaa,bP (n:=(n.aA.length:Int)-1) oaa,bP (n:=(n.bG.length:Int)-1) oaa,bQ.2 (show(0:Int)<=(i:Int)/\(i:Int)<=(n.aw.length:Int)-1 by omega),bQ.2 (show(0:Int)<=(i:Int)/\(i:Int)<=(n.aA.length:Int)-1 by omega),bQ.2 (show(0:Int)<=(i:Int)/\(i:Int)<=(n.bG.length:Int)-1 by omega),au]
 exact⟨trivial,trivial⟩
theorem XY:kS n (i:Int)=some (Fj d s):=by
 obtain⟨e1,e2⟩:=Xu h hd
 have hm:=h.m i d s a hd hs ha
 have hr:=Fx.1 hm.dp.rc.v
 simp only[kS,e1,bu,hd,hs,Vf hm.dp.rc.b2 hm.sg.b1 (by have:=hr.l;omega),Fj,au]
theorem QB:pU n (i:Int)=some (a.ey+s.b9.em):=by
 obtain⟨e1,e2⟩:=Xu h hd
 have hm:=h.m i d s a hd hs ha
 have q1:=hm.sg.mo.acc.s
 have q2:=hm.sg.mo.acc.t
 have q3:=hm.sg.sp.q
 have q4:=q3.u
 have q5:=q3.g
 have q6:=q3.m
 simp only[pU,e2,bu,ha,hs,bP (n:=a.ey+s.b9.em) oaa,au]
theorem Oz:gH s=some (iG s.ax):=by
 have hm:=h.m i d s a hd hs ha
 have hn:=hm.sg.sp.win.n
 have hl:=hm.sg.sp.win.l
 rw[gH,bP (n:=s.ax.bE-1) oaa,bP oaa];rfl
theorem once_i:jm n (i:Int)=some (eqB (a.ey+s.b9.em) (jC s.aH (iG s.ax).toNat)):=by
 obtain⟨e1,e2⟩:=Xu h hd
 have hm:=h.m i d s a hd hs ha
 simp only[jm,e2,QB h hd hs ha,Oz h hd hs ha,W1 hm.sg.sp,bu,hs,au]
theorem YL:fR n (i:Int)=some (leB (iG s.ax) (d.bW.be.length:Int)):=by
 obtain⟨e1,e2⟩:=Xu h hd
 simp only[fR,e1,Oz h hd hs ha,bu,hs,hd,au]
end
def Td (n:ab) (i:Nat) (d:aG):Bool:=match n.aA[i]?,n.bG[i]? with
 |some s,some a=>Fj d s&&(eqB (a.ey+s.b9.em) (jC s.aH (iG s.ax).toNat)&&leB (iG s.ax) (d.bW.be.length:Int))
 |_,_=>true
theorem Te (h:NP B n):Cd n=some (gb (Td n) n.aw):=by
 have hl:=h.ld
 simp only[Cd,HG h.okN,h.vn,au]
 have:=fr (L:=yW n) n.aw (Td n) (some true) oaa (λk d hd hk=>by
  obtain⟨d',s,a,e1,e2,e3,hm⟩:=h.at_ hk
  rw[hd] at e1;cases e1
  simp only[yW,cA hk,XY h hd e2 e3,once_i h hd e2 e3,YL h hd e2 e3,WRs (k:=k),Td,e2,e3,au]
  cases Fj d s<;>cases eqB (a.ey+s.b9.em) (jC s.aH (iG s.ax).toNat)<;>cases leB (iG s.ax) (d.bW.be.length:Int)<;>rfl) (by simp only[yW,cg,cond_false])
 rw[this]
 cases gb (Td n) n.aw<;>rfl
theorem Kv (h:NP B n) (p:PI n):Cd n=some true:=by
 rw[Te h]
 congr 1
 refine ez.2 λi d hd=>?_
 obtain⟨d',s,a,e1,e2,e3,hm⟩:=h.at_ (aaa.1 hd).1
 rw[hd] at e1;cases e1
 have si:=p.si i d s a hd e2 e3
 have hr:=Fx.1 hm.dp.rc.v
 have hak:=si.ak
 have hn:=hr.n
 simp only[Td,e2,e3,Fj,hV,decide_eq_true_eq,eqB_t,leB_t]
 exact⟨si.pr,si.ch,by omega⟩
structure Paid (d:aG) (s:ah) (a:aj):Prop where
 le:d.bW.be.length<=s.aH.length
 eq:s.aH.take d.bW.be.length=d.bW.be
 ch:a.ey+s.b9.em<=jC s.aH d.bW.be.length
 to:a.ey+s.b9.em<=a.gU
theorem P5 {xs:List Int} (hl:xs.length<=1048576) {m:Int} (hm:3<=m/\m<=900):∃r,BG xs m=some r/\3<=r/\r<=m:=by
 have h0:0<=acC (xs.length:Int) 12/\acC (xs.length:Int) 12<=1048576:=by
  rw[Int.tdiv_eq_ediv_of_nonneg oaa];omega
 rw[BG]
 rw[bP (n:=acC (xs.length:Int) 12) oaa,bP (n:=3+acC (xs.length:Int) 12) oaa]
 cases hb:ltB m (3+acC (xs.length:Int) 12)
 .have:=qz hb;exact⟨_,rfl,by omega,by omega⟩
 exact⟨m,rfl,by omega,acA _⟩
structure WP (n:ab):Prop where
 np:∃B:Int,NP B n/\B<=100000000
 pi:PI n
 dl:1<=n.aw.length/\n.aw.length<=3
 re:∃k,Reach k n/\k<=200
 ru:∃k,DX k n/\k<=200
theorem RN.good {B:Nat} (h:RN B l n) (hB:B<=200) (hl:1<=l/\l<=3):WP n:=by
 obtain⟨k,h1,h2,h3⟩:=h
 exact⟨⟨_,h1.re.np oaa,by omega⟩,h1.re.pi oaa,by omega,⟨k,h1.re,by omega⟩,k,h1,by omega⟩
theorem wRunG {xs:List Int} (hl:xs.length<=1048576) (hu:∀x∈xs,yk x) {c:bk} (hc:dL c) {a m:Int} (ha:0<=a/\a<=90) (hm:3<=m/\m<=60) {r:Int} (hr:BG xs m=some r):
 Wp (BN c (WR (a+r))) (λr=>dL r.2.2.2/\WP r.1/\WP r.2.2.1/\r.2.1.length<=1010/\∀e∈r.2.1,EP e):=by
 obtain⟨r',h1,h2,h3⟩:=P5 hl (m:=m) oaa
 rw[hr] at h1;cases h1
 rw[bP (n:=a+r) oaa]
 refine Wp.mono (w33Run hc oaa) λx hx=>?_
 obtain⟨g1,l,g2,g3,g4,g5,g6⟩:=hx
 exact⟨g1,g3.good oaa g2,g4.good oaa g2,g5,g6⟩
def rootAt (r:aO) (g:Int):Int:=if g=0 then 0 else zJ r g
def RadS (s:ah) (x:av):Prop:=Dc s x\/wY (rootAt s.bF x.ag) x=false
structure PR (n:ab):Prop where
 dz:∀d∈n.aw,d.ag=0->d.aZ=0
 sz:∀s∈n.aA,s.ag=0->s.aZ=0
 rd:∀f∈n.aT,f.dZ=true->f.eG=false/\∀s,n.aA[f.bm.toNat]?=some s->RadS s f.co
section
variable {B:Int} {n:ab} (hn:NP B n) (h:PR n) {i:Nat} {d:aG} {s:ah} {a:aj} (hd:n.aw[i]?=some d) (hs:n.aA[i]?=some s) (ha:n.bG[i]?=some a)
include hn h hd hs ha
end
section
variable {B:Int} {n:ab} (hn:NP B n) (p:PI n) (h:PR n) {i:Nat} {s:ah} (hs:n.aA[i]?=some s)
include hn p h hs
end
section
variable {B:Int} {n:ab} (h:NP B n) {i:Nat} {d:aG} {s:ah} {a:aj} (hd:n.aw[i]?=some d) (hs:n.aA[i]?=some s) (ha:n.bG[i]?=some a)
include h hd
include hs ha
end
theorem Mt {xs:List Int} (hl:xs.length<=1048576) (hu:∀x∈xs,yk x):Wp (ud xs) (λr=>WP r.1/\r.2.length<=1010/\∀e∈r.2,EP e):=by
 unfold ud
 obtain⟨c,e,hc,_⟩:=new_ok hl hu
 obtain⟨r,h1,_,_⟩:=P5 hl (m:=45) oaa
 refine Wp.eq e (Wp.eq h1 (Wp.call (wRunG hl hu hc (a:=30) (m:=45) oaa oaa h1) λx hx=>Wp.some ⟨hx.2.1,hx.2.2.2.1,hx.2.2.2.2⟩))
theorem X5 {x:av} (hx:okB x.bz.a9) (hy:okB y.bz.a9):tN x y=some (decide (x=y)):=by
 rw[<-JB hx hy]
 simp only[tN,uR,qC,p7,TT,YV]
theorem same_i {x y:bM} (hx:okB x.co.bz.a9) (hy:okB y.co.bz.a9):pZ x y=some (decide (x=y)):=by
 rw[<-VM hx hy]
 simp only[pZ,lQ,X5 hx hy,JB hx hy]
theorem hUp_i (s:ah) (m:aF):lb s m=some (hUp s m):=by
 simp only[lb,Gl,abM,hUp]
 cases eqB m.a8 3<;>cases eqB m.a8 5<;>cases eqB m.a8 8<;>cases leB m.ag s.bF.cW<;>cases eqB m.ag s.bI<;>cases eqB m.bV s.aK.w8<;>cases ltB m.ag s.ag<;>cases eqB m.ag s.ag<;>rfl
theorem Xr {d:aG} (hp:DP d) (m:aF):jo d m=some (CN d m):=by
 have hl: -9000000000000<=d.dr.di/\d.dr.di<=9000000000000:=by
  have:=hp.card
  simp only[uH,hV,bQ] at this;omega
 simp only[jo,Gl,Qi hl,abM,CN]
 cases eqB m.a8 2<;>cases eqB m.a8 4<;>cases eqB m.a8 6<;>cases eqB (jS d.dr.eX d.dr.di m.cd) 1<;>cases ltB m.ag d.ag<;>cases eqB m.ag d.ag<;>rfl
theorem Xw (h:NP B n) (hB:B+10000<4611686018427387904) (he:EP e):qo n e=some (ph n e):=by
 have hfl:=h.fl
 rw[qo,ph]
 cases h13:eqB e.a8 13
 .rfl
 have hk:=qi h13
 have ha:iz n e=wr n e.bD:=by
  rw[iz,if_neg oaa,if_neg oaa,if_neg oaa,if_neg oaa,if_neg oaa,if_pos hk]
 simp only[OM h he hB,ha,wr,aaC,au]
 cases hp:yl n e.bD
 .rfl
 simp only[aaC,au]
 simp only[yl,hV,bQ] at hp
 obtain⟨d,s,a,e1,e2,e3,hm⟩:=h.at_ (show e.bD.bm.toNat<n.aw.length by omega)
 have hdev:=IH e.bD.bm hp.2.1.1
 have i1:ix n.aw e.bD.bm=some d:=by rw[hdev,bu];exact e1
 have i2:ix n.aA e.bD.bm=some s:=by rw[hdev,bu];exact e2
 have:=lq (L:=nV n e) n.aT (λ_ f=>!decide (f=e.bD)) true (some (Nd n e.bD)) oaa (λk x hx hk=>by
  have hx':=h.fs x (aab hx)
  have hde:decide (e.bD=x)=decide (x=e.bD):=decide_eq_decide.2 ⟨Eq.symm,Eq.symm⟩
  simp only[nV,cA hk,bu,hx,same_i he.r hx'.b,hde,WRs (k:=k),dn,au]
  cases decide (x=e.bD)<;>rfl) (by
  simp only[nV,cg,i1,i2,hUp_i,Xr hm.dp,px,xc he.r,Nd,e1,e2,IO,au]
  cases e.bD.dZ<;>cases e.bD.eG<;>cases ltB e.bD.co.ag d.ag<;>cases eqB e.bD.co.ag d.ag<;>rfl)
 rw[this,qg]
 rw[show n.aT.all (λf=>!decide (f=e.bD))=!n.aT.any (λf=>decide (f=e.bD)) by rw[<-acF]]
 cases n.aT.any (λf=>decide (f=e.bD))<;>rfl
theorem It {r2:ab×List cX} (hE:∀e∈r2.2,EP e) (hl:r2.2.length<=1010):∀(c i fu:Nat) {B:Int} {n:ab},i+c=r2.2.length->c<fu->NP B n->B+10000*c<=1000000000000->PI n->iter (p4 r2) fu ((i:Int),n)=some true
 |0,i,fu,B,n,h1,h2,hn,hB,p=>by
  cases fu with
  |zero=>omega
  |succ fu=>
   rw[iter]
   simp only[p4,ltB_f.2 (show(r2.2.length:Int)<=(i:Int) by omega),Kv hn p,au];rfl
 |c+1,i,fu,B,n,h1,h2,hn,hB,p=>by
  cases fu with
  |zero=>omega
  |succ fu=>
   obtain⟨e,hx⟩:∃e,r2.2[i]?=some e:=⟨_,v0 oaa⟩
   have he:=hE e (aab hx)
   rw[iter]
   simp only[p4,cA (show i<r2.2.length by omega),bu,hx,Xw hn oaa he,OX hn he,Qw,WRs (k:=i),au]
   cases hh:ph n e
   .simp only[au]
    exact It hE hl c (i+1) fu oaa oaa hn oaa p
   obtain⟨n',hn',hn2,p2⟩:∃n',(bif(iz n e).1 then((iz n e).2,true) else(n,false)).1=n'/\NP (B+10000) n'/\PI n':=by
    cases(iz n e).1
    .exact⟨n,rfl,hn.mono oaa,p⟩
    exact⟨_,rfl,(vR hn he oaa).2.2,Kt hn oaa p he hh⟩
   simp only[OM hn he oaa,hn',Kv hn2 p2,au]
   have ih:=It hE hl c (i+1) fu oaa oaa hn2 oaa p2
   cases eqB (abK (i:Int) 8) 0<;>exact ih
theorem GK (xs:List Int) (hp:preL yk xs):Am xs=some true:=by
 simp only[Am,Z5,abM]
 cases hb:ltB 1048576 (xs.length:Int) with
 |true=>rfl
 |false=>
  have hl:=qz hb
  obtain⟨r,hd,hg,h10,hE⟩:=(Mt (xs:=xs) oaa hp.2).ex
  obtain⟨B,hn,hB⟩:=hg.np
  simp only[hd,au]
  exact It hE h10 r.2.length 0 FU oaa (by have:=gZ;omega) hn oaa hg.pi
end Go.AM
