/- A part. -/
import Derived.Test.YtfbpfflnhfcmaaaGreatP1
set_option linter.unusedVariables false
set_option linter.unusedSimpArgs false
set_option maxHeartbeats 4000000
open Option renaming some->ς,none->ξ
open Bool renaming true->ζ,false->η
open True renaming intro->θ
open List renaming getElem?_eq_some_iff->abb,getElem?_eq_getElem->aa9,mem_of_getElem?->abl,mem_map->afk,mem_append->ab1,getElem?_of_mem->aej,prefix_refl->agK,mem_singleton->afn,range->abm,nil_append->afl,filter_append->agN,any_eq_true->aep,getElem?_append_right->aem,drop_eq_getElem_cons->ae0,take_of_length_le->agd,map_cons->ael,length_cons->aee,take_append_drop->afG,mem_append_left->agJ,append_nil->agL,getElem?_map->aeR,take_add_one->age,map_append->afq,filter_eq_nil_iff->afv,mem_of_mem_take->aeo,sum_cons->agO,mem_cons->acb,length_append->aeu,ext_getElem?->af8,append_assoc->agk,all_eq_true->acf,sum_append->agR,countP_nil->agS,length_map->aeE,map_nil->aeF
open Bool renaming and_eq_true->v0,or_eq_false_iff->adi,or_eq_true->adP,false_or->aen,true_and->af6,eq_iff_iff->af0,not_eq_false'->af5,and_true->afD,and_eq_false_iff->agQ,and_self->agP,not_true->afp,or_self->af7,false_and->agp,or_true->afM,true_or->agn
open Int renaming le_refl->agH,toNat_natCast->afZ,le_trans->agI,tmod->afX,tmod_eq_emod_of_nonneg->af4,tdiv->agM
open Option renaming bind_some->afY,bind->afW
open Nat renaming zero_le->ac7,le_refl->acA,add_assoc->agT,le_trans->afo
namespace Go.AM
attribute [local simp] bK bj bB
variable{B K G:Int}{n:Go.AM.ab}{e:Go.AM.cU}{α:Type}{i k l:Nat}{a:Go.AM.av}{b:List Int}{m:Go.AM.aG}{p:Go.AM.bR}{s s':Go.AM.ag}{r:Go.AM.bi}{d':Go.AM.aA}{f:Go.AM.bg}{x:α}
theorem TE:eqB 3 2=false:=by simp[eqB]
theorem TG:eqB 4 2=false:=by simp[eqB]
theorem TH:eqB 4 3=false:=by simp[eqB]
theorem TI:eqB 6 5=false:=by simp[eqB]
theorem TJ:eqB 7 5=false:=by simp[eqB]
theorem TL:eqB 7 6=false:=by simp[eqB]
theorem Ox:eqB 8 5=false:=by simp[eqB]
theorem Oy:eqB 8 6=false:=by simp[eqB]
theorem Oz:eqB 8 7=false:=by simp[eqB]
theorem TF:eqB 3 4=false:=by simp[eqB]
theorem TD:eqB 2 3=false:=by simp[eqB]
structure EP(e:cU):Prop where
 d:okB e.bh
 f:lU e.b8
 r:okB e.b8.bV.bO.bh
def qj(n:ab)(e:cU):Bool×ab:=
 bif !inR e.cq 0 ((n.aH.length:Int)-1) then(η,n) else
 bif eqB e.bb 2 then(ζ,dS n e.cq.toNat) else
 bif eqB e.bb 3 then(ζ,Jl (ez n e.cq.toNat)) else
 bif leB 200 (n.aH.length:Int) then(η,n) else match n.aH[e.cq.toNat]? with
  |none=>(ζ,n)
  |some f=>(ζ,eh n f)
theorem NA(h:NP B n)(e:cU)(hk:e.bb=2\/e.bb=3\/e.bb=4)(hB:B+1<4611686018427387904):
 zh n e=ς (qj n e)/\qa n e=ς (qj n e)/\NP (B+1) (qj n e).2:=by
 have hfl:=h.fl
 simp only[zh,fQ,qa,gE,qj,bN (n:=(n.aH.length:Int)-1) oaa,afY]
 cases hr:inR e.cq 0 ((n.aH.length:Int)-1)
 .exact⟨rt,rt,h.mono oaa⟩
 have hr:=bE.1 hr
 obtain⟨k,hk'⟩:∃k:Nat,e.cq=k:=⟨e.cq.toNat,by omega⟩
 have hlt:k<n.aH.length:=by omega
 obtain⟨f,hf⟩:∃f,n.aH[k]?=ς f:=⟨_,aa9 hlt⟩
 have hp:=h.fs f (abl hf)
 simp only[hk',afZ,UN h hlt,Ue h.fl hf,Dz hp.ok,JP h hlt,Ud h.fl hf,Dy hp.ok,bB,hf,au]
 rcases hk with e2|e2|e2<;>rw[e2]<;>simp only[TE,TG,TH,TI,TJ,TL,Ox,Oy,Oz,TF,TD,bj,au]
 .exact⟨rt,rt,oS h k hB⟩
 .exact⟨rt,rt,LS (F1 h k) oaa⟩
 cases leB 200 (n.aH.length:Int)
 .exact⟨rt,rt,CA h hp oaa⟩
 exact⟨rt,rt,h.mono oaa⟩
def BS(n:ab)(e:cU):Bool×ab:=
 bif !inR e.cq 0 ((n.aj.length:Int)-1) then(η,n) else match n.aj[e.cq.toNat]?,n.an[e.cq.toNat]? with
  |some d,ς s=>
   bif eqB e.bb 5 then(bif !eqB d.aX 0 then(η,n) else(ζ,dY n e.cq.toNat (dOn d))) else
   bif eqB e.bb 6 then(bif eqB e.aS d.aS||!er n.cp e.aS then(η,n) else(ζ,dY n e.cq.toNat (sJ d e.aS))) else
   bif eqB e.bb 7 then(bif !eqB d.aX 2 then(η,n) else(ζ,{n with aj:=n.aj.set e.cq.toNat (uL d)})) else
   bif(s7 s e.bh).2 then(ζ,{n with an:=n.an.set e.cq.toNat (s7 s e.bh).1}) else(η,n)
  |_,_=>(η,n)
theorem P4(d:aA):(uL d).dq=d.dq/\(uL d).aS=d.aS:=by
 rw[uL];grind
theorem ZL(h:NP B n)(e:cU)(he:EP e)(hk:e.bb=5\/e.bb=6\/e.bb=7\/e.bb=8)(hB:B+1<4611686018427387904):
 Gf n e=ς (BS n e)/\lc n e=ς (BS n e)/\NP (B+1) (BS n e).2:=by
 have hl:=h.ld
 have hm6:=fX h.map
 have hnm:NP (B+1) n:=h.mono oaa
 simp only[Gf,fQ,lc,gE,yt (show n.cp.bp.length<=1048576 by omega),BS,bN (n:=(n.aj.length:Int)-1) oaa,bN (n:=(n.cp.bp.length:Int)-1) oaa,afY]
 cases hr:inR e.cq 0 ((n.aj.length:Int)-1)
 .simp_all
 have hr:=bE.1 hr
 obtain⟨k,hk'⟩:∃k:Nat,e.cq=k:=⟨e.cq.toNat,by omega⟩
 have hlt:k<n.aj.length:=by omega
 obtain⟨d,s,a,e1,e2,e3,hm⟩:=h.at_ hlt
 have l1:=(Lm d).len
 have l2:(sJ d e.aS).bY.length<=1:=by rcases GS d e.aS with h|h;exact h.len;exact h.2.len
 simp only[hk',afZ,bB,e1,e2,on_s hm.dp.ok,move_s hm.dp.ok hm.dp.ep,idle_s hm.dp.ok,sub_s hm.sg.sp.ok,AE hlt (show(dOn d).bY.length<=1048576 by omega),AE hlt (show(sJ d e.aS).bY.length<=1048576 by omega),on_i hm.dp.ok,move_i hm.dp.ok hm.dp.ep,idle_i hm.dp.ok,sub_i hm.sg.sp.ok,AD hlt (show(dOn d).bY.length<=1048576 by omega),AD hlt (show(sJ d e.aS).bY.length<=1048576 by omega),au]
 try rw[show inR e.aS 0 ((n.cp.bp.length:Int)-1)=er n.cp e.aS from rfl]
 rcases hk with e4|e4|e4|e4<;>rw[e4]<;>simp only[TE,TG,TH,TI,TJ,TL,Ox,Oy,Oz,TF,TD,bj,au]
 .cases eqB d.aX 0
  .simp_all
  exact⟨rt,rt,lV h e1 (Lm d) (dOn_ok hm.dp) hm.dc hB⟩
 .cases hx:eqB e.aS d.aS<;>cases hy:er n.cp e.aS<;>try exact⟨rt,rt,hnm⟩
  refine⟨rt,rt,?_⟩
  have hc:=bE.1 (show inR e.aS 0 ((n.cp.bp.length:Int)-1)=ζ from hy)
  rcases GS d e.aS with h'|h'
  .exact lV h e1 h' (Np hm.dp _) hm.dc hB
  exact lV h e1 h'.2 (Np hm.dp _) oaa hB
 .cases eqB d.aX 2
  .simp_all
  refine⟨rt,rt,NP.mono (B:=B) ?_ oaa⟩
  have hik:=P4 d
  refine h.setD e2 e3 ⟨XW hm.dp,by rw[hik.2];exact hm.dc,hm.sg,hm.sc,hm.si,?_⟩
  have:=hm.ids
  simp only[Hs,hik.1] at this ⊢;exact this
 cases hb:(s7 s e.bh).2
 .have hs:(s7 s e.bh).1=s:=by
   revert hb;rw[s7];cases leB 24 (s.aC.length:Int)||ltB 60 (e.bh.length:Int)
   .simp_all
   intro _;rfl
  refine⟨?_,rt,hnm⟩
  first|trivial|(rw[hs,fR e2];rfl)
 refine⟨rt,rt,NP.mono (B:=B) ?_ oaa⟩
 have hg:=adH hm.sg he.d
 refine h.setS e1 e3 ⟨hm.dp,hm.dc,hg,?_,?_,?_⟩
 all_goals
  rw[s7]
  cases leB 24 (s.aC.length:Int)||ltB 60 (e.bh.length:Int)
 .exact hm.sc
 .exact hm.sc
 .exact hm.si
 .exact hm.si
 .exact hm.ids
 exact hm.ids
def mL(n:ab)(c:Int)(up:Bool):Bool×ab:=
 bif !er n.cp c||booB (oo n c) up then(η,n) else(ζ,{n with bH:=Jb .i64 n.bH (nO .i64 1 c)})
theorem JF(h:NP B n)(e:cU):
 D1 n e.cq (eqB e.bb 10)=ς (mL n e.cq (eqB e.bb 10))/\pZ n e=ς (mL n e.cq (eqB e.bb 10))/\NP B (mL n e.cq (eqB e.bb 10)).2:=by
 have hm6:=fX h.map
 simp only[D1,fQ,QC hm6,pZ,yt (show n.cp.bp.length<=1048576 by omega),QB hm6,mL,bN (n:=(n.cp.bp.length:Int)-1) oaa,afY]
 try rw[show inR e.cq 0 ((n.cp.bp.length:Int)-1)=er n.cp e.cq from rfl]
 cases hc:er n.cp e.cq
 .simp_all
 have hi:=bE.1 (show inR e.cq 0 ((n.cp.bp.length:Int)-1)=ζ from hc)
 rw[leB_t.2 hi.1]
 cases booB (oo n e.cq) (eqB e.bb 10)
 .exact⟨rt,rt,{h with dn:=(Ti hm6.2 h.dn oaa).1}⟩
 simp_all
def zE(n:ab)(f:bg):Bool:=ltB (n.aH.length:Int) 200&&(inR f.aY 0 ((n.aj.length:Int)-1)&&er n.cp f.aS)
def uY(n:ab)(f:bg):Bool×ab:=bif !zE n f then(η,n) else(ζ,eh n f)
theorem Ql(h:NP B n)(e:cU)(he:EP e)(hB:B<4611686018427387904):
 (afW (lu n e.b8) λr13=>bif !r13 then(ς (η,n)) else(afW (jx n e.b8) λr14=>ς (ζ,r14)))=ς (uY n e.b8)/\LJ n e.b8=ς (uY n e.b8)/\NP (B+1) (uY n e.b8).2:=by
 have hm6:=fX h.map
 have hl:=h.ld
 simp only[lu,fQ,Dz he.f,LJ,gE,yt (show n.cp.bp.length<=1048576 by omega),Dy he.f,uY,zE,bN (n:=(n.cp.bp.length:Int)-1) oaa,bN (n:=(n.aj.length:Int)-1) oaa,afY]
 try rw[show inR e.b8.aS 0 ((n.cp.bp.length:Int)-1)=er n.cp e.b8.aS from rfl]
 try rw[show leB 200 (n.aH.length:Int)=!ltB (n.aH.length:Int) 200 by simp only[leB,ltB];grind]
 cases h1:ltB (n.aH.length:Int) 200<;>cases h2:inR e.b8.aY 0 ((n.aj.length:Int)-1)<;>cases h3:er n.cp e.b8.aS<;>try exact⟨rt,rt,h.mono oaa⟩
 have hd:=bE.1 h2
 have hc:=bE.1 (show inR e.b8.aS 0 ((n.cp.bp.length:Int)-1)=ζ from h3)
 exact⟨rt,rt,CA h ⟨by omega,by omega,he.r,he.f⟩ oaa⟩
def gO(n:ab)(e:cU):Bool×ab:=
 if e.bb=1 then jp n else
 if e.bb=2\/e.bb=3\/e.bb=4 then qj n e else
 if e.bb=5\/e.bb=6\/e.bb=7\/e.bb=8 then BS n e else
 if e.bb=9\/e.bb=10 then mL n e.cq (eqB e.bb 10) else
 if e.bb=11\/e.bb=12 then kv n e.cq (eqB e.bb 12) else
 if e.bb=13 then uY n e.b8 else(η,n)
theorem Gx(h:NP B n)(he:EP e)(hB:B+10000<4611686018427387904):
 BC n e=ς (gO n e)/\wb n e=ς (gO n e)/\NP (B+10000) (gO n e).2:=by
 rw[gO,BC,wb]
 by_cases h1:e.bb=1
 .rw[if_pos h1,h1]
  have:=ux h hB
  simp_all
 rw[if_neg h1]
 have n1:eqB e.bb 1=false:=by simpa [eqB] using h1
 by_cases h2:e.bb=2\/e.bb=3\/e.bb=4
 .rw[if_pos h2]
  have:=NA h e h2 oaa
  have hb':(bif eqB e.bb 2 then(ς (eqB e.bb 2)) else(afW (bif eqB e.bb 3 then(ς (eqB e.bb 3)) else(ς (eqB e.bb 4))) λ(v3:Bool)=>ς v3))=ς true:=by
   rcases h2 with e|e|e<;>rw[e]<;>simp only[TE,TG,TH,TI,TJ,TL,Ox,Oy,Oz,TF,TD,bj,au]<;>rfl
  rw[n1,hb']
  simp only[this.1,this.2.1,au]
  exact⟨rt,rt,this.2.2.mono oaa⟩
 rw[if_neg h2]
 have hb':(bif eqB e.bb 2 then(ς (eqB e.bb 2)) else(afW (bif eqB e.bb 3 then(ς (eqB e.bb 3)) else(ς (eqB e.bb 4))) λ(v3:Bool)=>ς v3))=ς false:=by
  rw[show eqB e.bb 2=η by simp_all,show eqB e.bb 3=η by simp_all,show eqB e.bb 4=η by simp_all];rfl
 rw[n1,hb']
 simp only[au]
 by_cases h3:e.bb=5\/e.bb=6\/e.bb=7\/e.bb=8
 .rw[if_pos h3]
  have:=ZL h e he h3 oaa
  have hb3:(bif eqB e.bb 5 then(ς (eqB e.bb 5)) else(afW (bif eqB e.bb 6 then(ς (eqB e.bb 6)) else(afW (bif eqB e.bb 7 then(ς (eqB e.bb 7)) else(ς (eqB e.bb 8))) λ(v7:Bool)=>ς v7)) λ(v6:Bool)=>ς v6))=ς true:=by
   rcases h3 with e|e|e|e<;>rw[e]<;>simp only[TE,TG,TH,TI,TJ,TL,Ox,Oy,Oz,TF,TD,bj,au]<;>rfl
  rw[hb3]
  simp only[this.1,this.2.1,au]
  exact⟨rt,rt,this.2.2.mono oaa⟩
 rw[if_neg h3]
 have hb3:(bif eqB e.bb 5 then(ς (eqB e.bb 5)) else(afW (bif eqB e.bb 6 then(ς (eqB e.bb 6)) else(afW (bif eqB e.bb 7 then(ς (eqB e.bb 7)) else(ς (eqB e.bb 8))) λ(v7:Bool)=>ς v7)) λ(v6:Bool)=>ς v6))=ς false:=by
  rw[show eqB e.bb 5=η by simp_all,show eqB e.bb 6=η by simp_all,show eqB e.bb 7=η by simp_all,show eqB e.bb 8=η by simp_all];rfl
 rw[hb3]
 simp only[au]
 by_cases h4:e.bb=9\/e.bb=10
 .rw[if_pos h4]
  have:=JF h e
  have hb4:(bif eqB e.bb 9 then(ς (eqB e.bb 9)) else(ς (eqB e.bb 10)))=ς true:=by rcases h4 with e|e<;>rw[e]<;>simp[eqB]
  rw[hb4]
  simp only[this.1,this.2.1,au]
  exact⟨rt,rt,this.2.2.mono oaa⟩
 rw[if_neg h4]
 have hb4:(bif eqB e.bb 9 then(ς (eqB e.bb 9)) else(ς (eqB e.bb 10)))=ς false:=by
  rw[show eqB e.bb 9=η by simp_all,show eqB e.bb 10=η by simp_all];rfl
 rw[hb4]
 simp only[au]
 by_cases h5:e.bb=11\/e.bb=12
 .rw[if_pos h5]
  have:=OX h e.cq (eqB e.bb 12)
  have hb5:(bif eqB e.bb 11 then(ς (eqB e.bb 11)) else(ς (eqB e.bb 12)))=ς true:=by rcases h5 with e|e<;>rw[e]<;>simp[eqB]
  rw[hb5]
  simp only[this.1,this.2.1 e rfl rfl,au]
  exact⟨rt,rt,this.2.2.mono oaa⟩
 rw[if_neg h5]
 have hb5:(bif eqB e.bb 11 then(ς (eqB e.bb 11)) else(ς (eqB e.bb 12)))=ς false:=by
  rw[show eqB e.bb 11=η by simp_all,show eqB e.bb 12=η by simp_all];rfl
 rw[hb5]
 simp only[au]
 by_cases h6:e.bb=13
 .rw[if_pos h6,h6]
  have:=Ql h e he oaa
  simp only[bj,this.1,this.2.1,au]
  exact⟨rt,rt,this.2.2.mono oaa⟩
 rw[if_neg h6,show eqB e.bb 13=η by simp_all]
 exact⟨rt,rt,h.mono oaa⟩
structure BY(n:ab):Prop where
 d1:∀d∈n.aj,∀x∈d.bm.aV,okB x.bh
 d2:∀d∈n.aj,∀p∈d.bm.bv,okB p.bh
 s1:∀s∈n.an,∀p∈s.aC,okB p.bh
 s2:∀s∈n.an,∀x∈s.ax.aJ,okB x.bh
 f:∀f∈n.aH,okB f.bV.bO.bh
theorem NP.of(ok:js n)(v:oG n=ζ)(b:BY n):NP n.Lost n:=by
 simp only[oG,Co,v0,bE,eN,acf,flB] at v
 obtain⟨v1,v2,v3,v4,v5,v6,v7,v8,v9,v10,v11,v12⟩:=v
 have v4:=vK v4
 have v5:=Be v5
 have v6:=Be v6
 have v8:=vK v8
 have v12:=vK v12
 refine⟨v1,ok.1,v2,Jc (by simp_all),by omega,v5,v6,λi d s a hd hs ha=>?_,by omega,λf hf=>?_,bE.2 v10,v11,⟨v12,by omega⟩⟩
 .have:=v7 i d hd
  simp only[Dv,hs,ha,v0] at this
  obtain⟨m1,m2,m3,m4,m5,m6,m7,m8⟩:=this
  have hdm:=abl hd
  have hsm:=abl hs
  have c1:=bE.1 (show inR d.aS 0 ((n.cp.bp.length:Int)-1)=ζ from m5)
  have c2:=bE.1 (show inR s.aS 0 ((n.cp.bp.length:Int)-1)=ζ from m6)
  exact⟨DP.of m1 (ok.2.1.2 d hdm) (b.d1 d hdm) (b.d2 d hdm),by omega,⟨(xV (ok.2.2.1.2 s hsm)).1 m2,b.s1 s hsm,b.s2 s hsm,um.1 m8⟩,by omega,gj m7,m4⟩
 have:=v9 f hf
 have c2:=bE.1 (show inR f.aS 0 ((n.cp.bp.length:Int)-1)=ζ from this.2)
 exact⟨by omega,by omega,b.f f hf,ok.2.2.2.2.2 f hf⟩
theorem NP.okN(h:NP B n):js n:=by
 have h1:=h.ld
 have h2:=h.ls
 have h3:=h.la
 have h4:=h.fl
 refine⟨h.mok,⟨by omega,λd hd=>?_⟩,⟨by omega,λs hs=>?_⟩,⟨by omega,λa ha=>?_⟩,⟨by omega,λf hf=>(h.fs f hf).ok⟩⟩
 .obtain⟨i,hi⟩:=aej hd
  have hlt:=(abb.1 hi).1
  obtain⟨d',s,a,e1,e2,e3,hm⟩:=h.at_ hlt
  rw[hi] at e1;cases e1;exact hm.dp.ok
 .obtain⟨i,hi⟩:=aej hs
  have hlt:=(abb.1 hi).1
  obtain⟨d',s,a,e1,e2,e3,hm⟩:=h.at_ (show i<n.aj.length by omega)
  rw[hi] at e2;cases e2;exact hm.sg.sp.ok
 obtain⟨i,hi⟩:=aej ha
 have hlt:=(abb.1 hi).1
 obtain⟨d',s,a,e1,e2,e3,hm⟩:=h.at_ (show i<n.aj.length by omega)
 rw[hi] at e3;cases e3;exact hm.sg.mo.acc.ok
theorem NP.vn(h:NP B n):oG n=true:=by
 have h1:=h.ld
 have h2:=h.ls
 have h3:=h.la
 have h4:=h.fl
 have h5:=h.lo
 have hu:eqB n.fg.fZ 0=false:=by simpa [eqB] using h.up
 simp only[oG,Co,v0,bE,eN,acf,flB]
 refine⟨h.map,h.core,by simp[hu],leB_t.2 oaa,eqB_t.2 oaa,eqB_t.2 oaa,λi d hd=>?_,leB_t.2 oaa,λf hf=>?_,bE.1 h.dn,h.nw,leB_t.2 h5.1⟩
 .obtain⟨d',s,a,e1,e2,e3,hm⟩:=h.at_ (abb.1 hd).1
  rw[hd] at e1;cases e1
  have hc:=hm.dp.ce
  have hsc:=hm.sg.sp
  simp only[Dv,e2,e3,v0]
  exact⟨hm.dp.v,(xV hm.sg.sp.ok).2 hm.sg.sp,A6.2 hm.sg.mo.acc,hm.ids,bE.2 (by have:=hm.dc;omega),bE.2 (by have:=hm.sc;have:=hsc.ce;omega),eqB_t.2 hm.si,um.2 hm.sg.mo⟩
 have hf:=h.fs f hf
 exact⟨by have:=hf.d;omega,bE.2 (by have:=hf.c;omega)⟩
theorem event_i(h:NP B n)(he:EP e)(hB:B+10000<4611686018427387904):Fg n e=ς (bif(gO n e).1 then((gO n e).2,ζ) else(n,η)):=by
 have:=(Gx h he hB).2.1
 simp only[Fg,Zx h.okN,EE h.okN,h.vn,this,au]
 grind
open Go.Proofs
theorem K7(x:Int)(m:Nat)(hm:m<9223372036854775808):0<=yo .i64 x (m:Int)/\yo .i64 x (m:Int)<=m:=by
 unfold yo
 have h1:(BitVec.ofInt IntKind.i64.bits x&&& BitVec.ofInt IntKind.i64.bits (m:Int)).toNat<=m:=by
  rw[BitVec.toNat_and]
  refine afo Nat.and_le_right ?_
  show(BitVec.ofInt 64 (m:Int)).toNat<=m
  rw[BitVec.toNat_ofInt]
  omega
 rw[MN oaa]
 omega
structure dM(c:bu):Prop where
 l:c.fb.length<=1048576
 u:∀x∈c.fb,xJ x
 a:0<=c.fi
 b:c.fi<=c.fb.length
theorem C4{c:bu}(h:dM c):∃v c',wG c=ς (v,c')/\0<=v/\v<=255/\dM c':=by
 unfold wG
 have:=h.l
 have ha:=h.a
 have hb:=h.b
 by_cases hi:c.fi<c.fb.length
 .obtain⟨x,hx,e⟩:=YZ h.a hi
  rw[show ltB c.fi (c.fb.length:Int)=ζ from by simp_all]
  simp only[e,au]
  refine⟨_,_,rfl,(K7 _ 255 oaa).1,(K7 _ 255 oaa).2,⟨h.l,h.u,?_,?_⟩⟩
  .show 0<=WR (c.fi+1);rw[bN oaa];omega
  show WR (c.fi+1)<=(c.fb.length:Int);rw[bN oaa];omega
 rw[show ltB c.fi (c.fb.length:Int)=η from by simp_all]
 simp only[au]
 exact⟨_,_,rfl,(K7 _ 255 oaa).1,(K7 _ 255 oaa).2,⟨h.l,h.u,h.a,h.b⟩⟩
theorem Gh{v n:Int}(hv:0<=v)(hn:0<n):0<=afX v n/\afX v n<n:=by
 rw[af4 hv]
 exact⟨Int.emod_nonneg _ oaa,Int.emod_lt_of_pos _ hn⟩
theorem Nb{c:bu}(h:dM c){n:Int}(hn:1<=n):∃v c',cS c n=ς (v,c')/\0<=v/\v<n/\dM c':=by
 unfold cS
 rw[show leB n 0=η from by simp[leB];omega]
 have hz:(!eqB n 0)=true:=by simp[eqB];omega
 simp only[hz,au]
 by_cases h2:n<=256
 .rw[show leB n 256=ζ from by simp_all]
  obtain⟨v,c',e,h0,h1,hc⟩:=C4 h
  have:=Gh h0 (show 0<n by omega)
  grind
 rw[show leB n 256=η from by simp_all]
 obtain⟨v,c1,e,h0,h1,hc⟩:=C4 h
 obtain⟨v2,c2,e2,h02,h12,hc2⟩:=C4 hc
 obtain⟨v3,c3,e3,h03,h13,hc3⟩:=C4 hc2
 simp only[e,e2,e3,au]
 rw[bN (n:=v*65536) oaa,bN (n:=v2*256) oaa,bN (n:=v*65536+v2*256) oaa,bN (n:=v*65536+v2*256+v3) oaa]
 have:=Gh (v:=v*65536+v2*256+v3) oaa (show 0<n by omega)
 grind
theorem ade{c:bu}(h:dM c){n:Int}(hn:1<=n):∃v c',jY c n=ς (v,c')/\dM c':=by
 obtain⟨v,c',e,_,_,hc⟩:=Nb h hn
 exact⟨_,_,by rw[jY,e];rfl,hc⟩
theorem Zy{xs:List Int}(hl:xs.length<=1048576)(hu:∀x∈xs,xJ x):∃c,Iw xs=ς c/\dM c/\c.fb=xs:=by
 have key:∀(m n k:Nat) (v:Int),m=xs.length-k->k<=xs.length->m<n->∃r,iter (xX xs) n (v,(k:Int))=ς r:=by
  intro m
  induction m with
  |zero=>
   intro n k v hm hk hn
   cases n with
   |zero=>omega
   |succ n=>
    have:k=xs.length:=by omega
    subst this
    exact⟨v,by rw[iter];simp[xX]⟩
  |succ m ih=>
   intro n k v hm hk hn
   cases n with
   |zero=>omega
   |succ n=>
    have hlt:k<xs.length:=by omega
    rw[iter]
    simp only[xX,cy hlt,bB,aa9 hlt,WRs (k:=k),au]
    cases ltB (k:Int) 4000
    .simp_all
    exact ih n (k+1) _ oaa oaa oaa
 obtain⟨r,hr⟩:=key xs.length FU 0 (WR (193017+(xs.length:Int))) oaa oaa (by have:=gH;omega)
 refine⟨⟨xs,0,r⟩,?_,⟨hl,hu,agH 0,Int.natCast_nonneg _⟩,rfl⟩
 rw[Iw,show iter (xX xs) FU (WR (193017+(xs.length:Int)),0)=ς r from hr]
 rfl
theorem eA{c:bu}(h:dM c){n:Int}(hn:1<=n):Wp (cS c n) (λr=>dM r.2/\0<=r.1/\r.1<n):=by
 obtain⟨v,c',e,h0,h1,hc⟩:=Nb h hn
 exact Wp.of e ⟨hc,h0,h1⟩
theorem A2{c:bu}(h:dM c){n:Int}(hn:1<=n):Wp (jY c n) (λr=>dM r.2):=by
 obtain⟨v,c',e,hc⟩:=ade h hn
 exact Wp.of e hc
theorem wInt{c:bu}(h:dM c){xs:List Int}(hx:xs≠[]):Wp (CP c xs) (λr=>dM r.2/\r.1∈xs):=by
 have hl:0<xs.length:=List.length_pos_iff.2 hx
 unfold CP
 refine Wp.call (eA h oaa) λr hr=>?_
 exact Wp.ix hr.2.1 hr.2.2 λx hm _=>Wp.some ⟨hr.1,hm⟩
theorem abd{c:bu}(h:dM c){n:Int}(h0:0<=n)(hn:n<=4000):Wp (AS c n) (λr=>dM r.2/\okB r.1/\(r.1.length:Int)=n):=by
 unfold AS
 refine Wp.call (P:=λx=>dM x.2/\okB x.1/\(x.1.length:Int)=n) ?_ λx hx=>Wp.some hx
 refine Wp.iterF (λx=>(0<=x.1/\x.1<=n)/\dM x.2.2/\okB x.2.1/\(x.2.1.length:Int)=x.1) (λx=>(n-x.1).toNat) ⟨⟨by omega,by omega⟩,h,λx hx=>by simp at hx,by simp⟩ oaa ?_
 rintro⟨v1,v5,v6⟩ ⟨⟨i0,i1⟩,i2,i3,i4⟩
 simp only at i0 i1 i2 i3 i4
 simp only[Fy]
 refine Wp.cond (λhb=>?_) (λhb=>Wp.some ⟨i2,i3,by have:=ou hb;grind⟩)
 have hb:=kO hb
 obtain⟨b,c',e,b0,b1,hc⟩:=C4 i2
 refine Wp.call (Wp.of (Q:=λr=>dM r.2/\0<=r.1/\r.1<=255) e ⟨hc,b0,b1⟩) λr hr=>?_
 refine Wp.ok (gJ (by simp;omega) (by simp;omega)) (Wp.some ⟨⟨⟨?_,?_⟩,hr.1,?_,?_⟩,?_⟩)
 all_goals simp only[bN (show-9223372036854775808<=v1+1/\v1+1<=9223372036854775807 by omega)]
 .omega
 .omega
 .intro x hx
  rcases ab1.1 hx with hx|hx
  .exact i3 x hx
  simp at hx;subst hx
  have e1:IntKind.u8.wrap r.1=r.1:=by rw[IR];omega
  rw[e1];exact hr.2
 .simp;omega
 omega
theorem Mt{P:α->Prop}{xs:List α}{a:α}(h:∀x∈xs,P x)(ha:P a):∀x∈xs.set i a,P x:=λx hx=>by
 grind
theorem ZG{v:List (Int×List Int)}(h1:v.length<=5)(h2:∀e∈v,e.2.length<=1000):gP (⟨v.map λe=>(⟨e.1,e.2⟩:fo)⟩:be):=by
 refine⟨by grind,λx hx=>?_⟩
 obtain⟨e,he,rfl⟩:=afk.1 hx
 exact⟨by grind,λ_ _=>trivial⟩
theorem wKey{c:bu}(h:dM c):Wp (CQ c) (λr=>dM r.2):=by
 unfold CQ
 exact Wp.call (eA h oaa) λr1 h1=>Wp.some h1.1
structure JM(v:List (Int×List Int)):Prop where
 ar:∀e∈v,0<=e.1/\e.1<=1
 rg:∀(i:Nat) e,v[i]?=ς e->∀x∈e.2,0<=x/\x<v.length/\x≠i
 sy:∀(i j:Nat) e f,v[i]?=ς e->v[j]?=ς f->(j:Int)∈e.2->(i:Int)∈f.2
def SZ(v:List (Int×List Int))(a b:Nat)(x y:Int×List Int):List (Int×List Int):=(v.set a (x.1,x.2++[(b:Int)])).set b (y.1,y.2++[(a:Int)])
theorem Dr{v:List (Int×List Int)}{a b:Nat}{x y:Int×List Int}(hx:v[a]?=ς x)(hy:v[b]?=ς y)(hab:a≠b){e':Int×List Int}(h:(SZ v a b x y)[i]?=ς e'):
 ∃e,v[i]?=ς e/\e'.1=e.1/\∀z,z∈e'.2↔z∈e.2\/(i=a/\z=b)\/(i=b/\z=a):=by
 rcases jM h with⟨e1,e2⟩|⟨e1,e2⟩
 .grind
 grind
theorem Y1{v:List (Int×List Int)}(h:JM v){a b:Nat}{x y:Int×List Int}(hx:v[a]?=ς x)(hy:v[b]?=ς y)(hab:a≠b):JM (SZ v a b x y):=by
 have ha:=(abb.1 hx).1
 have hb:=(abb.1 hy).1
 have hl:(SZ v a b x y).length=v.length:=by simp[SZ]
 refine⟨λe he=>?_,λi e he z hz=>?_,λi j e f he hf hj=>?_⟩
 .obtain⟨i,hi⟩:=aej he
  obtain⟨e0,h0,h1,_⟩:=Dr hx hy hab hi
  rw[h1];exact h.ar e0 (abl h0)
 .obtain⟨e0,h0,h1,h2⟩:=Dr hx hy hab he
  rw[hl]
  rcases(h2 z).1 hz with hz|hz|hz
  .exact h.rg i e0 h0 z hz
  .omega
  omega
 obtain⟨e0,h0,h1,h2⟩:=Dr hx hy hab he
 obtain⟨f0,g0,g1,g2⟩:=Dr hx hy hab hf
 rw[g2]
 rcases(h2 j).1 hj with hz|hz|hz
 .exact .inl (h.sy i j e0 f0 h0 g0 hz)
 .omega
 omega
theorem wJoinJ{v:List (Int×List Int)}{a b:Int}{B:Nat}(hB:B<=1000)(hv:∀e∈v,e.2.length<=B)(hj:JM v)(a0:0<=a)(a1:a<v.length)(b0:0<=b)(b1:b<v.length)(hab:a≠b):Wp (xW v a b) (λr=>(r.length=v.length/\∀e∈r,e.2.length<=B+2)/\JM r):=by
 obtain⟨i,rfl⟩:∃i:Nat,a=i:=⟨a.toNat,by omega⟩
 obtain⟨j,rfl⟩:∃j:Nat,b=j:=⟨b.toNat,by omega⟩
 obtain⟨x,hx⟩:∃x,v[i]?=ς x:=⟨_,aa9 oaa⟩
 obtain⟨y,hy⟩:∃y,v[j]?=ς y:=⟨_,aa9 oaa⟩
 have h1:=hv x (abl hx)
 have h2:=hv y (abl hy)
 have hy':(v.set i (x.1,x.2++[(j:Int)]))[j]?=ς y:=by rw[List.getElem?_set,if_neg oaa];exact hy
 unfold xW
 rw[bB,hx]
 simp only[afY,afZ]
 refine Wp.ok (gJ (by simp;omega) (by simp;omega)) ?_
 rw[bB,hy']
 simp only[afY]
 refine Wp.ok (gJ (by simp;omega) (by simp;omega)) (Wp.some ⟨⟨by simp,Mt (Mt (λe he=>by grind) (by simp;omega)) (by simp;omega)⟩,?_⟩)
 exact Y1 hj hx hy oaa
structure RW(n:Int)(e e':Int×List Int):Prop where
 a:e'.1=e.1
 m:∀z,z∈e'.2↔z∈e.2/\(0<=z/\z<n)
 o:e'.2.Pairwise λx y=>x<y
 l:(e'.2.length:Int)<=n
theorem QZ{v w:List (Int×List Int)}(h:JM v)(hl:w.length=v.length)(h2:2<=v.length/\v.length<=5)(hw:∀(i:Nat) e,v[i]?=ς e->∃e',w[i]?=ς e'/\RW v.length e e'):qU (⟨w.map λe=>(⟨e.1,e.2⟩:fo)⟩:be)=true:=by
 have hlen:(w.map λe=>(⟨e.1,e.2⟩:fo)).length=v.length:=by simp[hl]
 have get:∀(i:Nat) c,(w.map λe=>(⟨e.1,e.2⟩:fo))[i]?=ς c->∃e e',v[i]?=ς e/\w[i]?=ς e'/\RW v.length e e'/\c=⟨e'.1,e'.2⟩:=by
  intro i c hc
  have hi:=(abb.1 hc).1
  obtain⟨e,he⟩:∃e,v[i]?=ς e:=⟨_,aa9 oaa⟩
  obtain⟨e',he',hr⟩:=hw i e he
  rw[aeR,he'] at hc
  cases hc;exact⟨e,e',he,he',hr,rfl⟩
 simp only[qU,v0,bE,eN,hlen]
 refine⟨by omega,λi c hc=>?_⟩
 obtain⟨e,e',he,he',hr,rfl⟩:=get i c hc
 have har:=h.ar e (abl he)
 simp only[D6,v0,bE,eN,nbB,er,hlen]
 refine⟨by rw[hr.a];omega,λk x hx=>?_⟩
 have hm:=abl hx
 have hme:=(hr.m x).1 hm
 have hrg:=h.rg i e he x hme.1
 obtain⟨j,rfl⟩:∃j:Nat,x=j:=⟨x.toNat,by omega⟩
 refine⟨by omega,by have:=hrg.2.2;simpa [eqB] using this,F8 (key:=id) (by simpa using hr.o) hx,?_⟩
 obtain⟨f,hf⟩:∃f,v[j]?=ς f:=⟨_,aa9 oaa⟩
 obtain⟨f',hf',hrf⟩:=hw j f hf
 have hi:=(abb.1 he).1
 have hs:=h.sy i j e f he hf hme.1
 simp only[CZ,afZ,aeR,hf',Option.map_some,aep]
 exact⟨i,(hrf.m i).2 ⟨hs,by omega,by omega⟩,bj _⟩
theorem wDrawJ{c:bu}(h:dM c):Wp (Bx c) (λr=>dM r.2/\((2<=r.1.length/\r.1.length<=5)/\∀e∈r.1,e.2.length<=200)/\qU (⟨r.1.map λe=>(⟨e.1,e.2⟩:fo)⟩:be)=ζ):=by
 unfold Bx
 refine Wp.call (eA h oaa) λr1 h1=>?_
 obtain⟨n,hn⟩:∃n:Int,n=WR (2+r1.1):=⟨_,rfl⟩
 have hn1:n=2+r1.1:=by rw[hn,bN oaa]
 refine Wp.call (P:=λx=>dM ⟨x.1,x.2.1,x.2.2.1⟩/\(x.2.2.2.length:Int)=n/\∀a∈x.2.2.2,0<=a/\a<=1) ?_ ?_
 .refine Wp.iterF (λx=>(0<=x.1/\x.1<=n)/\dM ⟨x.2.1,x.2.2.1,x.2.2.2.1⟩/\(x.2.2.2.2.length:Int)=x.1/\∀a∈x.2.2.2.2,0<=a/\a<=1) (λx=>(n-x.1).toNat) ⟨⟨by omega,by omega⟩,h1.1,by simp,by simp⟩ oaa ?_
  rintro⟨v2,v3,v4,v5,v6⟩ ⟨⟨i0,i1⟩,i2,i3,i4⟩
  simp only at i0 i1 i2 i3 i4
  simp only[Fs,<-hn]
  refine Wp.cond (λhb=>?_) (λhb=>Wp.some ⟨i2,by have:=ou hb;grind,i4⟩)
  have hb:=kO hb
  refine Wp.call (eA i2 oaa) λr12 h12=>Wp.ok (gJ (by simp;omega) (by simp;omega)) (Wp.some ⟨⟨⟨?_,?_⟩,h12.1,?_,?_⟩,?_⟩)
  all_goals simp only[bN (show-9223372036854775808<=v2+1/\v2+1<=9223372036854775807 by omega)]
  .omega
  .omega
  .simp;omega
  .grind
  omega
 rintro⟨v8,v9,v10,v11⟩ ⟨hc,hl,har⟩
 simp only at hc hl har
 refine Wp.call (P:=λx=>dM ⟨x.1,x.2.1,x.2.2.1⟩/\((x.2.2.2.length:Int)=n/\∀e∈x.2.2.2,e.2.length<=200)/\JM x.2.2.2) ?_ ?_
 .refine Wp.iterF (λx=>(1<=x.1/\x.1<=n)/\dM ⟨x.2.1,x.2.2.1,x.2.2.2.1⟩/\((x.2.2.2.2.length:Int)=n/\∀e∈x.2.2.2.2,e.2.length<=20*x.1.toNat)/\JM x.2.2.2.2) (λx=>(n-x.1).toNat) ⟨⟨by omega,by omega⟩,hc,⟨by grind,by simp⟩,⟨by grind,λi e he x hx=>?_,λi j e f he hf hj=>?_⟩⟩ oaa ?_
  .grind
  .grind
  rintro⟨v13,v14,v15,v16,v17⟩ ⟨⟨i0,i1⟩,i2,⟨i3,i4⟩,i5⟩
  simp only at i0 i1 i2 i3 i4 i5
  simp only[Ft,<-hn]
  refine Wp.cond (λhb=>?_) (λhb=>Wp.some ⟨i2,⟨i3,λe he=>by grind⟩,i5⟩)
  have hb:=kO hb
  refine Wp.call (P:=λx=>dM ⟨x.1,x.2.1,x.2.2.1⟩/\((x.2.2.2.length:Int)=n/\∀e∈x.2.2.2,e.2.length<=20*v13.toNat+2*v13.toNat)/\JM x.2.2.2) ?_ ?_
  .refine Wp.iterF (λx=>(0<=x.1/\x.1<=v13)/\dM ⟨x.2.1,x.2.2.1,x.2.2.2.1⟩/\((x.2.2.2.2.length:Int)=n/\∀e∈x.2.2.2.2,e.2.length<=20*v13.toNat+2*x.1.toNat)/\JM x.2.2.2.2) (λx=>(v13-x.1).toNat) ⟨⟨by omega,by omega⟩,i2,⟨i3,by grind⟩,i5⟩ oaa ?_
   rintro⟨v43,v44,v45,v46,v47⟩ ⟨⟨j0,j1⟩,j2,⟨j3,j4⟩,j5⟩
   simp only at j0 j1 j2 j3 j4 j5
   simp only[Fu]
   refine Wp.cond (λhc=>?_) (λhc=>Wp.some ⟨j2,⟨j3,λe he=>by grind⟩,j5⟩)
   have hc:=kO hc
   refine Wp.call (P:=λx=>dM ⟨x.2.1,x.2.2.1,x.2.2.2⟩) ?_ ?_
   .refine Wp.cond (λ_=>Wp.call (A2 j2 oaa) λr62 h62=>?_) (λ_=>Wp.call (A2 j2 oaa) λr64 h64=>Wp.some h64)
    exact Wp.cond (λ_=>Wp.some h62) (λ_=>Wp.call (A2 h62 oaa) λr63 h63=>Wp.some h63)
   rintro⟨v58,v59,v60,v61⟩ hc2
   refine Wp.call (P:=λx=>((x.length:Int)=n/\∀e∈x,e.2.length<=20*v13.toNat+2*v43.toNat+2)/\JM x) ?_ ?_
   .refine Wp.cond (λ_=>Wp.call (wJoinJ (B:=20*v13.toNat+2*v43.toNat) oaa j4 j5 oaa oaa oaa oaa oaa) λr65 h65=>Wp.some ⟨⟨by omega,h65.1.2⟩,h65.2⟩) (λ_=>Wp.some ⟨⟨j3,λe he=>by grind⟩,j5⟩)
   intro v62 h62
   refine Wp.some ⟨⟨⟨?_,?_⟩,hc2,⟨h62.1.1,λe he=>?_⟩,h62.2⟩,?_⟩
   all_goals simp only[bN (show-9223372036854775808<=v43+1/\v43+1<=9223372036854775807 by omega)]
   .omega
   .omega
   .grind
   omega
  rintro⟨v55,v56,v57,v58⟩ ⟨k1,⟨k2,k3⟩,k4⟩
  simp only at k1 k2 k3 k4
  refine Wp.some ⟨⟨⟨?_,?_⟩,k1,⟨k2,λe he=>?_⟩,k4⟩,?_⟩
  all_goals simp only[bN (show-9223372036854775808<=v13+1/\v13+1<=9223372036854775807 by omega)]
  .omega
  .omega
  .grind
  omega
 rintro⟨v40,v41,v42,v43⟩ ⟨hc,⟨hl,hb⟩,hj⟩
 simp only at hc hl hb hj
 have hn5:2<=v43.length/\v43.length<=5:=by omega
 refine Wp.call (P:=λx=>((x.length:Int)=n/\∀e∈x,e.2.length<=200)/\∀(i:Nat) e,v43[i]?=ς e->∃e',x[i]?=ς e'/\RW n e e') ?_ λv78 h78=>Wp.some ⟨hc,⟨by grind,h78.1.2⟩,QZ hj (by grind) hn5 (by grind)⟩
 refine Wp.iterF (λx=>(0<=x.1/\x.1<=n)/\((x.2.length:Int)=n/\∀e∈x.2,e.2.length<=200)/\∀(i:Nat) e,v43[i]?=ς e->∃e',x.2[i]?=ς e'/\((i:Int)<x.1->RW n e e')/\(x.1<=(i:Int)->e'=e)) (λx=>(n-x.1).toNat) ⟨⟨by omega,by omega⟩,⟨hl,hb⟩,λi e he=>⟨e,he,λhi=>by omega,λ_=>rfl⟩⟩ oaa ?_
 rintro⟨v66,v67⟩ ⟨⟨i0,i1⟩,⟨i3,i4⟩,i5⟩
 simp only at i0 i1 i3 i4 i5
 simp only[Fv,<-hn]
 refine Wp.cond (λhb=>?_) (λhb=>Wp.some ⟨⟨i3,i4⟩,λi e he=>?_⟩)
 rotate_left
 .obtain⟨e',h1,h2,h3⟩:=i5 i e he
  have hi:=(abb.1 he).1
  have:=ou hb
  grind
 have hb:=kO hb
 obtain⟨q,rfl⟩:∃q:Nat,v66=q:=⟨v66.toNat,by omega⟩
 obtain⟨e0,he0⟩:∃e0,v43[q]?=ς e0:=⟨_,aa9 oaa⟩
 obtain⟨eq',hq1,_,hq3⟩:=i5 q e0 he0
 have hq3:=hq3 (agH _)
 subst hq3
 have hl0:=i4 eq' (abl hq1)
 refine Wp.call (P:=λx=>(x.length:Int)<=n/\(∀z,z∈x↔z∈eq'.2/\(0<=z/\z<n))/\x.Pairwise λx y=>x<y) ?_ ?_
 .refine Wp.iterF (λx=>(0<=x.1/\x.1<=n)/\(x.2.length:Int)<=x.1/\(∀z,z∈x.2↔z∈eq'.2/\(0<=z/\z<x.1))/\x.2.Pairwise λx y=>x<y) (λx=>(n-x.1).toNat) ⟨⟨by omega,by omega⟩,by simp,λz=>by simp,by simp⟩ oaa ?_
  rintro⟨v79,v80⟩ ⟨⟨j0,j1⟩,j2,j3,j4⟩
  simp only at j0 j1 j2 j3 j4
  simp only[Fw,<-hn]
  refine Wp.cond (λhc=>?_) (λhc=>?_)
  rotate_left
  .have:=ou hc
   have e:v79=n:=by omega
   subst e
   exact Wp.some ⟨j2,j3,j4⟩
  have hc:=kO hc
  simp only[bB,hq1,afY,Yz (show eq'.2.length<=1048576 by omega)]
  have key:(eq'.2.any λx=>eqB x v79)=ζ↔v79∈eq'.2:=by
   rw[aep];exact⟨λ⟨x,h1,h2⟩=>by rw[<-gj h2];exact h1,λh=>⟨v79,h,bj _⟩⟩
  refine Wp.call (P:=λx=>(x.length:Int)<=v79+1/\(∀z,z∈x↔z∈eq'.2/\(0<=z/\z<v79+1))/\x.Pairwise λx y=>x<y) ?_ λx hx=>Wp.some ⟨⟨⟨?_,?_⟩,?_,?_,hx.2.2⟩,?_⟩
  .refine Wp.cond (λhh=>Wp.ok (gJ (by simp;omega) (by simp;omega)) (Wp.some ⟨by simp;omega,λz=>?_,?_⟩)) (λhh=>Wp.some ⟨by omega,λz=>?_,j4⟩)
   .grind
   .grind
   grind
  all_goals simp only[bN (show-9223372036854775808<=v79+1/\v79+1<=9223372036854775807 by omega)]
  .omega
  .omega
  .exact hx.1
  .exact hx.2.1
  omega
 intro v84 h84
 simp only[bB,hq1,afY,afZ]
 refine Wp.some ⟨⟨⟨?_,?_⟩,⟨by grind,Mt i4 (by grind)⟩,λi e he=>?_⟩,?_⟩
 all_goals simp only[bN (show-9223372036854775808<=(q:Int)+1/\(q:Int)+1<=9223372036854775807 by omega)]
 .omega
 .omega
 .obtain⟨e',h1,h2,h3⟩:=i5 i e he
  by_cases hi:q=i
  .subst hi
   rw[he0] at he;cases he
   exact⟨(eq'.1,v84),by grind,λ_=>⟨rfl,h84.2.1,h84.2.2,h84.1⟩,λh=>by omega⟩
  grind
 omega
theorem aba{c:bu}(h:dM c):Wp (DU c) (λr=>dM r.2/\gP r.1/\qU r.1=ζ):=by
 unfold DU
 exact Wp.call (wDrawJ h) λr hr=>Wp.some ⟨hr.1,ZG hr.2.1.1.2 (λe he=>by grind),hr.2.2⟩
theorem Gv{τ ρ:Type}{L:τ->Option (cj τ ρ)}(mk:Nat->τ)(xs:List α)(p:Nat->α->Bool)(f:ρ)(c:Option ρ)(hl:xs.length<=9223372036854775806)(hs:∀(k:Nat) (x:α),xs[k]?=ς x->k<xs.length->L (mk k)=bif p k x then ς (.next (mk (k+1))) else ς (.done f))(he:L (mk xs.length)=dn c):
 iter L FU (mk 0)=bif iI p xs then c else ς f:=by
 have:=eR (step:=L) xs.zipIdx (λk (_:Unit)=>mk k) (λ_ y=>bif p y.2 y.1 then ς (.next ()) else ς (.done f)) (λ_=>c) (by simp_all)
  (λk y s hy hk=>by
   have hk':k<xs.length:=by simpa using hk
   have:y=(xs[k],k):=by rw[aa9 hk] at hy;simpa using hy.symm
   simp_all) (λs=>by simp_all) ()
 refine Eq.trans (show iter L FU (mk 0)=_ from this) ?_
 have key:∀ys:List (α×Nat),kW (λ(_:Unit) y=>bif p y.2 y.1 then ς (.next ()) else ς (cj.done f)) (λ_=>c) ys ()=bif ys.all (λy=>p y.2 y.1) then c else ς f:=by
  intro ys
  induction ys with
  |nil=>rfl
  |cons x xs ih=>rw[kW];grind
 exact key _
theorem Eh(xs:List α):iI (λ_ _=>ζ) xs=true:=eN.2 λ_ _ _=>rfl
theorem OZ{m:be}(h:gP m):s8 m=ς m:=by
 have hl:=h.1
 have:=Gv (L:=kS m) (λk=>((k:Int),m.bp.take k)) m.bp (λ_ _=>ζ) m.bp (ς m.bp) oaa (λk x hx hk=>by
  have hm:=abl hx
  have h1:=(h.2 x hm).1
  have e:m.bp.take (k+1)=m.bp.take k++[x]:=by rw[age,hx];rfl
  simp only[kS,cy hk,bB,hx,afl,e,WRs (k:=k),
   gJ (b:=8) (n:=x.cY.length) oaa oaa,
   gJ (b:=32) (n:=(m.bp.take k++[(⟨x.fF,x.cY⟩:fo)]).length) (by simp;omega) (by simp;omega),au]) (by simp[kS])
 rw[Eh] at this
 have this:iter (kS m) FU (0,[])=ς m.bp:=by simpa using this
 rw[s8,this];rfl
def CK(x y:a8):Bool:=eqB x.ID.eF y.ID.eF&&(eqB x.ID.bP y.ID.bP&&ζ)
theorem V9(x y:a8):CK x y=(eqB x.ID.eF y.ID.eF&&(eqB x.ID.bP y.ID.bP&&ζ)):=rfl
def H2(rs:List a8)(k:Nat)(x:a8):Bool:=vN x&&iI (λ_ y=>!CK y x) (rs.take k)
def wZ(rs:List a8):Bool:=iI (H2 rs) rs&&leB (rs.length:Int) 4
theorem Pa{xs:List α}(h:(xs.take k)[i]?=ς x):xs[i]?=ς x/\i<k:=by
 grind
theorem QV{rs:List a8}(hl:rs.length<=1000):wO rs=ς (wZ rs):=by
 have h2:∀(i:Nat) (x:a8),rs[i]?=ς x->iter (qN rs (i:Int)) FU 0=bif iI (λ_ y=>!CK y x) (rs.take i) then ς (.next ((i+1:Nat):Int)) else ς (.done η):=by
  intro i x hx
  have hi:=(abb.1 hx).1
  have hlt:(rs.take i).length=i:=by simp;omega
  refine my (rs.take i) (λ_ y=>!CK y x) (cj.done η) _ oaa (λk y hy hk=>?_) (by simp[qN,hlt,WRs (k:=i)])
  obtain⟨hy',hki⟩:=Pa hy
  simp only[qN,cy hki,bB,hx,hy',WRs (k:=k),<-V9,au]
  cases CK y x<;>rfl
 have hL:iter (qL rs) FU 0=bif iI (H2 rs) rs then ς (leB (rs.length:Int) 4) else ς false:=by
  refine my rs (H2 rs) η _ oaa (λk x hx hk=>?_) (by simp[qL])
  simp only[qL,cy hk,bB,hx,Z2,h2 k x hx,H2,au]
  cases vN x<;>cases iI (λ_ y=>!CK y x) (rs.take k)<;>rfl
 simp only[wO,hL,wZ]
 grind
def sK(c:Nat)(rs:List a8)(j:Nat):aA:=⟨⟨(rs.getD j default).ID,(rs.getD j default).eV,(rs.getD j default).cH⟩,0,afX (j:Int) (c:Int),0,0,0,η,0,⟨1,[],[]⟩⟩
def nE(p:bR)(rs:List a8)(j:Nat):ag:=⟨rs.getD j default,p,0,⟨0,0,0,0,0⟩,0,0,0,0,0,0,⟨0,0,0⟩,[],⟨1,[]⟩,0,⟨(j:Int),0,0⟩⟩
def C0(b:Int):Int:=bif inR b 0 100000 then b else 0
def Cb(b:Int):av:=⟨C0 b,C0 b,0,[]⟩
def iz(m:be)(rs:List a8)(p:bR)(b:Int)(n:Nat):ab:=
 ⟨m,(abm n).map (sK m.bp.length rs),(abm n).map (nE p rs),(abm n).map (λ_=>Cb b),[],0,⟨2,3⟩,0,0⟩
def zeroN:ab:=⟨⟨[]⟩,[],[],[],[],0,⟨0,0⟩,0,0⟩
theorem acc_s(b:Int):wu b=ς (Cb b):=by
 simp only[wu,fQ,afY,Cb,C0];cases inR b 0 100000<;>rfl
theorem ses_s(h:eX p)(x:a8)(k:Int):wx x p k=ς (⟨x,p,0,⟨0,0,0,0,0⟩,0,0,0,0,0,0,⟨0,0,0⟩,[],⟨1,[]⟩,0,⟨k,0,0⟩⟩:ag):=by
 have h1:=h.1
 simp only[wx,yb,afl,gJ (b:=8) (n:=p.bU.length) oaa oaa,au];rfl
theorem acu(c:mw)(k:Int):CI c k=ς (⟨c,0,k,0,0,0,η,0,⟨1,[],[]⟩⟩:aA):=by rfl
theorem VJ(f:Nat->α)(k:Nat):(abm (k+1)).map f=(abm k).map f++[f k]:=by rw[List.range_succ,afq];rfl
theorem SD[Inhabited α]{xs:List α}(h:xs[k]?=ς x):xs.getD k default=x:=by simp_all
def mkN(m:be)(rs:List a8)(p:bR)(b:Int)(k:Nat):Int×List av×List ag×List aA:=((k:Int),(iz m rs p b k).aT,(iz m rs p b k).an,(iz m rs p b k).aj)
theorem new_s{m:be}(hm:gP m){rs:List a8}(hl:rs.length<=1000)(hp:eX p)(b:Int):
 wv m rs p b=ς (bif qU m&&(qR p&&wZ rs) then iz m rs p b rs.length else zeroN):=by
 simp only[wv,map_s hm,aaO hp,QV hl,afY]
 cases hv:qU m with
 |false=>rfl
 |true=>
  cases qR p with
  |false=>rfl
  |true=>
   cases wZ rs with
   |false=>rfl
   |true=>
    have hc:1<=m.bp.length:=by
     simp only[qU,v0] at hv
     have:=bE.1 hv.1;omega
    have hz:eqB (m.bp.length:Int) 0=false:=eqB_f.2 oaa
    have:=Gv (L:=qx m rs p b) (mkN m rs p b) rs (λ_ _=>ζ) ((iz m rs p b rs.length).aT,(iz m rs p b rs.length).an,(iz m rs p b rs.length).aj) (ς ((iz m rs p b rs.length).aT,(iz m rs p b rs.length).an,(iz m rs p b rs.length).aj)) oaa (λk x hx hk=>by
     simp only[mkN,iz,qx,cy hk,bB,hx,hz,acu,ey,ses_s hp,acc_s,WRs (k:=k),VJ,
      gJ (b:=144) (n:=((abm k).map (sK m.bp.length rs)++[(⟨⟨x.ID,x.eV,x.cH⟩,0,afX (k:Int) (m.bp.length:Int),0,0,0,η,0,⟨1,[],[]⟩⟩:aA)]).length) (by simp;omega) (by simp;omega),
      gJ (b:=288) (n:=((abm k).map (nE p rs)++[(⟨x,p,0,⟨0,0,0,0,0⟩,0,0,0,0,0,0,⟨0,0,0⟩,[],⟨1,[]⟩,0,⟨(k:Int),0,0⟩⟩:ag)]).length) (by simp;omega) (by simp;omega),
      gJ (b:=48) (n:=((abm k).map (λ_=>Cb b)++[(⟨(Cb b).iA,(Cb b).bL,(Cb b).d9,[]⟩:av)]).length) (by simp;omega) (by simp;omega),sK,nE,SD hx,au]
     rfl) (by simp[mkN,qx])
    rw[Eh] at this
    simp only[agP,OZ hm,au]
    rw[show((0:Int),([]:List av),([]:List ag),([]:List aA))=mkN m rs p b 0 from rfl,this]
    rfl
section
variable{m:be}{rs:List a8}{p:bR}{b:Int}
theorem w0:WR 0=0:=bN oaa
theorem w1:WR 1=1:=bN oaa
theorem okN(hm:gP m)(hp:eX p)(hl:rs.length<=1000):js (iz m rs p b rs.length):=by
 refine⟨hm,⟨by simp[iz];omega,λx hx=>?_⟩,⟨by simp[iz];omega,λx hx=>?_⟩,⟨by simp[iz];omega,λx hx=>?_⟩,⟨by simp[iz],λx hx=>by simp[iz] at hx⟩⟩
 .obtain⟨k,_,rfl⟩:=afk.1 hx
  exact⟨⟨by simp[sK],by simp[sK]⟩,⟨by simp[sK],by simp[sK]⟩⟩
 .obtain⟨k,_,rfl⟩:=afk.1 hx
  exact⟨hp,⟨by simp[nE],by simp[nE]⟩,⟨by simp[nE],by simp[nE]⟩⟩
 obtain⟨k,_,rfl⟩:=afk.1 hx
 exact⟨by simp[Cb],λ_ _=>trivial⟩
theorem Kn(f:Nat->α){n:Nat}(hk:k<n):((abm n).map f)[k]?=ς (f k):=by simp[hk]
theorem sV{f:Nat->α}{n:Nat}(h:((abm n).map f)[k]?=ς x):k<n/\x=f k:=by
 grind
theorem bal_in(b:Int):0<=C0 b/\C0 b<=100000:=by
 unfold C0
 cases h:inR b 0 100000 with
 |false=>simp
 |true=>simpa using bE.1 h
theorem Zh(a:Int):DN a a=ς a:=by simp[DN,ltB]
variable(H:qU m=ζ/\qR p=ζ/\wZ rs=ζ)
include H
theorem GK:1<=m.bp.length/\m.bp.length<=6:=by
 obtain⟨hv,hs,hr⟩:=id H
 simp only[qU,v0] at hv
 have:=bE.1 hv.1;omega
theorem TP(hk:k<rs.length):vN (rs.getD k default)=true:=by
 obtain⟨hv,hs,hr⟩:=id H
 simp only[wZ,v0] at hr
 have:=eN.1 hr.1 k _ (aa9 hk)
 simp only[H2,v0] at this
 simp_all
theorem Z3:rs.length<=4:=by
 obtain⟨hv,hs,hr⟩:=id H
 simp only[wZ,v0] at hr
 have:=vK hr.2;omega
theorem dev_in(hk:k<rs.length):nJ (sK m.bp.length rs k)=true:=by
 obtain⟨hv,hs,hr⟩:=id H
 have h1:=TP H hk
 obtain⟨c1,c2⟩:=GK H
 have h2:=Gh (v:=(k:Int)) (n:=(m.bp.length:Int)) oaa oaa
 simp only[vN,v0] at h1
 simp only[nJ,sK,ye,h1.1,h1.2.1,h1.2.2,bE.2 (show(0:Int)<=afX (k:Int) (m.bp.length:Int)/\afX (k:Int) (m.bp.length:Int)<=5 from⟨h2.1,by omega⟩),af6,afD]
 simp[inR,leB,o7,qQ,D7,iI,eqB,w1]
theorem ses_in(hk:k<rs.length):kK (nE p rs k)=true:=by
 obtain⟨hv,hs,hr⟩:=id H
 have h1:=TP H hk
 have hq:mZ (⟨(k:Int),0,0⟩:cW)=true:=by simp[mZ,leB]
 simp only[kK,nE,h1,hs,hq,af6]
 have hp:wk (nE p rs k)=true:=by
  simp[wk,nE,OD,hq,Ax,w0,leB]
 simp only[nE] at hp
 rw[hp]
 simp[inR,leB,ltB,o7,lv,lx,Hw,D7,iI,eqB,w1]
theorem Xo:mY (Cb b)=true:=by
 obtain⟨hv,hs,hr⟩:=id H
 obtain⟨b1,b2⟩:=bal_in b
 simp only[mY,Cb,Wq,Wr,List.foldl_nil,Int.add_zero,bN (show-9223372036854775808<=C0 b/\C0 b<=9223372036854775807 by omega),bE.2 (show(0:Int)<=C0 b/\C0 b<=100000 from⟨b1,b2⟩),bE.2 (show(0:Int)<=C0 b/\C0 b<=C0 b from⟨b1,by omega⟩),bE.2 (show(0:Int)<=0/\(0:Int)<=C0 b from⟨by omega,b1⟩),bj,af6,afD]
 simp[leB,iI]
theorem mem_in(hk:k<rs.length):Dv (iz m rs p b rs.length) k (sK m.bp.length rs k)=true:=by
 obtain⟨hv,hs,hr⟩:=id H
 obtain⟨c1,c2⟩:=GK H
 have h2:=Gh (v:=(k:Int)) (n:=(m.bp.length:Int)) oaa oaa
 have hq:mZ (⟨(k:Int),0,0⟩:cW)=true:=by simp[mZ,leB]
 have e1:(iz m rs p b rs.length).an[k]?=ς (nE p rs k):=Kn _ hk
 have e2:(iz m rs p b rs.length).aT[k]?=ς (Cb b):=Kn _ hk
 have i1:Hs (sK m.bp.length rs k) (nE p rs k)=true:=by simp[Hs,sK,nE]
 have i2:er (iz m rs p b rs.length).cp (sK m.bp.length rs k).aS=true:=bE.2 (show(0:Int)<=afX (k:Int) (m.bp.length:Int)/\afX (k:Int) (m.bp.length:Int)<=(m.bp.length:Int)-1 from⟨h2.1,by omega⟩)
 have i3:er (iz m rs p b rs.length).cp (nE p rs k).aS=true:=bE.2 (show(0:Int)<=0/\(0:Int)<=(m.bp.length:Int)-1 from⟨by omega,by omega⟩)
 have i4:zo (Cb b) (nE p rs k).bG=true:=by
  have ha:=Xo (b:=b) H
  simp only[Cb] at ha
  simp[zo,ha,nE,hq,jE,Cb,eqB]
 have i5:eqB (nE p rs k).bG.aO (k:Int)=true:=by simp[nE]
 simp only[Dv,e1,e2,dev_in H hk,ses_in H hk,Xo (b:=b) H,i1,i2,i3,i4,i5,afD]
theorem net_in:oG (iz m rs p b rs.length)=true:=by
 obtain⟨hv,hs,hr⟩:=id H
 obtain⟨c1,c2⟩:=GK H
 have hl:=Z3 H
 have he:Co (iz m rs p b rs.length)=true:=by
  have:∀c:Nat,1<=c->c<=6->inR 0 0 (WR ((nO .i64 1 (c:Int))-1))=true:=by
   intro c h1 h2
   rcases(show c=1\/c=2\/c=3\/c=4\/c=5\/c=6 by omega) with rfl|rfl|rfl|rfl|rfl|rfl<;>kernel_rfl
  simp only[Co,iz,this _ c1 c2,af6];simp[inR,leB]
 have hp:kT (iz m rs p b rs.length).fg=true:=by show kT ⟨2,3⟩=ζ;kernel_rfl
 have ha:iI (Dv (iz m rs p b rs.length)) (iz m rs p b rs.length).aj=true:=eN.2 λk d hd=>by
  obtain⟨hk,rfl⟩:=sV hd
  exact mem_in H hk
 have hd:(iz m rs p b rs.length).aj.length=rs.length:=by simp[iz]
 have hse:(iz m rs p b rs.length).an.length=rs.length:=by simp[iz]
 have hac:(iz m rs p b rs.length).aT.length=rs.length:=by simp[iz]
 simp only[oG,show qU (iz m rs p b rs.length).cp=ζ from hv,hp,ha,he,hd,hse,hac,bj,leB_t.2 (show(rs.length:Int)<=4 by omega),af6,afD]
 simp[iz,leB,eqB]
end
theorem Ek:∀(l:List Int) (r:ByteArray),(l.foldl (λr n=>r.push (UInt8.ofNat n.toNat)) r).data.toList=r.data.toList++l.map λn=>UInt8.ofNat n.toNat
 |[],r=>by simp
 |x::l,r=>by
  rw[List.foldl_cons,Ek l,ael]
  simp_all
theorem XH{a b:List Int}(ha:okB a)(hb:okB b)(h:zH a=zH b):a=b:=by
 have h1:=Ek a ByteArray.empty
 have h2:=Ek b ByteArray.empty
 have e:(a.foldl (λr n=>r.push (UInt8.ofNat n.toNat)) ByteArray.empty).data.toList=(b.foldl (λr n=>r.push (UInt8.ofNat n.toNat)) ByteArray.empty).data.toList:=by
  have:zH a=zH b:=h
  unfold zH at this;rw[this]
 rw[h1,h2] at e
 replace e:=List.append_cancel_left e
 clear h h1 h2
 induction a generalizing b with
 |nil=>simp_all
 |cons x a ih=>cases b with
  |nil=>simp at e
  |cons y b=>
   simp only[ael,List.cons.injEq] at e
   have hx:=ha x (by simp)
   have hy:=hb y (by simp)
   have e1:=congrArg UInt8.toNat e.1
   simp only[xJ] at hx hy
   rw[UInt8.toNat_ofNat',UInt8.toNat_ofNat'] at e1
   rw[ih (λz hz=>ha z (by simp[hz])) (λz hz=>hb z (by simp[hz])) e.2,show x=y by omega]
theorem Ua{a:List Int}(ha:okB a)(hb:okB b):strB (zH a) (zH b)=decide (a=b):=by
 rw[af0,strB_t,decide_eq_true_eq]
 exact⟨XH ha hb,λh=>by rw[h]⟩
theorem ado{x y:aF}(hx:okB x.bO.bh)(hy:okB y.bO.bh):wq x y=ς (decide (x=y)):=by
 have key:(bif eqB x.ae y.ae then bif eqB x.aK y.aK then bif eqB x.bO.di y.bO.di then bif eqB x.bO.gR y.bO.gR then bif eqB x.bO.kr y.bO.kr then decide (x.bO.bh=y.bO.bh) else η else η else η else η else η)=decide (x=y):=by
  rw[af0]
  obtain⟨g,e,⟨a,b,c,d⟩⟩:=x
  obtain⟨g',e',⟨a',b',c',d'⟩⟩:=y
  simp only[eqB,cond_eq_ite]
  simp only[decide_eq_true_eq,aF.mk.injEq,bF.mk.injEq]
  constructor
  .simp_all
  simp_all
 rw[<-key]
 simp only[wq,xk,sW,Ua hx hy]
 grind
def sigB(a b:aG):Bool:=(eqB a.bb b.bb&&(eqB a.aS b.aS&&(eqB a.ae b.ae&&(eqB a.aK b.aK&&(eqB a.bP b.bP&&(eqB a.bZ.eJ b.bZ.eJ&&(eqB a.bZ.gD b.bZ.gD&&(eqB a.bZ.kr b.bZ.kr&&(eqB a.bZ.vB b.bZ.vB&&(eqB a.bZ.eV b.bZ.eV&&(eqB a.kr b.kr&&ζ)))))))))))
theorem adQ(a b:aG):sigB a b=decide (a=b):=by
 rw[af0]
 obtain⟨a1,a2,a3,a4,a5,⟨v1,v2,v3,v4,v5⟩,a6⟩:=a
 obtain⟨b1,b2,b3,b4,b5,⟨w1,w2,w3,w4,w5⟩,b6⟩:=b
 simp only[sigB,v0,eqB_t,decide_eq_true_eq,aG.mk.injEq,ct.mk.injEq]
 grind
theorem same_s{x y:bg}(hx:okB x.bV.bO.bh)(hy:okB y.bV.bO.bh):qO x y=ς (decide (x=y)):=by
 have key:(eqB x.aY y.aY&&(booB x.dF y.dF&&(booB x.cg y.cg&&(eqB x.aS y.aS&&(sigB x.aP y.aP&&decide (x.bV=y.bV))))))=decide (x=y):=by
  rw[af0]
  obtain⟨a1,a2,a3,a4,a5,a6⟩:=x
  obtain⟨b1,b2,b3,b4,b5,b6⟩:=y
  simp only[adQ,v0,eqB_t,booB_t,decide_eq_true_eq,bg.mk.injEq]
 rw[<-key]
 simp only[qO,ado hx hy,afY]
 rw[show(eqB x.aP.bb y.aP.bb&&(eqB x.aP.aS y.aP.aS&&(eqB x.aP.ae y.aP.ae&&(eqB x.aP.aK y.aP.aK&&(eqB x.aP.bP y.aP.bP&&(eqB x.aP.bZ.eJ y.aP.bZ.eJ&&(eqB x.aP.bZ.gD y.aP.bZ.gD&&(eqB x.aP.bZ.kr y.aP.bZ.kr&&(eqB x.aP.bZ.vB y.aP.bZ.vB&&(eqB x.aP.bZ.eV y.aP.bZ.eV&&(eqB x.aP.kr y.aP.kr&&ζ)))))))))))=sigB x.aP y.aP from rfl]
 grind
def hUp(s:ag)(m:aG):Bool:=
 bif eqB m.bb 3 then leB m.ae s.bD.cH&&(!eqB m.ae s.bA||!eqB m.bP s.aV.vB) else
 bif eqB m.bb 5||eqB m.bb 8 then ltB m.ae s.ae||(eqB m.ae s.ae&&!mr s.aZ m) else ζ
def Dg(d:aA)(m:aG):Bool:=
 bif eqB m.bb 2 then eqB (kL d.dq.eV d.dq.dh m.bZ) 1||eqB (kL d.dq.eV d.dq.dh m.bZ) 2 else
 bif eqB m.bb 4||eqB m.bb 6 then ltB m.ae d.ae||(eqB m.ae d.ae&&!mr d.aZ m) else ζ
def Ly(d:aA)(x:aF):Bool:=ltB x.ae d.ae||(eqB x.ae d.ae&&!zp d.aZ x)
def UT(n:ab)(f:bg):Bool:=match n.aj[f.aY.toNat]?,n.an[f.aY.toNat]? with
 |some d,ς s=>bif f.cg then f.dF||Ly d f.bV else bif f.dF then hUp s f.aP else Dg d f.aP
 |_,_=>ζ
def qY(n:ab)(e:cU):Bool:=!eqB e.bb 13||(!zE n e.b8||(n.aH.any (λf=>decide (f=e.b8))||UT n e.b8))
theorem hUp_s(s:ag)(m:aG):qP s m=ς (hUp s m):=by
 simp only[qP,MJ,afY,hUp]
 grind
theorem acG{d:aA}(m:aG):nH d m=ς (Dg d m):=by
 simp only[nH,MJ,Uj,afY,Dg]
 grind
theorem poss_s(h:NP B n)(f:bg):lu n f=ς (zE n f):=by
 have hm6:=fX h.map
 have hl:=h.ld
 simp only[lu,zE,fQ,bN (n:=(n.cp.bp.length:Int)-1) oaa,bN (n:=(n.aj.length:Int)-1) oaa,afY]
 rw[show inR f.aS 0 ((n.cp.bp.length:Int)-1)=er n.cp f.aS from rfl]
 grind
theorem SF(h:NP B n)(he:EP e):sX n e=ς (qY n e):=by
 have hfl:=h.fl
 simp only[sX,VA h.okN,h.vn,poss_s h,afY,qY]
 cases eqB e.bb 13
 .rfl
 cases hp:zE n e.b8
 .rfl
 simp only[aen,au]
 simp only[zE,v0,bE] at hp
 obtain⟨d,s,a,e1,e2,e3,hm⟩:=h.at_ (show e.b8.aY.toNat<n.aj.length by omega)
 have hdev:=Qa e.b8.aY hp.2.1.1
 have i1:ix n.aj e.b8.aY=ς d:=by rw[hdev,bB];exact e1
 have i2:ix n.an e.b8.aY=ς s:=by rw[hdev,bB];exact e2
 have:=my (L:=qo n e) n.aH (λ_ f=>!decide (f=e.b8)) ζ (ς (UT n e.b8)) oaa (λk x hx hk=>by
  have hx':=h.fs x (abl hx)
  simp only[qo,cy hk,bB,hx,same_s hx'.b he.r,WRs (k:=k),dn,au]
  grind) (by
  simp only[qo,bK,i1,i2,hUp_s,acG,zF he.r,UT,e1,e2,Ly,au]
  grind)
 rw[this,uF]
 grind
theorem wPlanV{c:bu}(h:dM c):Wp (DX c) (λr=>dM r.2/\r.1.bU.length<=4/\qR r.1=ζ):=by
 unfold DX
 refine Wp.call (eA h oaa) λr1 h1=>Wp.call (eA h1.1 oaa) λr2 h2=>Wp.call (eA h2.1 oaa) λr3 h3=>?_
 refine Wp.call (P:=λx=>dM x.2/\x.1.length<=4/\(∀a∈x.1,0<=a/\a<=3)/\x.1.Pairwise λa b=>a<b) ?_ ?_
 .refine Wp.iterF (λx=>(0<=x.1/\x.1<=4)/\dM x.2.2/\(x.2.1.length:Int)<=x.1/\(∀a∈x.2.1,0<=a/\a<x.1)/\x.2.1.Pairwise λa b=>a<b) (λx=>(4-x.1).toNat) ⟨⟨by omega,by omega⟩,h3.1,by simp,by simp,by simp⟩ (by simp) ?_
  rintro⟨v4,v8,v9⟩ ⟨⟨i0,i1⟩,i2,i3,i4,i5⟩
  simp only at i0 i1 i2 i3 i4 i5
  simp only[Fz]
  refine Wp.cond (λhb=>?_) (λhb=>Wp.some ⟨i2,by grind,λa ha=>by grind,i5⟩)
  have hb:=kO hb
  refine Wp.call (A2 i2 oaa) λr15 h15=>?_
  refine Wp.call (P:=λx=>(x.length:Int)<=v4+1/\(∀a∈x,0<=a/\a<v4+1)/\x.Pairwise λa b=>a<b) ?_ λx hx=>Wp.some ⟨⟨⟨?_,?_⟩,h15,?_,?_,hx.2.2⟩,?_⟩
  .refine Wp.cond (λ_=>Wp.ok (gJ (by simp;omega) (by simp;omega)) (Wp.some ⟨by simp;omega,λa ha=>?_,?_⟩)) (λ_=>Wp.some ⟨by omega,λa ha=>by grind,i5⟩)
   .grind
   grind
  all_goals simp only[bN (show-9223372036854775808<=v4+1/\v4+1<=9223372036854775807 by omega)]
  .omega
  .omega
  .exact hx.1
  .exact hx.2.1
  omega
 rintro⟨x,c2⟩ ⟨k1,k2,k3,k4⟩
 simp only at k1 k2 k3 k4
 refine Wp.some ⟨k1,k2,?_⟩
 simp only[qR,EG,v0,bE,eN]
 rw[bN (show-9223372036854775808<=1+r1.1/\1+r1.1<=9223372036854775807 by omega),bN (show-9223372036854775808<=1+r2.1/\1+r2.1<=9223372036854775807 by omega),bN (show-9223372036854775808<=1+r3.1/\1+r3.1<=9223372036854775807 by omega)]
 refine⟨⟨by omega,by omega,by omega⟩,λk a ha=>⟨k3 a (abl ha),F8 (key:=id) (by simp_all) ha⟩⟩
theorem abc{c:bu}(h:dM c):Wp (oQ c) (λr=>dM r.2/\(1<=r.1.length/\r.1.length<=3)/\wZ r.1=ζ/\∀y∈r.1,y.cH<=20):=by
 unfold oQ
 refine Wp.call (eA h oaa) λr1 h1=>?_
 have hw:WR (1+r1.1)=1+r1.1:=bN oaa
 refine Wp.call (P:=λx=>dM x.2/\(x.1.length:Int)=1+r1.1/\∀(k:Nat) y,x.1[k]?=ς y->vN y=ζ/\y.ID.bP=1+r1.1-k/\y.cH<=20) ?_ ?_
 .refine Wp.iterF (λx=>0<=x.1/\dM x.2.2/\(x.2.1.length:Int)+x.1=1+r1.1/\∀(k:Nat) y,x.2.1[k]?=ς y->vN y=ζ/\y.ID.bP=1+r1.1-k/\y.cH<=20) (λx=>x.1.toNat) ⟨by omega,h1.1,by rw[hw];simp,by simp⟩ oaa ?_
  rintro⟨v2,v6,v7⟩ ⟨i0,i2,i3,i4⟩
  simp only at i0 i2 i3 i4
  simp only[vw]
  refine Wp.cond (λhb=>?_) (λhb=>Wp.some ⟨i2,by have:=ou hb;grind,i4⟩)
  have hb:=kO hb
  have hkey:Wp (CQ v7) (λr=>dM r.2/\o7 r.1=ζ):=by
   unfold CQ
   exact Wp.call (eA i2 oaa) λr1 h1=>Wp.some ⟨h1.1,bE.2 (by rw[bN oaa];omega)⟩
  refine Wp.call hkey λr13 h13=>Wp.call (eA h13.1 oaa) λr14 h14=>Wp.ok (gJ (by simp;omega) (by simp;omega)) (Wp.some ⟨⟨?_,h14.1,?_,λk y hy=>?_⟩,?_⟩)
  rotate_left 2
  .rw[List.getElem?_append] at hy
   split at hy
   .grind
   rename_i hk
   have hk0:k-v6.length=0:=by
    have:=(abb.1 hy).1
    simp at this;omega
   rw[hk0] at hy
   simp at hy;subst hy
   simp only[vN,RI,v0,bE]
   grind
  all_goals simp only[bN (show-9223372036854775808<=v2-1/\v2-1<=9223372036854775807 by omega)]
  .omega
  .omega
  grind
 rintro⟨x,c2⟩ ⟨k1,k2,k3⟩
 simp only at k1 k2 k3
 refine Wp.some ⟨k1,by grind,?_,λy hy=>by obtain⟨k,hk⟩:=aej hy;grind⟩
 simp only[wZ,v0,eN,H2]
 refine⟨λk y hy=>⟨(k3 k y hy).1,λi z hz=>?_⟩,leB_t.2 oaa⟩
 obtain⟨hz1,hz2⟩:=Pa hz
 have e1:=(k3 k y hy).2.1
 have e2:=(k3 i z hz1).2.1
 have:eqB z.ID.bP y.ID.bP=false:=eqB_f.2 oaa
 simp[CK,this]
inductive Reach:Nat->ab->Prop
 |new {m:be} {rs:List a8} {p:bR} {b:Int} (h:qU m=ζ/\qR p=ζ/\wZ rs=ζ) (hm:gP m) (hp:eX p) (hl:1<=rs.length/\rs.length<=3) (hq:∀y∈rs,y.cH<=20):Reach 0 (iz m rs p b rs.length)
 |step {k:Nat} {n:ab} {e:cU}:Reach k n->EP e->qY n e=ζ->Reach (k+1) (gO n e).2
def FS(n:ab)(e:cU):Prop:=e.bb=13->e.b8.cg=ζ->e.b8.dF=η/\∃d,n.aj[e.b8.aY.toNat]?=ς d/\e.b8.bV.ae=d.ae/\zp d.aZ e.b8.bV=η
theorem Hb(n:ab)(h:e.bb≠13):FS n e:=λh1=>absurd h1 h
inductive Gp:Nat->ab->Prop
 |new {m:be} {rs:List a8} {p:bR} {b:Int} (h:qU m=ζ/\qR p=ζ/\wZ rs=ζ) (hm:gP m) (hp:eX p) (hl:1<=rs.length/\rs.length<=3) (hq:∀y∈rs,y.cH<=20):Gp 0 (iz m rs p b rs.length)
 |step {k:Nat} {n:ab} {e:cU}:Gp k n->EP e->qY n e=ζ->FS n e->Gp (k+1) (gO n e).2
theorem Gp.re:∀{k:Nat} {n:ab},Gp k n->Reach k n
 |_,_,.new h hm hp hl hq=>.new h hm hp hl hq
 |_,_,.step h he hh _=>.step h.re he hh
theorem Reach.np:∀{k:Nat} {n:ab},Reach k n->k<=1000000->NP (10000*(k:Int)) n
 |_,_,.new (m:=m) (rs:=rs) (p:=p) (b:=b) h hm hp hl _,_=>by
  have ok:js (iz m rs p b rs.length):=okN hm hp oaa
  have v:=net_in (b:=b) h
  have by':BY (iz m rs p b rs.length):=by
   refine⟨λd hd=>?_,λd hd=>?_,λs hs=>?_,λs hs=>?_,by simp[iz]⟩
   .simp only[iz,afk] at hd;obtain⟨j,_,rfl⟩:=hd;simp[sK]
   .simp only[iz,afk] at hd;obtain⟨j,_,rfl⟩:=hd;simp[sK]
   .simp only[iz,afk] at hs;obtain⟨j,_,rfl⟩:=hs;simp[nE]
   simp only[iz,afk] at hs;obtain⟨j,_,rfl⟩:=hs;simp[nE]
  exact(NP.of ok v by').mono (by show(0:Int)<=_;omega)
 |_,_,.step (k:=k) h he _,hk=>by
  have:=(Gx (h.np oaa) he oaa).2.2
  grind
theorem z7{k i c:Int}(hb:okB b):EP ⟨k,i,c,b,fT⟩:=⟨hb,MQ,λx hx=>by simp[fT,gm,nL] at hx⟩
theorem o9(n:ab)(h:e.bb≠13):qY n e=true:=by
 rw[qY,eqB_f.2 h];rfl
theorem adg(h:NP B n)(hs:n.an[i]?=ς s)(b:List Int):(gO n ⟨8,i,0,b,fT⟩).2={n with an:=n.an.set i (s7 s b).1}:=by
 have hi:=(abb.1 hs).1
 have hls:=h.ls
 obtain⟨d,s',a,e1,e2,e3,hm⟩:=h.at_ (show i<n.aj.length by omega)
 have hr:inR (i:Int) 0 ((n.aj.length:Int)-1)=true:=bE.2 oaa
 simp only[gO]
 rw[if_neg (show ¬(8:Int)=1 by omega),if_neg (show ¬((8:Int)=2\/(8:Int)=3\/(8:Int)=4) by omega),if_pos (show(8:Int)=5\/(8:Int)=6\/(8:Int)=7\/True by simp)]
 simp only[BS,hr,afZ,e1,hs,Ox,Oy,Oz,au]
 cases hb:(s7 s b).2
 .have hs':(s7 s b).1=s:=by
   revert hb;rw[s7];cases leB 24 (s.aC.length:Int)||ltB 60 (b.length:Int)
   .simp_all
   intro _;rfl
  simp only[cond_false,hs',fR hs]
 rfl
theorem own_on(h:NP B n){d:aA}(hd:n.aj[i]?=ς d):(gO n ⟨5,i,0,[],fT⟩).2=dY n i (dOn d):=by
 have hi:=(abb.1 hd).1
 obtain⟨d',s,a,e1,e2,e3,hm⟩:=h.at_ hi
 have hr:inR (i:Int) 0 ((n.aj.length:Int)-1)=true:=bE.2 oaa
 simp only[gO]
 rw[if_neg (show ¬(5:Int)=1 by omega),if_neg (show ¬((5:Int)=2\/(5:Int)=3\/(5:Int)=4) by omega),if_pos (show True\/(5:Int)=6\/(5:Int)=7\/(5:Int)=8 by simp)]
 simp only[BS,hr,afZ,hd,e2,bj,au]
 cases hb:eqB d.aX 0
 .simp only[dY,dOn,hb,fR hd,aeF,au];rfl
 rfl
def RN(B:Nat)(l:Nat)(n:ab):Prop:=∃k,Gp k n/\k<=B/\n.aj.length=l
theorem RN.np{B:Nat}(h:RN B l n)(hB:B<=1000000):∃b:Int,NP b n/\b<=10000000000:=by
 obtain⟨k,h1,h2,_⟩:=h
 exact⟨_,h1.re.np oaa,by omega⟩
theorem RN.sub{B:Nat}(h:RN B l n)(hB:B<=1000000)(hs:n.an[i]?=ς s)(hb:okB b):RN (B+1) l {n with an:=n.an.set i (s7 s b).1}:=by
 obtain⟨b',hn,_⟩:=h.np hB
 obtain⟨k,h1,h2,h3⟩:=h
 have:=Gp.step h1 (z7 (k:=8) (i:=(i:Int)) (c:=0) hb) (o9 n (by simp)) (Hb n (by simp))
 rw[adg hn hs b] at this
 exact⟨_,this,by omega,h3⟩
theorem RN.on{B:Nat}(h:RN B l n)(hB:B<=1000000){d:aA}(hd:n.aj[i]?=ς d):RN (B+1) l (dY n i (dOn d)):=by
 obtain⟨b',hn,_⟩:=h.np hB
 obtain⟨k,h1,h2,h3⟩:=h
 have:=Gp.step h1 (z7 (k:=5) (i:=(i:Int)) (c:=0) (b:=[]) (λx hx=>by simp at hx)) (o9 n (by simp)) (Hb n (by simp))
 rw[own_on hn hd] at this
 exact⟨_,this,by omega,by rw[(jt n i (dOn d)).1];exact h3⟩
def RZ(B:Nat)(l:Nat)(n:ab):Prop:=∃k,Gp k n/\k<=B/\n.aj.length=l/\n.bH=0
theorem RZ.rn{B:Nat}(h:RZ B l n):RN B l n:=by
 obtain⟨k,h1,h2,h3,_⟩:=h;exact⟨k,h1,h2,h3⟩
theorem RZ.np{B:Nat}(h:RZ B l n)(hB:B<=1000000):∃b:Int,NP b n/\b<=10000000000:=h.rn.np hB
theorem RZ.sub{B:Nat}(h:RZ B l n)(hB:B<=1000000)(hs:n.an[i]?=ς s)(hb:okB b):RZ (B+1) l {n with an:=n.an.set i (s7 s b).1}:=by
 obtain⟨k,h1,h2,h3⟩:=h.rn.sub hB hs hb
 exact⟨k,h1,h2,h3,h.choose_spec.2.2.2⟩
theorem RZ.on{B:Nat}(h:RZ B l n)(hB:B<=1000000){d:aA}(hd:n.aj[i]?=ς d):RZ (B+1) l (dY n i (dOn d)):=by
 obtain⟨k,h1,h2,h3⟩:=h.rn.on hB hd
 exact⟨k,h1,h2,h3,(dv ((dOn d).bY.map (cM i ζ)) {n with aj:=n.aj.set i (dOn d).aY}).2.2.2.2.1.trans h.choose_spec.2.2.2⟩
theorem aed{c:bu}(h:dM c):Wp (D0 c) (λr=>dM r.2/\∃l,(1<=l/\l<=3)/\RZ 40 l r.1):=by
 unfold D0
 refine Wp.call (wPlanV h) λr1 h1=>?_
 have hp:eX r1.1:=⟨by omega,λ_ _=>trivial⟩
 refine Wp.call (P:=λx=>dM x.2.2.2.2.2.2.2.1/\∃l,(1<=l/\l<=3)/\RZ 0 l ⟨⟨x.2.2.2.2.2.2.1⟩,x.2.2.2.2.2.1,x.2.2.2.2.1,x.2.2.2.1,[],x.1,x.2.2.2.2.2.2.2.2,x.2.1,x.2.2.1⟩) ?_ ?_
 .refine Wp.call (aba h1.1) λr16 h16=>Wp.call (abc h16.1) λr17 h17=>Wp.call (eA h17.1 oaa) λr18 h18=>?_
  have hv:qU r16.1=ζ/\qR r1.1=ζ/\wZ r17.1=true:=⟨h16.2.2,h1.2.2,h17.2.2.1⟩
  have hl:=h17.2.1
  rw[new_s h16.2.1 oaa hp,hv.1,hv.2.1,hv.2.2]
  refine Wp.some ⟨h18.1,r17.1.length,hl,0,?_,acA _,by simp[iz]⟩
  exact Gp.new (b:=WR (30+r18.1)) hv h16.2.1 hp hl h17.2.2.2
 rintro⟨v5,v8,v9,v10,v11,v12,v13,v14,v15⟩ ⟨hc,l,hl,hr⟩
 simp only at hc hr
 refine Wp.call (P:=λx=>dM x.1/\RZ 40 l x.2) ?_ λx hx=>Wp.some ⟨hx.1,l,hl,hx.2⟩
 refine Wp.iterF (λx=>(0<=x.1/\x.1<=(l:Int))/\dM x.2.1/\RZ (7*x.1.toNat) l x.2.2) (λx=>((l:Int)-x.1).toNat) ⟨⟨by omega,by omega⟩,hc,hr⟩ oaa ?_
 rintro⟨v20,v34,n⟩ ⟨⟨i0,i1⟩,i2,i3⟩
 simp only at i0 i1 i2 i3
 obtain⟨b,hn,hb⟩:=i3.np oaa
 have hdl:n.aj.length=l:=i3.choose_spec.2.2.1
 simp only[IE]
 refine Wp.cond (λhb=>?_) (λhb=>Wp.some ⟨i2,?_⟩)
 rotate_left
 .obtain⟨k,g1,g2,g3⟩:=i3;exact⟨k,g1,by omega,g3⟩
 have hb:=kO hb
 obtain⟨q,rfl⟩:∃q:Nat,v20=q:=⟨v20.toNat,by omega⟩
 refine Wp.call (eA i2 oaa) λr117 h117=>?_
 refine Wp.call (P:=λx=>dM x.2/\RZ (7*q+6) l {n with an:=x.1}) ?_ ?_
 .refine Wp.iterF (λx=>(0<=x.1/\x.1<=6)/\dM x.2.2/\RZ (7*q+(6-x.1.toNat)) l {n with an:=x.2.1}) (λx=>x.1.toNat) ⟨⟨by omega,by omega⟩,h117.1,?_⟩ oaa ?_
  .obtain⟨k,g1,g2,g3⟩:=i3;exact⟨k,g1,by omega,g3⟩
  rintro⟨v118,v122,v123⟩ ⟨⟨j0,j1⟩,j2,j3⟩
  simp only at j0 j1 j2 j3
  simp only[IF]
  refine Wp.cond (λhc=>?_) (λhc=>Wp.some ⟨j2,?_⟩)
  rotate_left
  .obtain⟨k,g1,g2,g3⟩:=j3;exact⟨k,g1,by omega,g3⟩
  have hc:=kO hc
  obtain⟨b',hn',_⟩:=j3.np oaa
  have hls:=hn'.ls
  simp only at hls
  obtain⟨s,hs⟩:∃s,v122[q]?=ς s:=⟨_,aa9 oaa⟩
  obtain⟨d',s',a',e1,e2,e3,hm⟩:=hn'.at_ (i:=q) (by simp_all)
  simp only at e1 e2 e3
  rw[hs] at e2;cases e2
  simp only[bB,hs,afY]
  refine Wp.call (eA j2 oaa) λr135 h135=>Wp.call (abd h135.1 h135.2.1 oaa) λr136 h136=>?_
  rw[sub_s hm.sg.sp.ok]
  simp only[afY,afZ]
  refine Wp.some ⟨⟨⟨?_,?_⟩,h136.1,?_⟩,?_⟩
  all_goals simp only[bN (show-9223372036854775808<=v118-1/\v118-1<=9223372036854775807 by omega)]
  .omega
  .omega
  .have:=j3.sub oaa (i:=q) hs h136.2.1
   grind
  omega
 rintro⟨v132,v133⟩ ⟨k1,k2⟩
 simp only at k1 k2
 obtain⟨b',hn',_⟩:=k2.np oaa
 obtain⟨d,hd⟩:∃d,n.aj[q]?=ς d:=⟨_,aa9 oaa⟩
 obtain⟨d',s',a',e1,e2,e3,hm⟩:=hn'.at_ (i:=q) (by simp_all)
 simp only at e1
 rw[hd] at e1;cases e1
 refine Wp.call (A2 k1 oaa) λr139 h139=>?_
 refine Wp.call (P:=λx=>RZ (7*q+7) l x) ?_ λx hx=>Wp.some ⟨⟨⟨?_,?_⟩,h139,?_⟩,?_⟩
 .refine Wp.cond (λ_=>?_) (λ_=>Wp.some ?_)
  .simp only[bB,hd,on_s hm.dp.ok,afY,afZ]
   have hlen:=(Lm d).len
   have:=eR (step:=vu (q:Int) (dOn d)) (dOn d).bY (λk n=>((k:Int),n)) (λn x=>afW (jx n (cM (q:Int) ζ x)) λr=>ς (.next r)) ς oaa
    (λk x n hx hk=>by
     simp only[vu,cy hk,bB,hx,WRs (k:=k),cM,au]
     simp_all) (λn=>by simp[vu]) {n with aj:=n.aj.set q (dOn d).aY,an:=v132}
   rw[xB jx (cM (q:Int) ζ) (λn x=>Dz (DT (q:Int) ζ x))] at this
   rw[show iter (vu (q:Int) (dOn d)) FU (0,{n with aj:=n.aj.set q (dOn d).aY,an:=v132})=_ from this]
   exact Wp.some (k2.on oaa (i:=q) hd)
  obtain⟨k,g1,g2,g3⟩:=k2;exact⟨k,g1,by omega,g3⟩
 all_goals simp only[bN (show-9223372036854775808<=(q:Int)+1/\(q:Int)+1<=9223372036854775807 by omega)]
 .omega
 .omega
 .grind
 omega
theorem w32New{c:bu}(h:dM c):Wp (D0 c) (λr=>dM r.2/\∃l,(1<=l/\l<=3)/\RN 40 l r.1):=
 Wp.mono (aed h) λr ⟨h1,l,h2,h3⟩=>⟨h1,l,h2,h3.rn⟩
abbrev C2{α:Type}(r:α×bu):Prop:=dM r.2
abbrev C1{α:Type}(r:bu×α):Prop:=dM r.1
theorem RO{c:bu}(h:dM c):Wp (BF c) C2:=by
 unfold BF
 refine Wp.call (A2 h oaa) λr1 h1=>Wp.cond (λ_=>Wp.call (wInt h1 (by simp)) λr2 h2=>Wp.some h2.1) (λ_=>?_)
 refine Wp.call (A2 h1 oaa) λr3 h3=>Wp.cond (λ_=>Wp.call (wInt h3 (by simp)) λr2 h2=>Wp.some h2.1) (λ_=>?_)
 exact Wp.call (eA h3 oaa) λr5 h5=>Wp.call (eA h5.1 oaa) λr6 h6=>Wp.some h6.1
theorem w5Seq{c:bu}(h:dM c):Wp (My c) C2:=by
 unfold My
 refine Wp.call (A2 h oaa) λr1 h1=>Wp.cond (λ_=>Wp.call (wInt h1 (by simp)) λr2 h2=>Wp.some h2.1) (λ_=>?_)
 exact Wp.call (eA h1 oaa) λr5 h5=>Wp.some h5.1
theorem w5Vec{c:bu}(h:dM c):Wp (BG c) C2:=by
 unfold BG
 refine Wp.call (wKey h) λr1 h1=>Wp.call (eA h1 oaa) λr2 h2=>Wp.call (w5Seq h2.1) λr3 h3=>?_
 rw[Ul]
 simp only[afY]
 refine Wp.call (eA h3 oaa) λr5 h5=>?_
 refine Wp.call (P:=C1) ?_ λx hx=>Wp.some hx
 refine Wp.cond (λ_=>Wp.call (RO h5.1) λr h=>Wp.some h) (λ_=>?_)
 refine Wp.call (P:=C1) ?_ λx hx=>Wp.some hx
 refine Wp.cond (λ_=>Wp.call (wInt h5.1 (by simp)) λr h=>Wp.some h.1) (λ_=>?_)
 refine Wp.call (P:=λ_=>True) (Wp.cond (λ_=>Wp.some trivial) (λ_=>Wp.some trivial)) λx _=>Wp.some h5.1
theorem w30{c:bu}(h:dM c)(s:ag):Wp (y9 c s) C2:=by
 unfold y9
 refine Wp.call (eA h oaa) λr1 h1=>Wp.call (eA h1.1 oaa) λr2 h2=>Wp.call (eA h2.1 oaa) λr3 h3=>Wp.call (eA h3.1 oaa) λr4 h4=>?_
 refine Wp.call (P:=C1) ?_ λx hx=>?_
 .refine Wp.cond (λ_=>Wp.some h4.1) (λ_=>?_)
  refine Wp.call (P:=C2) ?_ λx hx=>Wp.some hx
  refine Wp.cond (λ_=>?_) (λ_=>Wp.some h4.1)
  refine Wp.call (eA h4.1 oaa) λr17 h17=>Wp.call (eA h17.1 oaa) λr18 h18=>?_
  rw[Og];exact Wp.some h18.1
 obtain⟨v10,v11⟩:=x
 simp only[EV,afY]
 replace hx:dM _:=hx
 refine Wp.call (eA hx oaa) λr21 h21=>?_
 refine Wp.call (P:=C1) ?_ λx hx=>Wp.some hx
 refine Wp.cond (λ_=>Wp.call (RO h21.1) λr h=>Wp.some h) (λ_=>?_)
 refine Wp.call (P:=λ_=>True) ?_ λx _=>Wp.some h21.1
 refine Wp.cond (λ_=>Wp.some trivial) (λ_=>?_)
 exact Wp.call (P:=λ_=>True) (Wp.cond (λ_=>Wp.some trivial) (λ_=>Wp.some trivial)) λx _=>Wp.some trivial
theorem w29{c:bu}(h:dM c)(d:aA):Wp (Ge c d) C2:=by
 unfold Ge
 refine Wp.call (eA h oaa) λr1 h1=>?_
 refine Wp.call (P:=C1) ?_ λx hx=>?_
 .refine Wp.cond (λ_=>?_) (λ_=>?_)
  .rw[XJ]
   simp only[afY]
   rw[Ul]
   simp only[afY]
   refine Wp.call (A2 h1.1 oaa) λr20 h20=>?_
   refine Wp.call (P:=C1) ?_ λx hx=>Wp.some hx
   exact Wp.cond (λ_=>Wp.call (w5Vec h20) λr h=>Wp.some h) (λ_=>Wp.some h20)
  refine Wp.call (P:=C2) ?_ λx hx=>Wp.some hx
  exact Wp.cond (λ_=>Wp.call (eA h1.1 oaa) λr h=>Wp.some h.1) (λ_=>Wp.some h1.1)
 obtain⟨v16,v17⟩:=x
 simp only[EV,afY]
 replace hx:dM _:=hx
 refine Wp.call (eA hx oaa) λr39 h39=>?_
 refine Wp.call (P:=C1) ?_ λx hx=>Wp.some hx
 refine Wp.cond (λ_=>Wp.call (RO h39.1) λr h=>Wp.some h) (λ_=>?_)
 refine Wp.call (P:=C1) ?_ λx hx=>Wp.some hx
 refine Wp.cond (λ_=>Wp.call (eA h39.1 oaa) λr h=>Wp.some h.1) (λ_=>?_)
 exact Wp.call (P:=λ_=>True) (Wp.cond (λ_=>Wp.some trivial) (λ_=>Wp.some trivial)) λx _=>Wp.some h39.1
theorem rad_fr{y:aF}(h:zu y)(i c:Int)(k:Int):lU ⟨i,η,ζ,c,fH,{y with bO:={y.bO with kr:=k}}⟩/\okB y.bO.bh:=⟨⟨afo h.2 (by decide),λ_ _=>trivial⟩,h.1⟩
abbrev FR(f:bg):Prop:=lU f/\okB f.bV.bO.bh
abbrev FP2(d:aA)(i:Int)(x:bu×bg):Prop:=dM x.1/\FR x.2/\(x.2.aY=i)/\((x.2.cg=ζ/\x.2.dF=η/\Ly d x.2.bV=ζ/\x.2.bV.ae=d.ae/\zp d.aZ x.2.bV=η)\/x.2.cg=η)
theorem adq{d:aA}{y:aF}{k i cell:Int}{c:bu}(hc:dM c)(h:zu y)(hh:Ly d {y with bO:={y.bO with kr:=k}}=ζ)(hg:y.ae=d.ae)(hv:zp d.aZ {y with bO:={y.bO with kr:=k}}=η):
 Wp (ς (c,(⟨i,η,ζ,cell,fH,{y with bO:={y.bO with kr:=k}}⟩:bg))) (FP2 d i):=
 Wp.some ⟨hc,rad_fr h _ _ _,rfl,.inl ⟨rfl,rfl,hh,hg,hv⟩⟩
theorem KQ(d:aA)(x:ah):zp d.aZ {fY d.aZ d.ae d.aK x with bO:={(fY d.aZ d.ae d.aK x).bO with kr:=afX (WR ((fY d.aZ d.ae d.aK x).bO.kr+1)) 2147483647}}=false:=by
 have hin:∀k (m:bF),0<=mac k m/\mac k m<2147483647:=λk m=>lF _ _
 have key:∀a:Int,0<=a->a<2147483647->afX (WR (a+1)) 2147483647≠a:=by
  intro a h0 h1 h
  rw[bN oaa,af4 oaa] at h
  omega
 simp only[fY,Io,zp]
 rw[agQ];right
 rw[agQ];right
 refine eqB_f.2 ?_
 simp only[mac]
 exact key _ (hin _ ⟨1,x.cH,vJ (dk (OI d.aZ d.aK) (2*x.cH+1)) x.bh,0⟩).1 (hin _ ⟨1,x.cH,vJ (dk (OI d.aZ d.aK) (2*x.cH+1)) x.bh,0⟩).2
theorem UU(d:aA)(x:ah):Ly d {fY d.aZ d.ae d.aK x with bO:={(fY d.aZ d.ae d.aK x).bO with kr:=afX (WR ((fY d.aZ d.ae d.aK x).bO.kr+1)) 2147483647}}=true:=by
 rw[Ly,KQ d x]
 simp[fY,bj]
theorem wForge(h:NP B n)(hd:1<=n.aj.length){c:bu}(hc:dM c):Wp (BD c n) (λr=>dM r.2/\EP r.1/\qY n r.1=ζ/\(r.1.b8.cg=ζ->r.1.b8.dF=η/\∃d,n.aj[r.1.b8.aY.toNat]?=ς d/\r.1.b8.bV.ae=d.ae/\zp d.aZ r.1.b8.bV=η)):=by
 have hm6:=fX h.map
 have hls:=h.ls
 unfold BD
 refine Wp.call (eA hc oaa) λr1 h1=>?_
 obtain⟨i,hi⟩:∃i:Nat,r1.1=i:=⟨r1.1.toNat,by omega⟩
 obtain⟨d,s,a,e1,e2,e3,hm⟩:=h.at_ (i:=i) oaa
 simp only[hi,bB,e1,e2,afY]
 refine Wp.call (eA h1.1 oaa) λr3 h3=>Wp.call (A2 h3.1 oaa) λr4 h4=>Wp.call (eA h4 oaa) λr5 h5=>?_
 refine Wp.call (P:=FP2 d (i:Int)) ?_ ?_
 .refine Wp.cond (λ_=>?_) (λ_=>?_)
  .refine Wp.call (eA h5.1 oaa) λr30 h30=>?_
   have hs:=Rg (x:=⟨WR (1+r30.1),[9]⟩) (by show 0<=WR (1+r30.1);rw[bN oaa];omega) (by show WR (1+r30.1)<=1000000;rw[bN oaa];omega) (λx hx=>by simp at hx;subst hx;simp[xJ]) (by simp) d.aZ d.ae d.aK
   have hr:=CL d.aZ d.ae d.aK (x:=⟨WR (1+r30.1),[9]⟩) (by simp)
   have hh:=UU d ⟨WR (1+r30.1),[9]⟩
   have hv:=KQ d ⟨WR (1+r30.1),[9]⟩
   have hg:(fY d.aZ d.ae d.aK ⟨WR (1+r30.1),[9]⟩).ae=d.ae:=rfl
   generalize fY d.aZ d.ae d.aK ⟨WR (1+r30.1),[9]⟩=y at hs hr hh hv hg
   rw[hs]
   exact adq h30.1 hr hh hg hv
  refine Wp.call (P:=λx=>dM x.2.1) ?_ λx hx=>Wp.some ⟨hx,⟨MQ,λx hx=>by simp[gm,nL] at hx⟩,rfl,.inr rfl⟩
  exact Wp.cond (λ_=>Wp.call (w29 h5.1 d) λr h=>Wp.some h) (λ_=>Wp.call (w30 h5.1 s) λr h=>Wp.some h)
 rintro⟨c2,f⟩ ⟨k1,k2,k3,k4⟩
 simp only at k1 k2 k3 k4
 have he:EP {fk with bb:=13,b8:=f}:=⟨λx hx=>by simp[fk] at hx,k2.1,k2.2⟩
 rw[SF h he]
 simp only[afY]
 refine Wp.call (P:=λk=>k=bif qY n {fk with bb:=13,b8:=f} then f.aP.bb else 7) ?_ ?_
 .cases qY n {fk with bb:=13,b8:=f}<;>exact Wp.some rfl
 rintro k rfl
 refine Wp.some ⟨k1,⟨λx hx=>by simp[fk] at hx,k2.1,k2.2⟩,?_,λhr=>by
  simp_all⟩
 cases hh:qY n {fk with bb:=13,b8:=f}
 .simp only[cond_false,qY]
  rw[adP,adP,adP];right;right;right
  simp only[UT,k3,afZ,e1,e2]
  rcases k4 with⟨q1,q2,q3,_,_⟩|q1
  .simp_all
  rw[q1]
  have z:∀k:Int,k≠7->eqB 7 k=false:=λk hk=>eqB_f.2 (Ne.symm hk)
  cases f.dF<;>simp only[hUp,Dg,z _ (show(2:Int)≠7 by omega),z _ (show(3:Int)≠7 by omega),z _ (show(4:Int)≠7 by omega),z _ (show(5:Int)≠7 by omega),z _ (show(6:Int)≠7 by omega),z _ (show(8:Int)≠7 by omega),af7,au]
 simp only[cond_true]
 omega
theorem HO(n:ab)(f:bg):(eh n f).aj.length=n.aj.length:=by rw[(ie n f).1]
theorem Pg:∀(c i:Nat) (n:ab),(em c i n).aj.length=n.aj.length
 |0,_,_=>rfl
 |c+1,i,n=>by
  rw[em]
  cases n.aj[i]? with
  |none=>rfl
  |some d=>simp only;rw[Pg,(jt _ _ _).1]
theorem Pn:∀(c i:Nat) (n:ab),(fC c i n).aj.length=n.aj.length
 |0,_,_=>rfl
 |c+1,i,n=>by
  rw[fC]
  cases n.an[i]? with
  |none=>rfl
  |some s=>cases n.aT[i]? with
   |none=>rfl
   |some a=>simp only;rw[Pn,(Km _ _ _).1]
theorem P8(n:ab)(k:Nat):(dS n k).aj.length=n.aj.length:=by
 rw[dS]
 cases n.aH[k]? with
 |none=>rfl
 |some f=>
  simp only
  cases oo (ez n k) f.aS
  .rfl
  simp only[au]
  cases f.dF
  .simp only[cond_false]
   cases hd:(ez n k).aj[f.aY.toNat]? with
   |none=>rfl
   |some d=>
    simp only
    cases eqB d.aS f.aS
    .rfl
    simp only[au];rw[(jt _ _ _).1];rfl
  simp only[cond_true]
  cases f.cg||!eqB f.aP.aS f.aS
  .simp only[cond_false]
   cases hs:(ez n k).an[f.aY.toNat]? with
   |none=>rfl
   |some s=>simp only[tu];rw[(dv _ _).1];rfl
  rfl
theorem Xy(n:ab)(e:cU):(gO n e).2.aj.length=n.aj.length:=by
 rw[gO]
 split
 .rw[jp]
  cases leB 100000 n.iS
  .simp only[cond_false];rw[Pn,Pg]
  rfl
 split
 .rw[qj]
  cases inR e.cq 0 ((n.aH.length:Int)-1)
  .rfl
  simp only[au]
  cases eqB e.bb 2
  .simp only[cond_false]
   cases eqB e.bb 3
   .simp only[cond_false]
    cases leB 200 (n.aH.length:Int)
    .simp only[cond_false]
     cases n.aH[e.cq.toNat]? with
     |none=>rfl
     |some f=>exact HO n f
    rfl
   rfl
  exact P8 n _
 split
 .rw[BS]
  cases inR e.cq 0 ((n.aj.length:Int)-1)
  .rfl
  simp only[au]
  cases n.aj[e.cq.toNat]? with
  |none=>rfl
  |some d=>cases n.an[e.cq.toNat]? with
   |none=>rfl
   |some s=>
    simp only
    cases eqB e.bb 5
    .simp only[cond_false]
     cases eqB e.bb 6
     .grind
     simp only[cond_true]
     cases eqB e.aS d.aS||!er n.cp e.aS
     .exact(jt _ _ _).1
     rfl
    simp only[cond_true]
    cases eqB d.aX 0
    .rfl
    exact(jt _ _ _).1
 split
 .rw[mL];grind
 split
 .rw[kv]
  grind
 split
 .rw[uY];cases zE n e.b8
  .rfl
  exact HO n _
 rfl
abbrev NQ(n:ab)(r:cU×bu):Prop:=dM r.2/\EP r.1/\qY n r.1=ζ/\FS n r.1
theorem wPl{c:bu}(h:dM c){k i cell:Int}(hb:okB b)(hk:k≠13):Wp (ς ((⟨k,i,cell,b,fT⟩:cU),c)) (NQ n):=
 Wp.some ⟨h,z7 hb,o9 n hk,Hb n hk⟩
theorem oN:okB []:=λx hx=>by simp at hx
theorem wNo{b:Bool}{y:α}{β:Type}{f:α->Option β}{Q:β->Prop}(h:∀z,Wp (f z) Q):Wp (afW (bif b then ς x else ς y) f) Q:=by
 grind
theorem wTail{c':bu}(hc:dM c'):Wp (afW (bif ltB 0 (n.aH.length:Int) then(afW (jY c' 4) λr21=>ς (!r21.1,r21.2)) else(ς (η,c'))) λ((v16,v20):Bool×bu)=>bif v16 then(afW (DN (n.aH.length:Int) 3) λr22=>afW (cS v20 r22) λr23=>afW (cS r23.2 12) λr24=>bif eqB r24.1 0 then(ς ({fk with bb:=3,cq:=r23.1},r24.2)) else(bif eqB r24.1 1 then(ς ({fk with bb:=4,cq:=r23.1},r24.2)) else(ς ({fk with bb:=2,cq:=r23.1},r24.2)))) else(ς ({fk with bb:=1},v20))) (NQ n):=by
 refine Wp.call (P:=λx=>dM x.2/\(x.1=ζ->0<n.aH.length)) ?_ ?_
 .refine Wp.cond (λhb=>?_) (λ_=>Wp.some ⟨hc,λh=>by simp at h⟩)
  have hb:=kO hb
  exact Wp.call (A2 hc oaa) λr21 h21=>Wp.some ⟨h21,λ_=>by omega⟩
 rintro⟨v16,v20⟩ ⟨k1,k2⟩
 simp only at k1 k2
 refine Wp.cond (λhb=>?_) (λ_=>wPl k1 oN oaa)
 have:=k2 hb
 rw[Oh]
 simp only[afY]
 have hm:1<=jS (n.aH.length:Int) 3:=by unfold jS;split<;>omega
 refine Wp.call (eA k1 hm) λr23 h23=>Wp.call (eA h23.1 oaa) λr24 h24=>?_
 exact Wp.cond (λ_=>wPl h24.1 oN oaa) (λ_=>Wp.cond (λ_=>wPl h24.1 oN oaa) (λ_=>wPl h24.1 oN oaa))
theorem wNext(h:NP B n)(hd:1<=n.aj.length){c:bu}(hc:dM c):Wp (D2 c n) (NQ n):=by
 have hm6:=fX h.map
 have hl:=h.ld
 unfold D2
 rw[Og]
 simp only[afY]
 have hmx:1<=yO 1 (n.aj.length:Int):=by unfold yO;split<;>omega
 have hw:WR ((n.cp.bp.length:Int)+1)=(n.cp.bp.length:Int)+1:=bN oaa
 refine Wp.call (eA hc hmx) λr2 h2=>Wp.call (eA h2.1 oaa) λr3 h3=>?_
 refine Wp.cond (λ_=>wPl h3.1 oN oaa) (λ_=>wNo λ_=>?_)
 refine Wp.cond (λ_=>Wp.call (eA h3.1 oaa) λr5 h5=>wPl h5.1 oN oaa) (λ_=>?_)
 refine Wp.cond (λ_=>wPl h3.1 oN oaa) (λ_=>wNo λ_=>?_)
 refine Wp.cond (λ_=>Wp.call (eA h3.1 oaa) λr7 h7=>Wp.call (abd h7.1 h7.2.1 oaa) λr8 h8=>wPl h8.1 h8.2.1 oaa) (λ_=>?_)
 refine Wp.cond (λ_=>Wp.call (eA h3.1 oaa) λr9 h9=>wPl h9.1 oN oaa) (λ_=>wNo λ_=>?_)
 refine Wp.cond (λ_=>Wp.call (eA h3.1 oaa) λr9 h9=>wPl h9.1 oN oaa) (λ_=>?_)
 refine Wp.cond (λ_=>Wp.call (eA h3.1 oaa) λr9 h9=>wPl h9.1 oN oaa) (λ_=>?_)
 refine Wp.cond (λ_=>Wp.call (eA h3.1 oaa) λr9 h9=>wPl h9.1 oN oaa) (λ_=>wNo λ_=>?_)
 refine Wp.cond (λ_=>Wp.cond (λ_=>?_) (λ_=>wTail h3.1)) (λ_=>wTail h3.1)
 refine Wp.call (wForge h hd h3.1) λr15 h15=>Wp.some ⟨h15.1,⟨oN,h15.2.1.f,h15.2.1.r⟩,?_,λ_=>h15.2.2.2⟩
 exact h15.2.2.1
theorem RN.apply{B:Nat}(h:RN B l n)(he:EP e)(hh:qY n e=ζ)(hf:FS n e):RN (B+1) l (gO n e).2:=by
 obtain⟨k,h1,h2,h3⟩:=h
 exact⟨k+1,h1.step he hh hf,by omega,by rw[Xy];exact h3⟩
theorem RN.mono{B B':Nat}(h:RN B l n)(hb:B<=B'):RN B' l n:=by
 obtain⟨k,h1,h2,h3⟩:=h;exact⟨k,h1,by omega,h3⟩
theorem w33Run{c:bu}(h:dM c){most:Int}(hm:1<=most/\most<=150):Wp (BE c most) (λr=>dM r.2.2.2/\∃l,(1<=l/\l<=3)/\RN 40 l r.1/\RN (42+most.toNat) l r.2.2.1/\(r.2.1.length<=160/\∀e∈r.2.1,EP e)):=by
 unfold BE
 refine Wp.call (w32New h) λr1 h1=>?_
 obtain⟨h11,l,hl,hr⟩:=h1
 obtain⟨b,hn,hb⟩:=hr.np oaa
 rw[net_c hn.okN]
 simp only[afY]
 refine Wp.call (eA h11 hm.1) λr3 h3=>?_
 have hw:WR (3+r3.1)=3+r3.1:=bN oaa
 refine Wp.call (P:=λx=>dM x.2.1/\RN (42+most.toNat) l x.2.2/\(x.1.length<=160/\∀e∈x.1,EP e)) ?_ λx hx=>Wp.some ⟨hx.1,l,hl,hr,hx.2.1,hx.2.2⟩
 refine Wp.iterF (λx=>(0<=x.1/\x.1<=2+most)/\dM x.2.2.1/\RN (40+(2+most-x.1).toNat) l x.2.2.2/\((x.2.1.length:Int)<=160-x.1/\∀e∈x.2.1,EP e)) (λx=>x.1.toNat) ⟨⟨by omega,by omega⟩,h3.1,hr.mono oaa,by grind,by simp⟩ oaa ?_
 rintro⟨v4,v8,v19,n⟩ ⟨⟨i0,i1⟩,i2,i3,i4,i5⟩
 simp only at i0 i1 i2 i3 i4 i5
 simp only[IG]
 refine Wp.cond (λhb=>?_) (λhb=>Wp.some ⟨i2,i3.mono oaa,by grind,i5⟩)
 have hb:=kO hb
 obtain⟨b',hn',hb'⟩:=i3.np oaa
 have hdl:n.aj.length=l:=i3.choose_spec.2.2
 refine Wp.call (wNext hn' oaa i2) λr51 h51=>?_
 refine Wp.ok (gJ (by simp;omega) (by simp;omega)) ?_
 have ha:=Gx hn' h51.2.1 oaa
 rw[net_c hn'.okN]
 simp only[afY]
 rw[ha.1]
 simp only[afY]
 have hst:=i3.apply h51.2.1 h51.2.2.1 h51.2.2.2
 refine Wp.call (P:=λx=>RN (40+(2+most-v4).toNat+1) l x) (Wp.cond (λ_=>Wp.some hst) (λ_=>Wp.some (i3.mono oaa))) λx hx=>Wp.some ⟨⟨⟨?_,?_⟩,h51.1,?_,?_,?_⟩,?_⟩
 all_goals simp only[bN (show-9223372036854775808<=v4-1/\v4-1<=9223372036854775807 by omega)]
 .omega
 .omega
 .grind
 .simp;omega
 .grind
 omega
def As(r:a8)(g:Int):Int:=(vec r.eV (xt r.ID g) g).eV
def ea(l:List bI)(k:Nat):Int:=((l.take k).map λp=>(p.bh.length:Int)).sum
def cX(w:bk):Int:=w.bw-1-w.aJ.length
structure SI(d:aA)(s:ag)(a:av):Prop where
 cl:d.dq.dh<=s.bD.cH
 pq:s.bA<=s.bD.cH
 pg:0<s.bA->s.ae<s.bA
 pv:0<s.bA->s.aV=vec s.bD.eV (xt s.bD.ID s.bA) s.bA
 sg:s.ae<=s.bD.cH
 s1:s.aX=1->0<s.ae
 sk:0<s.ae->s.aZ=As s.bD s.ae
 dg:d.ae<=d.dq.dh
 dk:0<d.ae->d.aZ=As s.bD d.ae
 pr:d.bm.bv<+:s.aC
 pe:∀x∈d.bm.aV,s.aC[(x.cH-1).toNat]?=ς ⟨x.bh⟩/\x.cH<s.ax.bw
 nx:d.bm.bw<=s.ax.bw
 wn:∀x∈s.ax.aJ,s.aC[(x.cH-1).toNat]?=ς ⟨x.bh⟩
 ak:cX s.ax<d.bm.bw
 ch:a.d9+s.bG.d6=ea s.aC (cX s.ax).toNat
def Ed(s:ag)(x:aF):Prop:=∃(k g e:Int) (b:List Int),0<g/\(1<=k/\k<s.ax.bw)/\s.aC[(k-1).toNat]?=ς ⟨b⟩/\x=fY (As s.bD g) g e ⟨k,b⟩
def RadB(d:aA)(x:aF):Prop:=x.ae<d.ae\/(x.ae=d.ae/\zp d.aZ x=η)
def Ur(s:ag)(m:aG):Prop:=∃q,(1<=q/\q<=s.bD.cH)/\m.ae=q/\m.bZ=vec s.bD.eV (xt s.bD.ID q) q
def Uq(d:aA)(m:aG):Prop:=kL d.dq.eV d.dq.dh m.bZ=1\/kL d.dq.eV d.dq.dh m.bZ=2
def Gl(s:ag)(m:aG):Prop:=m.ae<s.ae\/(m.ae=s.ae/\mr s.aZ m=η)
structure FI(d:aA)(s:ag)(f:bg):Prop where
 up:f.dF=ζ->f.cg=η->f.aP.bb=8->f.aP.bP<=d.bm.bw\/Gl s f.aP
 rd:f.dF=η->f.cg=ζ->Ed s f.bV\/RadB d f.bV
 dn:f.dF=η->f.cg=η->f.aP.bb=2->Ur s f.aP\/Uq d f.aP
structure vF(d:aA)(s:ag)(d':aA)(s':ag):Prop where
 ck:d'.dq.eV=d.dq.eV
 cl:d.dq.dh<=d'.dq.dh
 dg:d.ae<d'.ae\/(d'.ae=d.ae/\d'.aZ=d.aZ)
 rn:d.bm.bw<=d'.bm.bw
 ri:s'.bD.ID=s.bD.ID
 rk:s'.bD.eV=s.bD.eV
 rs:s.bD.cH<=s'.bD.cH
 sg:s.ae<s'.ae\/(s'.ae=s.ae/\s'.aZ=s.aZ)
 su:s.aC<+:s'.aC
 wn:s.ax.bw<=s'.ax.bw
theorem vF.refl(d:aA)(s:ag):vF d s d s:=⟨rfl,agH _,.inr ⟨rfl,rfl⟩,agH _,rfl,rfl,agH _,.inr ⟨rfl,rfl⟩,agK _,agH _⟩
theorem Me{xs ys:List α}(h:xs<+:ys)(hx:xs[k]?=ς x):ys[k]?=ς x:=by
 obtain⟨zs,rfl⟩:=h
 grind
theorem Y5{r r':a8}(h1:r'.ID=r.ID)(h2:r'.eV=r.eV)(g:Int):As r' g=As r g:=by rw[As,As,h1,h2]
theorem RK{k l l':Int}{v:ct}(h:l<=l')(hb:kL k l v=1\/kL k l v=2):kL k l' v=1\/kL k l' v=2:=by
 revert hb
 rw[kL,kL]
 omega
theorem FI.mono{d:aA}(h:FI d s f)(m:vF d s d' s'):FI d' s' f:=by
 refine⟨λh1 h2 h3=>?_,λh1 h2=>?_,λh1 h2 h3=>?_⟩
 .rcases h.up h1 h2 h3 with q|q
  .exact .inl (agI q m.rn)
  right
  rcases m.sg with g|⟨g1,g2⟩
  .left;rcases q with q|q<;>omega
  rcases q with q|q
  .left;omega
  right;simp_all
 .rcases h.rd h1 h2 with⟨k,g,e,b,q1,q2,q3,q4⟩|q
  .left;exact⟨k,g,e,b,q1,⟨q2.1,Int.lt_of_lt_of_le q2.2 m.wn⟩,Me m.su q3,by rw[Y5 m.ri m.rk];exact q4⟩
  right
  rcases m.dg with g|⟨g1,g2⟩
  .left;rcases q with q|q<;>omega
  rcases q with q|q
  .left;omega
  right;simp_all
 rcases h.dn h1 h2 h3 with⟨q,q1,q2,q3⟩|q
 .left;exact⟨q,⟨q1.1,agI q1.2 m.rs⟩,q2,by rw[m.ri,m.rk];exact q3⟩
 right;rw[Uq,m.ck];exact RK m.cl q
structure PI(n:ab):Prop where
 si:∀(i:Nat) d s a,n.aj[i]?=ς d->n.an[i]?=ς s->n.aT[i]?=ς a->SI d s a
 fi:∀f∈n.aH,∀d s,n.aj[f.aY.toNat]?=ς d->n.an[f.aY.toNat]?=ς s->FI d s f
theorem PI.send(h:PI n)(hf:∀d s,n.aj[f.aY.toNat]?=ς d->n.an[f.aY.toNat]?=ς s->FI d s f):PI (eh n f):=by
 rw[eh]
 cases leB 200 (n.aH.length:Int)
 .refine⟨h.si,λg hg=>?_⟩
  rcases ab1.1 hg with hg|hg
  .exact h.fi g hg
  simp_all
 exact⟨h.si,h.fi⟩
theorem PI.sends:∀(l:List bg) {n:ab},PI n->(∀f∈l,∀d s,n.aj[f.aY.toNat]?=ς d->n.an[f.aY.toNat]?=ς s->FI d s f)->PI (sends n l)
 |[],n,h,_=>h
 |f::l,n,h,hf=>by
  have hk:=ie n f
  exact PI.sends l (h.send (hf f (by simp))) (λg hg=>by simp_all)
theorem PI.setM(h:PI n){d:aA}{a':av}(hd:n.aj[i]?=ς d)(hs:n.an[i]?=ς s)(hm:vF d s d' s')(hi:SI d' s' a'):
 PI {n with aj:=n.aj.set i d',an:=n.an.set i s',aT:=n.aT.set i a'}:=by
 refine⟨λj x y z hx hy hz=>?_,λf hf x y hx hy=>?_⟩
 .rcases jM hx with⟨e1,e2⟩|⟨e1,e2⟩<;>rcases jM hy with⟨e3,e4⟩|⟨e3,e4⟩<;>rcases jM hz with⟨e5,e6⟩|⟨e5,e6⟩<;>first|omega|skip
  .simp_all
  exact h.si j x y z e2 e4 e6
 rcases jM hx with⟨e1,e2⟩|⟨e1,e2⟩<;>rcases jM hy with⟨e3,e4⟩|⟨e3,e4⟩<;>first|omega|skip
 .subst e2;subst e4
  exact(h.fi f hf d s (by simp_all) (by simp_all)).mono hm
 exact h.fi f hf x y e2 e4
structure Eb(d:aA)(s:ag)(a:av)(r:bi):Prop where
 mo:vF d s r.aY s
 si:SI r.aY s a
 sg:∀m∈r.bY,m.bb=8->m.bP<=r.aY.bm.bw
theorem Eb.keep{d:aA}(h:SI d s a)(h1:r.aY.dq=d.dq)(h2:r.aY.ae=d.ae)(h3:r.aY.aZ=d.aZ)(h4:r.aY.bm=d.bm)(h5:∀m∈r.bY,m.bb≠8):Eb d s a r:=
 ⟨⟨by rw[h1],by simp_all,.inr ⟨h2,h3⟩,by simp_all,rfl,rfl,agH _,.inr ⟨rfl,rfl⟩,agK _,agH _⟩,
  {h with cl:=by rw[h1];exact h.cl,dg:=by rw[h1,h2];exact h.dg,dk:=by rw[h2,h3];exact h.dk,pr:=by rw[h4];exact h.pr,pe:=by rw[h4];exact h.pe,nx:=by rw[h4];exact h.nx,ak:=by rw[h4];exact h.ak},
  λm hm e=>absurd e (h5 m hm)⟩
theorem Eb.none{d:aA}(h:SI d s a):Eb d s a ⟨d,[]⟩:=.keep h rfl rfl rfl rfl (by simp)
section
variable{d:aA}{s:ag}{a:av}(h:SI d s a)
include h
theorem Gw(h1:d'.dq=d.dq)(h2:d'.ae=d.ae)(h3:d'.aZ=d.aZ)(h4:d'.bm=d.bm):Eb d s a (lA d'):=
 .keep h h1 h2 h3 h4 (by simp[lA,eW,lN])
theorem GT:Eb d s a (ef d):=by
 rw[ef]
 cases ltB 0 d.dy<;>cases eqB d.aX 1<;>cases eqB d.aX 2&&!d.bT<;>exact .keep h rfl rfl rfl rfl (by simp[iY,eW,lN])
theorem XX:Eb d s a (dOn d):=by
 rw[dOn];cases eqB d.aX 0<;>exact .keep h rfl rfl rfl rfl (by simp[iY])
theorem No(c:Int):Eb d s a (sJ d c):=by
 rw[sJ]
 cases eqB c d.aS||!inR c 0 5
 .cases eqB d.aX 2&&ltB d.aK 999999
  .exact .keep h rfl rfl rfl rfl (by simp)
  exact Gw h rfl rfl rfl rfl
 exact .none h
theorem Sl(hk:d.dq.eV=s.bD.eV)(hr:s.bD.cH<=999999)(hf:Ur s m\/Uq d m):Eb d s a (zY d m):=by
 rw[zY]
 cases hv:eqB (kL d.dq.eV d.dq.dh m.bZ) 0
 .exact .none h
 have hv:=gj hv
 rcases hf with⟨q,q1,q2,q3⟩|q
 .have hq:inR q 0 999999=true:=bE.2 oaa
  rw[q3,hk,E8 oaa oaa] at hv
  have hlt:d.dq.dh<q:=by
   by_cases hle:q<=d.dq.dh
   .omega
   omega
  have hu:unm d.dq.eV m.bZ.eJ m.bZ.gD=q:=by
   rw[q3,hk];simp only[vec,hq,cond_true];exact MI oaa oaa
  have hrand:m.bZ.eJ=xt s.bD.ID q:=by rw[q3];simp only[vec,hq,cond_true]
  have hg:=h.dg
  rw[hk,hrand] at hu
  simp only[cond_true,hu,hrand,q2,hk]
  refine⟨⟨hk.symm,by grind,.inl (by grind),agH _,rfl,rfl,agH _,.inr ⟨rfl,rfl⟩,agK _,agH _⟩,{h with cl:=q1.2,dg:=agH _,dk:=λ_=>rfl},λm hm=>by simp_all⟩
 rcases q with q|q<;>omega
theorem Sn(hk:d.dq.eV=s.bD.eV)(hr:s.bD.cH<=999999)(hf:m.bb=2->Ur s m\/Uq d m):Eb d s a (iU d m):=by
 rw[iU]
 cases !eS m||(!eqB m.aS d.aS||eqB d.aX 0)
 .simp only[cond_false]
  cases h2:eqB m.bb 2&&eqB d.aX 1
  .simp only[cond_false]
   cases eqB m.bb 4&&(eqB d.aX 1&&(o7 d.aZ&&(eqB m.ae d.ae&&mr d.aZ m)))
   .simp only[cond_false]
    cases eqB m.bb 6&&(eqB d.aX 2&&(eqB m.ae d.ae&&(eqB m.aK d.aK&&mr d.aZ m)))
    .simp only[cond_false]
     cases eqB m.bb 7&&(eqB d.aX 3&&ltB d.aK 999999)
     .simp only[cond_false]
      cases eqB m.bb 7&&eqB d.aX 2
      .exact .none h
      exact Gw h rfl rfl rfl rfl
     exact Gw h rfl rfl rfl rfl
    exact .keep h rfl rfl rfl rfl (by simp)
   exact .keep h rfl rfl rfl rfl (by simp)
  rw[v0] at h2
  exact Sl h hk hr (hf (gj h2.1))
 exact .none h
omit h in
theorem ZT{l sub:List bI}{t:List ah}{nx:Int}(hp:l<+:sub)(hn:nx=(l.length:Int)+1)(ht:∀(k:Nat) (y:ah),t[k]?=ς y->y.cH=nx+k/\sub[(y.cH-1).toNat]?=ς ⟨y.bh⟩):l++t.map (λy=>(⟨y.bh⟩:bI))<+:sub:=by
 obtain⟨zs,hz⟩:=hp
 refine⟨zs.drop t.length,?_⟩
 apply af8
 intro i
 rw[<-hz]
 by_cases h1:i<l.length
 .grind
 rw[agk,aem oaa,aem (show l.length<=i by omega)]
 by_cases h2:i-l.length<t.length
 .rw[List.getElem?_append_left (by simp_all),aeR,aa9 h2]
  obtain⟨e1,e2⟩:=ht (i-l.length) _ (aa9 h2)
  rw[<-hz,e1,aem oaa] at e2
  rw[show(nx+((i-l.length:Nat):Int)-1).toNat-l.length=i-l.length by omega] at e2
  rw[e2];rfl
 grind
theorem Sm(hp:RcV d.bm)(hs:SP s)(hb:∀p∈s.aC,okB p.bh){x:aF}(hf:Ed s x\/RadB d x):Eb d s a (kq d x):=by
 simp only[kq]
 cases ho:eqB d.aX 2&&(mM d.aZ d.ae d.aK x).2
 .exact .none h
 simp only[cond_true]
 rw[v0] at ho
 have hcond:x.ae=d.ae/\x.aK=d.aK/\zp d.aZ x=true:=by
  have:=ho.2
  rw[mM] at this
  split at this
  .assumption
  cases this
 rcases hf with⟨k,g,e,b,q1,q2,q3,q4⟩|q
 .have hsub:=abl q3
  have hl:=hs.sl
  have hnx:=hs.nx
  have hgen:d.ae=g:=by rw[<-hcond.1,q4];rfl
  have hep:d.aK=e:=by rw[<-hcond.2.1,q4];rfl
  have hkey:d.aZ=As s.bD g:=by rw[<-hgen];exact h.dk oaa
  have hopen:mM d.aZ d.ae d.aK x=(⟨k,b⟩,ζ):=by
   rw[q4,hgen,hep,hkey]
   exact EF q2.1 (by grind) (hb _ hsub) (hs.sd _ hsub) _ _ _
  rw[hopen]
  simp only
  cases hlate:xG d.bm ⟨k,b⟩
  .obtain⟨t,dd,t1,t2,t3,t4,t5,t6,t7,t8⟩:=zl hp hlate
   have hmem:∀y∈px ⟨k,b⟩ d.bm.aV,s.aC[(y.cH-1).toNat]?=ς ⟨y.bh⟩/\y.cH<s.ax.bw:=λy hy=>by
    rcases xD.1 hy with e|e
    .simp_all
    exact h.pe y e
   have hpre:=ZT (l:=d.bm.bv) (sub:=s.aC) (t:=t) h.pr hp.n (λk y hy=>⟨t2 k y hy,(hmem y (by rw[t1];exact agJ _ (abl hy))).1⟩)
   have hnext:(iX d.bm ⟨k,b⟩).bw<=s.ax.bw:=by
    rw[t3]
    by_cases ht:t.length=0
    .rw[ht];have:=h.nx;simp;omega
    obtain⟨y,hy⟩:∃y,t[t.length-1]?=ς y:=⟨_,aa9 oaa⟩
    have e1:=t2 _ y hy
    have e2:=(hmem y (by rw[t1];exact agJ _ (abl hy))).2
    omega
   have hak:=h.ak
   refine⟨⟨rfl,agH _,.inr ⟨rfl,rfl⟩,by grind,rfl,rfl,agH _,.inr ⟨rfl,rfl⟩,agK _,agH _⟩,
    {h with pr:=by simp_all,pe:=λy hy=>?_,nx:=hnext,ak:=by grind},λm hm _=>?_⟩
   .simp only at hy
    rcases t6 with e|e
    .simp_all
    simp_all
   simp at hm;subst hm;exact agH _
  have e:iX d.bm ⟨k,b⟩=d.bm:=by rw[iX,hlate];rfl
  rw[e]
  refine⟨vF.refl d s,h,λm hm _=>?_⟩
  simp at hm;subst hm;exact agH _
 exfalso
 rcases q with q|⟨q1,q2⟩
 .omega
 simp_all
end
theorem ST{d:aA}(h:SI d s a):SI (uL d) s a/\vF d s (uL d) s:=by
 rw[uL]
 cases eqB d.aX 2
 .exact⟨h,vF.refl d s⟩
 have:=Eb.keep h (r:=⟨{d with aX:=3},[]⟩) rfl rfl rfl rfl (by simp)
 exact⟨this.si,this.mo⟩
theorem ur(h:PI n){d:aA}(hd:n.aj[i]?=ς d)(hs:n.an[i]?=ς s)(ha:n.aT[i]?=ς a)(st:Eb d s a r):PI (dY n i r):=by
 have hi:=(abb.1 hd).1
 have hm:=h.setM hd hs st.mo (a':=a) st.si
 rw[fR hs,fR ha] at hm
 refine PI.sends _ hm λf hf x y hx hy=>?_
 obtain⟨m,hm',rfl⟩:=afk.1 hf
 simp only[cM,afZ] at hx hy
 have e1:(n.aj.set i r.aY)[i]?=ς r.aY:=by simp[hi]
 rw[e1] at hx;rw[hs] at hy
 cases hx;cases hy
 exact⟨λ_ _ h3=>.inl (st.sg m hm' h3),λh1 _=>by simp[cM] at h1,λh1 _ _=>by simp[cM] at h1⟩
structure Gq(d:aA)(s:ag)(a:av)(r:bJ):Prop where
 mo:vF d s d r.aM
 si:SI d r.aM a
 sg:∀m∈r.bY,m.bb=2->Ur r.aM m
theorem aaP(xs:List ah)(j:Nat):gB xs=gB (xs.take j)+gB (xs.drop j):=by
 simp only[gB]
 rw[<-agR,<-afq,afG]
theorem zW{l:List bI}{p:bI}(h:l[k]?=ς p):ea l (k+1)=ea l k+p.bh.length:=by
 simp only[ea]
 rw[age,h]
 simp
theorem Cg{l:List bI}{u:List ah}{A:Nat}(h:∀(i:Nat) x,u[i]?=ς x->l[A+i]?=ς ⟨x.bh⟩):∀j:Nat,j<=u.length->ea l (A+j)=ea l A+gB (u.take j)
 |0,_=>by simp[gB]
 |j+1,hj=>by
  obtain⟨x,hx⟩:∃x,u[j]?=ς x:=⟨_,aa9 oaa⟩
  rw[<-agT,zW (h j x hx),Cg h j oaa,age,hx]
  simp only[gB,Option.toList_some,afq,agR,ael,aeF,agO,List.sum_nil]
  omega
theorem PU{l l':List bI}(h:l<+:l')(hk:k<=l.length):ea l' k=ea l k:=by
 obtain⟨z,rfl⟩:=h
 simp only[ea]
 grind
theorem tf{x:a8}(h:vN x=ζ):0<=x.cH/\x.cH<=999999:=by
 simp only[vN,v0,bE] at h;omega
section
variable{d:aA}{s:ag}{a:av}(h:SI d s a)(g:SG s a)
theorem Gq.none(h:SI d s a):Gq d s a ⟨s,[]⟩:=⟨vF.refl d s,h,by simp⟩
include h
theorem Ve{l:List aG}(h1:s'.bD=s.bD)(h2:s'.aV=s.aV)(h3:s'.bA=s.bA)(h4:s'.aX=s.aX)(h5:s'.ae=s.ae)(h6:s'.aZ=s.aZ)(h7:s'.aC=s.aC)(h8:s'.ax=s.ax)(h9:s'.bG.d6=s.bG.d6)(hl:∀m∈l,m.bb≠2):Gq d s a ⟨s',l⟩:=by
 refine⟨⟨rfl,agH _,.inr ⟨rfl,rfl⟩,agH _,by rw[h1],by rw[h1],by simp_all,.inr ⟨h5,h6⟩,by simp_all,by simp_all⟩,?_,λm hm e=>absurd e (hl m hm)⟩
 exact⟨by rw[h1];exact h.cl,by rw[h1,h3];exact h.pq,by rw[h3,h5];exact h.pg,by rw[h1,h2,h3];exact h.pv,by rw[h1,h5];exact h.sg,by rw[h4,h5];exact h.s1,by rw[h1,h5,h6];exact h.sk,h.dg,by rw[h1];exact h.dk,by rw[h7];exact h.pr,by rw[h7,h8];exact h.pe,by rw[h8];exact h.nx,by rw[h7,h8];exact h.wn,by rw[h8];exact h.ak,by rw[h7,h8,h9];exact h.ch⟩
include g
theorem Kw(m:aG):Gq d s a (zM s m):=by
 have hr:=tf g.sp.rcd
 simp only[zM]
 cases hb:eqB s.bD.cH 999999
 .have hb:=Jc hb
  simp only[cond_false]
  refine⟨⟨rfl,agH _,.inr ⟨rfl,rfl⟩,agH _,rfl,rfl,by grind,.inr ⟨rfl,rfl⟩,agK _,agH _⟩,?_,λx hx e=>?_⟩
  .have h1:=h.cl
   have h2:=h.sg
   exact {h with cl:=by grind,pq:=agH _,pg:=λ_=>by grind,pv:=λ_=>rfl,sg:=by grind,sk:=h.sk,dk:=h.dk}
  simp at hx;subst hx
  exact⟨s.bD.cH+1,⟨by omega,agH _⟩,rfl,rfl⟩
 exact .none h
theorem Ii(m:aG):Gq d s a (rf s m):=by
 rw[rf]
 cases hb:leB s.bA 0||(!eqB m.ae s.bA||(!eqB m.bP s.aV.vB||leB 999999 s.aK))
 .simp only[adi] at hb
  have hp:=xh hb.1
  have h1:=h.pg hp
  simp only[cond_false,oY]
  refine⟨⟨rfl,agH _,.inr ⟨rfl,rfl⟩,agH _,rfl,rfl,agH _,.inl h1,agK _,agH _⟩,?_,λx hx e=>?_⟩
  .have h2:=h.pq
   have h3:=tf g.sp.rcd
   exact {h with pq:=by simp_all,pg:=λe=>by simp at e,pv:=λe=>by simp at e,sg:=h2,s1:=λ_=>hp,sk:=λ_=>by show s.aV.eV=As s.bD s.bA;rw[h.pv hp];rfl}
  simp[lr,lN] at hx;simp_all
 exact .none h
omit g in
theorem Ie(m:aG):Gq d s a (mS s m):=by
 rw[mS]
 cases !gx s m||(ltB m.aK s.aK||(eqB m.aK s.aK&&!eqB m.aS s.aS))
 .exact Ve h rfl rfl rfl rfl rfl rfl rfl rfl rfl (by simp[lr,lN])
 exact .none h
theorem Ku(hf:m.bP<=d.bm.bw\/Gl s m):Gq d s a (vL s m):=by
 rw[vL]
 cases hb:!gx s m||ltB s.ax.bw m.bP
 .simp only[cond_false]
  simp only[adi,af5] at hb
  obtain⟨hk,hn⟩:=hb
  simp only[gx,v0] at hk
  rcases hf with hf|hf
  .have hg:=Kv g m.bP
   have hw:=g.sp.win
   have hd:=Eg hw hn
   have hle:=ou hn
   have f1:=hw.f
   have f2:=hw.n
   have hch:=h.ch
   have hak:=h.ak
   obtain⟨j,hj⟩:∃j,j=(m.bP-(s.ax.bw-s.ax.aJ.length)).toNat:=⟨_,rfl⟩
   rw[<-hj] at hd
   have hjl:j<=s.ax.aJ.length:=by omega
   have hnx:(kN s.ax m.bP).bw=s.ax.bw:=by rw[hd]
   have hlen:(kN s.ax m.bP).aJ.length=s.ax.aJ.length-j:=by rw[hd];simp
   have hacked:cX (kN s.ax m.bP)=cX s.ax+j:=by simp only[cX,hnx,hlen];omega
   have ha0:0<=cX s.ax:=by simp only[cX];omega
   have hcut:=aaP s.ax.aJ j
   have hb':ea s.aC ((cX s.ax).toNat+j)=ea s.aC (cX s.ax).toNat+gB (s.ax.aJ.take j):=by
    refine Cg (λi x hx=>?_) j hjl
    have e1:=(hw.u i x hx).1
    have e2:=h.wn x (abl hx)
    rw[show(cX s.ax).toNat+i=(x.cH-1).toNat by simp only[cX];omega];exact e2
   refine⟨⟨rfl,agH _,.inr ⟨rfl,rfl⟩,agH _,rfl,rfl,agH _,.inr ⟨rfl,rfl⟩,agK _,by simp only[lk,hnx];omega⟩,?_,by simp⟩
   refine⟨h.cl,h.pq,h.pg,h.pv,h.sg,h.s1,h.sk,h.dg,h.dk,h.pr,?_,?_,λx hx=>h.wn x (CW _ _ x hx),?_,?_⟩
   .simp only[lk,hnx];exact h.pe
   .simp only[lk,hnx];exact h.nx
   .show cX (kN s.ax m.bP)<d.bm.bw
    rw[hacked];simp only[cX] at hak ⊢;omega
   rw[hg.2]
   show a.d9+(s.bG.d6+(gB s.ax.aJ-gB (kN s.ax m.bP).aJ))=ea s.aC (cX (kN s.ax m.bP)).toNat
   grind
  exfalso
  have e1:=gj hk.2.1
  rcases hf with q|⟨q1,q2⟩
  .omega
  simp_all
 exact .none h
theorem aax(hf:m.bb=8->m.bP<=d.bm.bw\/Gl s m):Gq d s a (sUp s m):=by
 rw[sUp]
 cases eS m
 .exact .none h
 simp only[au]
 cases eqB m.bb 1
 .cases eqB m.bb 3
  .cases eqB m.bb 5
   .cases h8:eqB m.bb 8
    .exact .none h
    exact Ku h g (hf (gj h8))
   exact Ie h m
  exact Ii h g m
 exact Kw h g m
theorem Ia:Gq d s a ⟨lJ s,[]⟩:=by
 have hr:=tf g.sp.rcd
 exact⟨⟨rfl,agH _,.inr ⟨rfl,rfl⟩,agH _,rfl,rfl,agH _,.inr ⟨rfl,rfl⟩,agK _,agH _⟩,
  {h with pq:=by show(0:Int)<=s.bD.cH;omega,pg:=λe=>by simp[lJ] at e,pv:=λe=>by simp[lJ] at e},by simp⟩
theorem Ky(b:List Int):Gq d s a ⟨(s7 s b).1,[]⟩:=by
 rw[s7]
 cases leB 24 (s.aC.length:Int)||ltB 60 (b.length:Int)
 .simp only[cond_false]
  have hp:s.aC<+:s.aC++[(⟨b⟩:bI)]:=List.prefix_append _ _
  have hnx:=g.sp.nx
  refine⟨⟨rfl,agH _,.inr ⟨rfl,rfl⟩,agH _,rfl,rfl,agH _,.inr ⟨rfl,rfl⟩,hp,agH _⟩,
   {h with pr:=h.pr.trans hp,pe:=λx hx=>⟨Me hp (h.pe x hx).1,(h.pe x hx).2⟩,wn:=λx hx=>Me hp (h.wn x hx),ch:=?_},by simp⟩
  show a.d9+s.bG.d6=ea (s.aC++[(⟨b⟩:bI)]) (cX s.ax).toNat
  rw[PU hp (by simp only[cX];omega)];exact h.ch
 exact .none h
end
theorem Ed.mono{x:aF}(h:Ed s x)(h1:s'.bD=s.bD)(h2:s'.aC=s.aC)(h3:s.ax.bw<=s'.ax.bw):Ed s' x:=by
 obtain⟨k,g,e,b,q1,q2,q3,q4⟩:=h
 exact⟨k,g,e,b,q1,⟨q2.1,by omega⟩,by simp_all,by simp_all⟩
structure TrS(d:aA)(s:ag)(a:av)(s':ag)(a':av)(r:List aF):Prop where
 rc:s'.bD=s.bD
 gn:s'.ae=s.ae
 rk:s'.aZ=s.aZ
 su:s'.aC=s.aC
 st:s'.aX=s.aX
 wn:s.ax.bw<=s'.ax.bw
 si:SI d s' a'
 rd:∀x∈r,Ed s' x
theorem TrS.mo{d:aA}{a':av}{r:List aF}(h:TrS d s a s' a' r):vF d s d s':=
 ⟨rfl,agH _,.inr ⟨rfl,rfl⟩,agH _,by rw[h.rc],by rw[h.rc],by rw[h.rc];omega,.inr ⟨h.gn,h.rk⟩,by rw[h.su];simp_all,h.wn⟩
theorem SI.pay{d:aA}{a':av}(h:SI d s a)(h1:s'.bD=s.bD)(h2:s'.aV=s.aV)(h3:s'.bA=s.bA)(h4:s'.aX=s.aX)(h5:s'.ae=s.ae)(h6:s'.aZ=s.aZ)(h7:s'.aC=s.aC)(h8:s'.ax=s.ax)(h9:a'.d9+s'.bG.d6=a.d9+s.bG.d6):SI d s' a':=
 ⟨by rw[h1];exact h.cl,by rw[h1,h3];exact h.pq,by rw[h3,h5];exact h.pg,by rw[h1,h2,h3];exact h.pv,by rw[h1,h5];exact h.sg,by rw[h4,h5];exact h.s1,by rw[h1,h5,h6];exact h.sk,h.dg,by rw[h1];exact h.dk,by rw[h7];exact h.pr,by rw[h7,h8];exact h.pe,by rw[h8];exact h.nx,by rw[h7,h8];exact h.wn,by rw[h8];exact h.ak,by rw[h9,h7,h8];exact h.ch⟩
theorem Qf(h:SG s a)(n:Int):(cf s a n).2.d9+(cf s a n).1.bG.d6=a.d9+s.bG.d6:=by
 rw[cf]
 cases leB (gF s n) 0
 .have:=(yT h.mo.acc s.bG.aO (yO (gF s n) s.gI.d4)).2.2.2.2.2.1
  simp only[cond_false,jC,this]
 rfl
theorem UR{d:aA}(h:SI d s a)(g:SG s a)(n:Int):SI d (cf s a n).1 (cf s a n).2:=by
 obtain⟨q,hk⟩:=je s a n
 have hp:=Qf g n
 exact h.pay (by rw[hk]) (by rw[hk]) (by rw[hk]) (by rw[hk]) (by rw[hk]) (by rw[hk]) (by rw[hk]) (by rw[hk]) hp
theorem adM{d:aA}(h:SI d s a)(g:SG s a){x:bI}(e:nM s=ς x):SI d {s with ax:=sent s.ax x.bh} a:=by
 obtain⟨hm,_,hx,hn,hl,hb⟩:=jq g.sp e
 have hnx:=h.nx
 have hac:cX (sent s.ax x.bh)=cX s.ax:=by simp only[cX,sent,aeu,aee,List.length_nil];omega
 refine⟨h.cl,h.pq,h.pg,h.pv,h.sg,h.s1,h.sk,h.dg,h.dk,h.pr,λy hy=>⟨(h.pe y hy).1,by have:=(h.pe y hy).2;simp only[sent];omega⟩,by simp only[sent];omega,λy hy=>?_,by rw[hac];exact h.ak,by rw[hac];exact h.ch⟩
 simp only[sent,ab1,afn] at hy
 rcases hy with hy|hy
 .exact h.wn y hy
 simp_all
theorem Kz{d:aA}(h:SI d s a)(h1:s.aX=1){y:ah}(hy:s.aC[(y.cH-1).toNat]?=ς ⟨y.bh⟩)(hk:1<=y.cH/\y.cH<s.ax.bw)(e:Int):Ed s (fY s.aZ s.ae e y):=by
 have hg:=h.s1 h1
 exact⟨y.cH,s.ae,e,y.bh,hg,hk,hy,by rw[h.sk hg]⟩
theorem KC{d:aA}:∀(k:Nat) {s:ag} {a:av} {r:List aF},SI d s a->SG s a->s.aX=1->(∀x∈r,Ed s x)->TrS d s a (fm k s a r).1 (fm k s a r).2.1 (fm k s a r).2.2
 |0,s,a,r,h,g,h1,hr=>⟨rfl,rfl,rfl,rfl,rfl,agH _,h,hr⟩
 |k+1,s,a,r,h,g,h1,hr=>by
  rw[fm]
  cases e:nM s with
  |none=>exact⟨rfl,rfl,rfl,rfl,rfl,agH _,h,hr⟩
  |some x=>
   obtain⟨hm,_,hx,hn,hl,hb⟩:=jq g.sp e
   have he:=rh g (n:=(x.bh.length:Int)) oaa
   have hsi:=UR h g (x.bh.length:Int)
   obtain⟨q,hk⟩:=je s a (x.bh.length:Int)
   have hw:=g.sp.win.n
   simp only
   cases hq:ltB 0 (gF (cf s a (x.bh.length:Int)).1 (x.bh.length:Int))
   .simp only[cond_false]
    have e':nM (cf s a (x.bh.length:Int)).1=ς x:=by rw[hk];exact e
    have hsent:=adM hsi he e'
    have hsg:=y4 he e' hq
    have hst:({(cf s a (x.bh.length:Int)).1 with ax:=sent (cf s a (x.bh.length:Int)).1.ax x.bh}:ag).aX=1:=by rw[hk];exact h1
    have hrad:∀y∈r++[fY (cf s a (x.bh.length:Int)).1.aZ (cf s a (x.bh.length:Int)).1.ae (cf s a (x.bh.length:Int)).1.aK ⟨(cf s a (x.bh.length:Int)).1.ax.bw,x.bh⟩],Ed {(cf s a (x.bh.length:Int)).1 with ax:=sent (cf s a (x.bh.length:Int)).1.ax x.bh} y:=by
     intro y hy
     rcases ab1.1 hy with hy|hy
     .exact(hr y hy).mono (by rw[hk]) (by rw[hk]) (by rw[hk];simp only[sent];omega)
     simp at hy;subst hy
     exact Kz hsent hst (y:=⟨(cf s a (x.bh.length:Int)).1.ax.bw,x.bh⟩) (by simp_all) (by rw[hk];simp only[sent];omega) _
    have ih:=KC k hsent hsg hst hrad
    refine⟨by rw[ih.rc,hk],by rw[ih.gn,hk],by rw[ih.rk,hk],by rw[ih.su,hk],by rw[ih.st,hk],?_,ih.si,ih.rd⟩
    refine agI ?_ ih.wn
    rw[hk];simp only[sent];omega
   simp only[cond_true]
   refine⟨by rw[hk],by rw[hk],by rw[hk],by rw[hk],by rw[hk],by simp_all,hsi,λy hy=>(hr y hy).mono (by rw[hk]) (by rw[hk]) (by simp_all)⟩
theorem PP{d:aA}(h:SI d s a)(g:SG s a)(h1:s.aX=1):∀x∈zv s,Ed s x:=by
 rw[zv,h1]
 simp only[bj,cond_true]
 intro x hx
 obtain⟨y,hy,rfl⟩:=afk.1 hx
 have hy:=aeo hy
 obtain⟨k,hk⟩:=aej hy
 have hu:=(g.sp.win.u k y hk).1
 have hf:=g.sp.win.f
 have hlt:=(abb.1 hk).1
 exact Kz h h1 (h.wn y hy) oaa _
theorem EO{d:aA}(h:SI d s a)(g:SG s a)(m:be):TrS d s a (bX s a m).aM (bX s a m).cT (bX s a m).bV/\∀x∈(bX s a m).fj,x.bb=7:=by
 rw[bX]
 cases h1:eqB s.aX 1
 .exact⟨⟨rfl,rfl,rfl,rfl,rfl,agH _,h,by simp⟩,by simp⟩
 have h1:=gj h1
 simp only[au]
 have hg:=Aa g
 have hq:=va g.sp
 cases ltB 4 (eH s)
 .simp only[cond_false,vh]
  have hsi:SI d {s with cP:=eH s,cF:=(iG s).2,bG:=(eK s a).2} (eK s a).1:=h.pay rfl rfl rfl rfl rfl rfl rfl rfl hg.2.2.2.1
  have ht:=KC 2 hsi (g.upd hq (vc g.sp)) h1 (r:=[]) (by simp)
  refine⟨⟨ht.rc,ht.gn,ht.rk,ht.su,ht.st,ht.wn,ht.si,λx hx=>?_⟩,by simp⟩
  rcases ab1.1 hx with hx|hx
  .have hx':Ed s x:=by
    rw[iG] at hx;revert hx
    cases xr s
    .simp
    cases ltB 0 s.cF
    .exact PP h g h1 x
    simp
   exact hx'.mono ht.rc ht.su ht.wn
  exact ht.rd x hx
 simp only[cond_true,B6]
 refine⟨⟨rfl,rfl,rfl,rfl,rfl,agH _,h.pay rfl rfl rfl rfl rfl rfl rfl rfl hg.2.2.2.1,by simp⟩,λx hx=>?_⟩
 obtain⟨c,_,rfl⟩:=afk.1 hx
 rfl
theorem MP.key{nc:Nat}{d:aA}(h:MP nc i d s a):d.dq.eV=s.bD.eV:=by
 have:=h.ids
 simp only[Hs,v0,eqB_t] at this
 exact this.2
theorem VH(h:PI n){d:aA}(hd:n.aj[i]?=ς d)(hs:n.an[i]?=ς s)(ha:n.aT[i]?=ς a){r:bJ}(st:Gq d s a r):PI (tu n i r):=by
 have hi:=(abb.1 hs).1
 have hm:=h.setM hd hs st.mo (a':=a) st.si
 rw[fR hd,fR ha] at hm
 refine PI.sends _ hm λf hf x y hx hy=>?_
 obtain⟨m,hm',rfl⟩:=afk.1 hf
 simp only[cM,afZ] at hx hy
 have e1:(n.an.set i r.aM)[i]?=ς r.aM:=by simp[hi]
 rw[e1] at hy;rw[hd] at hx
 cases hx;cases hy
 exact⟨λh1 _=>by simp[cM] at h1,λ_ h1=>by simp[cM] at h1,λ_ _ h3=>.inl (st.sg m hm' h3)⟩
theorem Ow(h:PI n){d:aA}(hd:n.aj[i]?=ς d)(hs:n.an[i]?=ς s)(ha:n.aT[i]?=ς a){t:bM}(st:TrS d s a t.aM t.cT t.bV)(hp:∀x∈t.fj,x.bb=7):PI (gk n i t):=by
 have hi:=(abb.1 hs).1
 have hm:=h.setM hd hs st.mo st.si
 rw[fR hd] at hm
 have e1:(n.an.set i t.aM)[i]?=ς t.aM:=by simp[hi]
 have hpg:=PI.sends (t.fj.map (cM i η)) hm λf hf x y hx hy=>by
  obtain⟨m,hm',rfl⟩:=afk.1 hf
  have hk:=hp m hm'
  exact⟨λh1 _=>by simp[cM] at h1,λ_ h1=>by simp[cM] at h1,λ_ _ h3=>by simp only[cM] at h3;omega⟩
 have hkeep:=dv (t.fj.map (cM i η)) {n with an:=n.an.set i t.aM,aT:=n.aT.set i t.cT}
 refine PI.sends _ hpg λf hf x y hx hy=>?_
 obtain⟨m,hm',rfl⟩:=afk.1 hf
 rw[hkeep.2.1] at hy
 simp only[lj,afZ] at hy
 rw[e1] at hy;cases hy
 exact⟨λh1=>by simp[lj] at h1,λ_ _=>.inl (st.rd m hm'),λ_ h1=>by simp[lj] at h1⟩
theorem Pe:∀(c i:Nat) {B:Int} {n:ab},NP B n->B+c<4611686018427387904->PI n->PI (em c i n)
 |0,_,_,_,_,_,h=>h
 |c+1,i,B,n,hn,hB,h=>by
  rw[em]
  cases hd:n.aj[i]? with
  |none=>exact h
  |some d=>
   obtain⟨d',s,a,e1,e2,e3,hm⟩:=hn.at_ (abb.1 hd).1
   rw[hd] at e1;cases e1
   exact Pe c (i+1) (lV hn hd (nX d) (zZ hm.dp) hm.dc oaa) oaa (ur h hd e2 e3 (GT (h.si i d s a hd e2 e3)))
theorem Pj:∀(c i:Nat) {B:Int} {n:ab},NP B n->B+2000*c<4611686018427387904->PI n->PI (fC c i n)
 |0,_,_,_,_,_,h=>h
 |c+1,i,B,n,hn,hB,h=>by
  rw[fC]
  cases hs:n.an[i]? with
  |none=>exact h
  |some s=>cases ha:n.aT[i]? with
   |none=>exact h
   |some a=>
    have hls:=hn.ls
    have hml:=fX hn.map
    obtain⟨d,s',a',e1,e2,e3,hm⟩:=hn.at_ (i:=i) (by grind)
    rw[hs] at e2;rw[ha] at e3;cases e2;cases e3
    have ht:=EO (h.si i d s a e1 hs ha) hm.sg n.cp
    exact Pj c (i+1) (DD hn hs ha (mT hm.sg oaa) (AN hm.sg hn.map) oaa) oaa (Ow h e1 hs ha ht.1 ht.2)
theorem XN(h:PI n)(k:Nat):PI (ez n k):=⟨h.si,λf hf=>h.fi f (by
 simp only[ez,ab1] at hf
 grind)⟩
theorem yv(hn:NP B n)(h:PI n)(k:Nat):PI (dS n k):=by
 rw[dS]
 cases hf:n.aH[k]? with
 |none=>exact h
 |some f=>
  have hfm:=abl hf
  have hp:=hn.fs f hfm
  have h1:=XN h k
  have hdd:=hp.d
  obtain⟨d,s,a,e1,e2,e3,hm⟩:=hn.at_ (i:=f.aY.toNat) oaa
  have hfi:=h.fi f hfm d s e1 e2
  have hsi:=h.si _ d s a e1 e2 e3
  have q1:(ez n k).aj[f.aY.toNat]?=ς d:=e1
  have q2:(ez n k).an[f.aY.toNat]?=ς s:=e2
  have q3:(ez n k).aT[f.aY.toNat]?=ς a:=e3
  simp only
  cases oo (ez n k) f.aS
  .exact⟨h1.si,h1.fi⟩
  simp only[q1,q2,au]
  cases hu:f.dF
  .simp only[cond_false]
   cases eqB d.aS f.aS
   .exact⟨h1.si,h1.fi⟩
   simp only[au]
   cases hr:f.cg
   .exact ur h1 q1 q2 q3 (Sn hsi hm.key (tf hm.sg.sp.rcd).2 (λe=>hfi.dn hu hr e))
   exact ur h1 q1 q2 q3 (Sm hsi (nQ.1 hm.dp.rc.v) hm.sg.sp hm.sg.b1 (hfi.rd hu hr))
  simp only[cond_true]
  cases hr:f.cg||!eqB f.aP.aS f.aS
  .simp only[cond_false]
   simp only[adi] at hr
   exact VH h1 q1 q2 q3 (aax hsi hm.sg (λe=>hfi.up hu hr.1 e))
  exact h1
theorem acH{d:aA}(h:(bif f.cg then f.dF||Ly d f.bV else bif f.dF then hUp s f.aP else Dg d f.aP)=ζ):FI d s f:=by
 refine⟨λh1 h2 h3=>?_,λh1 h2=>?_,λh1 h2 h3=>?_⟩
 .rw[h2,h1] at h
  simp only[hUp,h3,show eqB 8 3=η from by simp[eqB],bj,afM,au] at h
  right
  rcases adP _ _ |>.mp h with q|q
  .exact .inl (kO q)
  rw[v0] at q;exact .inr ⟨gj q.1,by simp_all⟩
 .rw[h2,h1] at h
  simp only[cond_true,aen,Ly] at h
  right
  rcases adP _ _ |>.mp h with q|q
  .exact .inl (kO q)
  rw[v0] at q;exact .inr ⟨gj q.1,by simp_all⟩
 rw[h2,h1] at h
 simp only[Dg,h3,bj,au] at h
 right
 rcases adP _ _ |>.mp h with q|q
 .exact .inl (gj q)
 exact .inr (gj q)
theorem PI.same{n':ab}(h:PI n)(h1:n'.aj=n.aj)(h2:n'.an=n.an)(h3:n'.aT=n.aT)(h4:∀f∈n'.aH,f∈n.aH):PI n':=
 ⟨by rw[h1,h2,h3];exact h.si,λf hf=>by rw[h1,h2];exact h.fi f (h4 f hf)⟩
theorem own_PI(hn:NP B n)(h:PI n)(e:cU):PI (BS n e).2:=by
 rw[BS]
 cases inR e.cq 0 ((n.aj.length:Int)-1)
 .exact h
 simp only[au]
 cases hd:n.aj[e.cq.toNat]? with
 |none=>exact h
 |some d=>
  obtain⟨d',s,a,e1,e2,e3,hm⟩:=hn.at_ (abb.1 hd).1
  rw[hd] at e1;cases e1
  have hsi:=h.si _ d s a hd e2 e3
  simp only[e2]
  cases eqB e.bb 5
  .simp only[cond_false]
   cases eqB e.bb 6
   .simp only[cond_false]
    cases eqB e.bb 7
    .simp only[cond_false]
     cases(s7 s e.bh).2
     .exact h
     have st:=Ky hsi hm.sg e.bh
     have hm':=h.setM hd e2 st.mo (a':=a) st.si
     rw[fR hd,fR e3] at hm'
     exact hm'
    simp only[cond_true]
    cases eqB d.aX 2
    .exact h
    have st:=ST hsi
    have hm':=h.setM hd e2 st.2 (a':=a) st.1
    rw[fR e2,fR e3] at hm'
    exact hm'
   simp only[cond_true]
   cases eqB e.aS d.aS||!er n.cp e.aS
   .exact ur h hd e2 e3 (No hsi e.aS)
   exact h
  simp only[cond_true]
  cases eqB d.aX 0
  .exact h
  exact ur h hd e2 e3 (XX hsi)
theorem Wf(hn:NP B n)(h:PI n)(k:Int)(up:Bool):PI (kv n k up).2:=by
 rw[kv]
 cases !inR k 0 (n.fg.fU-1)||(booB (yd n.fg k) up||eqB (mU n.fg k up).fZ 0)
 .simp only[cond_false]
  have key:∀(i:Nat) d s' a,n.aj[i]?=ς d->(zD n.fg (mU n.fg k up) n.an.length 0 n.an)[i]?=ς s'->n.aT[i]?=ς a->∃s,n.an[i]?=ς s/\SI d s' a/\vF d s d s':=by
   intro i d s' a hd hs ha
   rcases o8 n.fg (mU n.fg k up) n.an.length 0 n.an i with q|⟨t,q1,q2⟩
   .rw[q] at hs;exact⟨s',hs,h.si i d s' a hd hs ha,vF.refl d s'⟩
   rw[q2] at hs;cases hs
   have hm:=hn.m i d t a hd q1 ha
   have st:=Ia (h.si i d t a hd q1 ha) hm.sg
   exact⟨t,q1,st.si,st.mo⟩
  refine⟨λi d s' a hd hs ha=>?_,λf hf d s' hd hs=>?_⟩
  .grind
  obtain⟨d',t,a,e1,e2,e3,hm⟩:=hn.at_ (i:=f.aY.toNat) (abb.1 hd).1
  obtain⟨s,g1,_,g2⟩:=key _ d s' a hd hs e3
  exact(h.fi f hf d s hd g1).mono g2
 exact h
theorem M7(hn:NP B n)(hB:B+10000<4611686018427387904)(h:PI n)(he:EP e)(hh:qY n e=ζ):PI (gO n e).2:=by
 rw[gO]
 split
 .rw[jp]
  cases hb:leB 100000 n.iS
  .simp only[cond_false]
   have hb:=xh hb
   have hl:=hn.ld
   have hnw:=hn.nw
   have h1:NP B {n with iS:=n.iS+1}:={hn with nw:=by grind}
   have p1:PI {n with iS:=n.iS+1}:=h.same rfl rfl rfl (λf hf=>hf)
   have p2:=Pe n.aj.length 0 h1 oaa p1
   have hnp:∀(c i:Nat) {B:Int} {n:ab},NP B n->B+c<4611686018427387904->NP (B+c) (em c i n):=by
    intro c
    induction c with
    |zero=>intro i B n hn _;simpa [em] using hn
    |succ c ih=>
     intro i B n hn hB
     rw[em]
     cases hd:n.aj[i]? with
     |none=>exact hn.mono oaa
     |some d=>
      obtain⟨d',s,a,e1,e2,e3,hm⟩:=hn.at_ (abb.1 hd).1
      rw[hd] at e1;cases e1
      exact(ih (i+1) (lV hn hd (nX d) (zZ hm.dp) hm.dc oaa) oaa).mono oaa
   have h2:=hnp n.aj.length 0 h1 oaa
   have hls:=h2.ls
   have hl2:=h2.ld
   exact Pj _ 0 h2 oaa p2
  exact h
 split
 .rw[qj]
  cases inR e.cq 0 ((n.aH.length:Int)-1)
  .exact h
  simp only[au]
  cases eqB e.bb 2
  .simp only[cond_false]
   cases eqB e.bb 3
   .simp only[cond_false]
    cases leB 200 (n.aH.length:Int)
    .simp only[cond_false]
     cases hf:n.aH[e.cq.toNat]? with
     |none=>exact h
     |some f=>exact h.send (h.fi f (abl hf))
    exact h
   exact(XN h _).same rfl rfl rfl (λf hf=>hf)
  exact yv hn h _
 split
 .exact own_PI hn h e
 split
 .rw[mL];cases !er n.cp e.cq||booB (oo n e.cq) (eqB e.bb 10)
  .exact h.same rfl rfl rfl (λf hf=>hf)
  exact h
 split
 .exact Wf hn h _ _
 split
 .rename_i h13
  rw[uY];cases hp:zE n e.b8
  .exact h
  refine h.send λd s hd hs=>?_
  rw[qY,h13,hp] at hh
  simp only[bj,afp,aen,adP,aep,decide_eq_true_eq] at hh
  rcases hh with⟨f,hf,rfl⟩|hh
  .exact h.fi _ hf d s hd hs
  rw[UT,hd,hs] at hh
  exact acH hh
 exact h
theorem new_PI{m:be}{rs:List a8}{b:Int}(hv:wZ rs=ζ):PI (iz m rs p b rs.length):=by
 refine⟨λi d s a hd hs ha=>?_,λf hf=>by simp[iz] at hf⟩
 obtain⟨hk,rfl⟩:=sV hd
 obtain⟨_,rfl⟩:=sV hs
 obtain⟨_,rfl⟩:=sV ha
 simp only[wZ,v0,eN] at hv
 have hr:=hv.1 i _ (aa9 hk)
 simp only[H2,v0] at hr
 have hq:=tf hr.1
 have hg:rs.getD i default=rs[i]:=SD (aa9 hk)
 refine⟨agH _,?_,λe=>?_,λe=>?_,?_,λe=>?_,λe=>?_,?_,λe=>?_,?_,?_,?_,?_,?_,?_⟩
 .simp only[nE];simp_all
 .simp[nE] at e
 .simp[nE] at e
 .simp only[nE];simp_all
 .simp[nE] at e
 .simp[nE] at e
 .simp only[sK];simp_all
 .simp[sK] at e
 .simp[sK]
 .simp[sK]
 .simp[sK,nE]
 .simp[nE]
 .simp[cX,nE,sK]
 rfl
theorem Reach.pi:∀{k:Nat} {n:ab},Reach k n->k<=1000000->PI n
 |_,_,.new h hm hp hl _,_=>new_PI h.2.2
 |_,_,.step h he hh,hk=>M7 (h.np oaa) oaa (h.pi oaa) he hh
theorem aaB{a:List Int}(ha:okB a)(hb:okB b):OR a b=decide (a=b):=Ua ha hb
def HS(d:aA)(s:ag):Bool:=decide (d.bm.bv<+:s.aC)
theorem ZU{xs ys:List bI}(hx:∀p∈xs,okB p.bh)(hy:∀p∈ys,okB p.bh)(hl:xs.length<=1000):vT xs ys=ς (decide (xs<+:ys)):=by
 rw[vT]
 cases hb:ltB (ys.length:Int) (xs.length:Int)
 .have hb:=ou hb
  have:=fL (L:=pH xs ys) xs (λk x=>decide (ys[k]?=ς x)) (ς ζ) oaa (λk x hx' hk=>by
   obtain⟨y,hy'⟩:∃y,ys[k]?=ς y:=⟨_,aa9 oaa⟩
   simp only[pH,cy hk,bB,hx',hy',eqb_i,aaB (hx x (abl hx')) (hy y (abl hy')),WRs (k:=k),dn,au]
   have e:decide (x.bh=y.bh)=decide (ς y=ς x):=by
    obtain⟨x⟩:=x;obtain⟨y⟩:=y
    simp only[Option.some.injEq,bI.mk.injEq]
    exact decide_eq_decide.2 ⟨Eq.symm,Eq.symm⟩
   simp_all) (by simp only[pH,bK,cond_false])
  rw[cond_false,this]
  have e:iI (λk x=>decide (ys[k]?=ς x)) xs=decide (xs<+:ys):=by
   rw[af0,eN,decide_eq_true_eq,List.prefix_iff_eq_take]
   constructor
   .intro h
    apply af8
    grind
   grind
  grind
 have hb:=kO hb
 grind
theorem HT:∀(c k fu:Nat) (l:List bI) (v:Int),l.length<=1000->k+c=l.length->c<fu->0<=v->v+60*c<=1000000->(∀p∈l,p.bh.length<=60)->iter (jj l) fu (v,(k:Int))=ς (v+((l.drop k).map λp=>(p.bh.length:Int)).sum)
 |0,k,fu,l,v,h6,h1,h2,h3,h4,h5=>by
  cases fu with
  |zero=>omega
  |succ fu=>
   rw[iter]
   simp only[jj,ltB_f.2 (show(l.length:Int)<=(k:Int) by omega),cond_false]
   simp_all
 |c+1,k,fu,l,v,h6,h1,h2,h3,h4,h5=>by
  cases fu with
  |zero=>omega
  |succ fu=>
   obtain⟨x,hx⟩:∃x,l[k]?=ς x:=⟨_,aa9 oaa⟩
   have hxl:=h5 x (abl hx)
   rw[iter]
   simp only[jj,cy (show k<l.length by omega),bB,hx,WRs (k:=k),bN (n:=v+(x.bh.length:Int)) oaa,au]
   rw[HT c (k+1) fu l _ h6 oaa oaa oaa oaa h5,ae0 (show k<l.length by omega)]
   grind
theorem acd(h:SP s)(k:Int):rV s k=ς (ea s.aC k.toNat):=by
 have hl:=h.sl
 rw[rV,Zg]
 simp only[afY,Tl]
 obtain⟨m,hm,hm2,hm3⟩:∃m:Nat,jS (yO k 0) (s.aC.length:Int)=(m:Int)/\m<=s.aC.length/\s.aC.take m=s.aC.take k.toNat:=by
  refine⟨min k.toNat s.aC.length,?_,Nat.min_le_right _ _,?_⟩
  .unfold jS yO;omega
  simp_all
 rw[hm,show eQ s.aC 0 (m:Int)=ζ by simp[eQ];omega]
 simp only[cond_true,afZ,lR]
 have:=HT (s.aC.take m).length 0 FU (s.aC.take m) 0 (by simp;omega) oaa (by have:=gH;simp;omega) oaa (by simp;omega) (λp hp=>h.sd p (aeo hp))
 rw[show iter (jj (s.aC.take m)) FU (0,0)=_ from this]
 simp only[afY,List.drop_zero,ea,hm3];simp_all
section
variable{B:Int}{n:ab}(h:NP B n){i:Nat}{d:aA}{s:ag}{a:av}(hd:n.aj[i]?=ς d)(hs:n.an[i]?=ς s)(ha:n.aT[i]?=ς a)
include h hd hs ha
omit hs ha in
theorem Qo:rA n (i:Int)=ς ζ/\pf n (i:Int)=ς true:=by
 have h1:=h.ls
 have h2:=h.la
 have h3:=h.ld
 have hi:=(abb.1 hd).1
 simp only[rA,pf,gE,bN (n:=(n.aj.length:Int)-1) oaa,bN (n:=(n.an.length:Int)-1) oaa,bN (n:=(n.aT.length:Int)-1) oaa,bE.2 (show(0:Int)<=(i:Int)/\(i:Int)<=(n.aj.length:Int)-1 by omega),bE.2 (show(0:Int)<=(i:Int)/\(i:Int)<=(n.an.length:Int)-1 by omega),bE.2 (show(0:Int)<=(i:Int)/\(i:Int)<=(n.aT.length:Int)-1 by omega),au]
 simp_all
theorem adf:ma n (i:Int)=ς (HS d s):=by
 obtain⟨e1,e2⟩:=Qo h hd
 have hm:=h.m i d s a hd hs ha
 have hr:=nQ.1 hm.dp.rc.v
 simp only[ma,e1,bB,hd,hs,ZU hm.dp.rc.b2 hm.sg.b1 (by have:=hr.l;omega),HS,au]
theorem JG:nZ n (i:Int)=ς (a.d9+s.bG.d6):=by
 obtain⟨e1,e2⟩:=Qo h hd
 have hm:=h.m i d s a hd hs ha
 have q1:=hm.sg.mo.acc.s
 have q2:=hm.sg.mo.acc.t
 have q3:=hm.sg.sp.q
 have q4:=q3.u
 have q5:=q3.g
 have q6:=q3.m
 simp only[nZ,e2,bB,ha,hs,bN (n:=a.d9+s.bG.d6) oaa,au]
theorem FW:f9 s=ς (cX s.ax):=by
 have hm:=h.m i d s a hd hs ha
 have hn:=hm.sg.sp.win.n
 have hl:=hm.sg.sp.win.l
 rw[f9,bN (n:=s.ax.bw-1) oaa,bN oaa];rfl
theorem once_i:kt n (i:Int)=ς (eqB (a.d9+s.bG.d6) (ea s.aC (cX s.ax).toNat)):=by
 obtain⟨e1,e2⟩:=Qo h hd
 have hm:=h.m i d s a hd hs ha
 simp only[kt,e2,JG h hd hs ha,FW h hd hs ha,acd hm.sg.sp,bB,hs,au]
theorem aeg:gq n (i:Int)=ς (leB (cX s.ax) (d.bm.bv.length:Int)):=by
 obtain⟨e1,e2⟩:=Qo h hd
 simp only[gq,e1,FW h hd hs ha,bB,hs,hd,au]
end
def audB(n:ab)(i:Nat)(d:aA):Bool:=match n.an[i]?,n.aT[i]? with
 |some s,ς a=>HS d s&&(eqB (a.d9+s.bG.d6) (ea s.aC (cX s.ax).toNat)&&leB (cX s.ax) (d.bm.bv.length:Int))
 |_,_=>ζ
theorem XB(h:NP B n):Cr n=ς (iI (audB n) n.aj):=by
 have hl:=h.ld
 simp only[Cr,EE h.okN,h.vn,au]
 have:=fL (L:=Bi n) n.aj (audB n) (ς ζ) oaa (λk d hd hk=>by
  obtain⟨d',s,a,e1,e2,e3,hm⟩:=h.at_ hk
  rw[hd] at e1;cases e1
  simp only[Bi,cy hk,adf h hd e2 e3,once_i h hd e2 e3,aeg h hd e2 e3,WRs (k:=k),audB,e2,e3,au]
  cases HS d s<;>cases eqB (a.d9+s.bG.d6) (ea s.aC (cX s.ax).toNat)<;>cases leB (cX s.ax) (d.bm.bv.length:Int)<;>rfl) (by simp only[Bi,bK,cond_false])
 grind
theorem Gz(h:NP B n)(p:PI n):Cr n=ς true:=by
 rw[XB h]
 congr 1
 refine eN.2 λi d hd=>?_
 obtain⟨d',s,a,e1,e2,e3,hm⟩:=h.at_ (abb.1 hd).1
 rw[hd] at e1;cases e1
 have si:=p.si i d s a hd e2 e3
 have hr:=nQ.1 hm.dp.rc.v
 have hak:=si.ak
 have hn:=hr.n
 simp only[audB,e2,e3,HS,v0,decide_eq_true_eq,eqB_t,leB_t]
 exact⟨si.pr,si.ch,by omega⟩
def kP(k:Int):Nat:=if k=1 then 4 else if k=2\/k=7 then 3 else if k=3\/k=5 then 2 else 1
def wfl(f:bg):Nat:=if f.cg then 2 else kP f.aP.bb
def py(l:List bg):Nat:=(l.map wfl).sum
theorem wk_in(k:Int):1<=kP k/\kP k<=4:=by unfold kP;grind
theorem abj(f:bg):1<=wfl f/\wfl f<=4:=by
 unfold wfl;split
 .omega
 exact wk_in _
theorem IS(a b:List bg):py (a++b)=py a+py b:=by simp[py]
theorem Vz(n:ab)(f:bg):py (eh n f).aH<=py n.aH+wfl f:=by
 rw[eh]
 cases leB 200 (n.aH.length:Int)
 .simp only[cond_false];rw[IS];simp[py]
 simp_all
theorem Ga:∀(l:List bg) (n:ab),py (sends n l).aH<=py n.aH+py l
 |[],n=>by simp[sends,py]
 |f::l,n=>by
  have h1:=Vz n f
  have h2:=Ga l (eh n f)
  have e:py (f::l)=wfl f+py l:=by simp[py]
  rw[show sends n (f::l)=sends (eh n f) l from rfl,e];omega
theorem cut_w(hf:n.aH[k]?=ς f):py (ez n k).aH+wfl f=py n.aH:=by
 obtain⟨hk,e⟩:=abb.1 hf
 have h:n.aH=n.aH.take k++f::n.aH.drop (k+1):=by
  rw[<-e,<-ae0 hk,afG]
 have h2:py n.aH=py (n.aH.take k)+(wfl f+py (n.aH.drop (k+1))):=by
  conv=>lhs;rw[h]
  rw[IS];simp[py]
 simp only[ez];rw[IS,h2];omega
theorem ZJ{l:List aG}{i:Int}{up:Bool}{b:Nat}(hl:l.length<=1)(h:∀m∈l,kP m.bb<=b):py (l.map (cM i up))<=b:=by
 rcases l with _|⟨m,_|⟨x,l⟩⟩
 .exact ac7 _
 .have h1:=h m (by simp)
  have h2:py (List.map (cM i up) [m])=kP m.bb:=by
   show wfl (cM i up m)+0=_
   rw[Nat.add_zero,wfl,if_neg (by simp[cM])];rfl
  omega
 simp at hl
theorem XU{d:aA}:∀x∈(lA d).bY,kP x.bb<=2:=by simp[lA,eW,lN,kP]
theorem dSig_w(d:aA)(m:aG):∀x∈(iU d m).bY,kP x.bb+1<=kP m.bb:=by
 rw[iU]
 cases !eS m||(!eqB m.aS d.aS||eqB d.aX 0)
 .simp only[cond_false]
  cases h2:eqB m.bb 2&&eqB d.aX 1
  .simp only[cond_false]
   cases eqB m.bb 4&&(eqB d.aX 1&&(o7 d.aZ&&(eqB m.ae d.ae&&mr d.aZ m)))
   .simp only[cond_false]
    cases eqB m.bb 6&&(eqB d.aX 2&&(eqB m.ae d.ae&&(eqB m.aK d.aK&&mr d.aZ m)))
    .simp only[cond_false]
     cases h7:eqB m.bb 7&&(eqB d.aX 3&&ltB d.aK 999999)
     .simp only[cond_false]
      cases h8:eqB m.bb 7&&eqB d.aX 2
      .simp
      rw[v0] at h8
      intro x hx
      have:=XU x hx
      have e:=gj h8.1
      rw[e,show kP 7=3 from by simp[kP]];omega
     rw[v0] at h7
     intro x hx
     have:=XU x hx
     have e:=gj h7.1
     rw[e,show kP 7=3 from by simp[kP]];omega
    simp
   simp
  rw[v0] at h2
  have e:=gj h2.1
  simp only[cond_true,zY]
  cases eqB (kL d.dq.eV d.dq.dh m.bZ) 0
  .simp
  simp[kP,e]
 simp
theorem dRad_w(d:aA)(x:aF):∀m∈(kq d x).bY,kP m.bb<=1:=by
 simp only[kq]
 cases eqB d.aX 2&&(mM d.aZ d.ae d.aK x).2
 .simp
 simp[vH,lN,kP]
theorem sUp_w(s:ag)(m:aG):∀x∈(sUp s m).bY,kP x.bb+1<=kP m.bb:=by
 rw[sUp]
 cases eS m
 .simp
 simp only[au]
 cases h1:eqB m.bb 1
 .cases h3:eqB m.bb 3
  .cases h5:eqB m.bb 5
   .cases h8:eqB m.bb 8
    .simp
    simp only[vL,au]
    grind
   have e:=gj h5
   simp only[mS,au]
   cases !gx s m||(ltB m.aK s.aK||(eqB m.aK s.aK&&!eqB m.aS s.aS))
   .simp[lr,lN,kP,e]
   simp
  have e:=gj h3
  simp only[rf,au]
  cases leB s.bA 0||(!eqB m.ae s.bA||(!eqB m.bP s.aV.vB||leB 999999 s.aK))
  .simp[lr,lN,kP,e]
  simp
 have e:=gj h1
 simp only[cond_true,zM]
 cases eqB s.bD.cH 999999
 .simp[kP,e]
 simp
theorem UO(hk:k<n.aH.length):py (dS n k).aH+1<=py n.aH:=by
 obtain⟨f,hf⟩:∃f,n.aH[k]?=ς f:=⟨_,aa9 hk⟩
 have hc:=cut_w hf
 have hw:=abj f
 rw[dS,hf]
 simp only
 cases oo (ez n k) f.aS
 .simp only[Jl,au];omega
 simp only[au]
 cases hu:f.dF
 .simp only[cond_false]
  cases hd:(ez n k).aj[f.aY.toNat]? with
  |none=>grind
  |some d=>
   simp only
   cases eqB d.aS f.aS
   .simp only[Jl,au];omega
   simp only[au]
   cases hr:f.cg
   .have hwf:wfl f=kP f.aP.bb:=by simp[wfl,hr]
    simp only[cond_false,dY]
    have h1:=Ga ((iU d f.aP).bY.map (cM (f.aY.toNat:Nat) ζ)) {ez n k with aj:=(ez n k).aj.set f.aY.toNat (iU d f.aP).aY}
    have h2:=ZJ (i:=(f.aY.toNat:Int)) (up:=ζ) (Bc d f.aP).len (b:=kP f.aP.bb-1) (λm hm=>by have:=dSig_w d f.aP m hm;omega)
    grind
   have hwf:wfl f=2:=by simp[wfl,hr]
   simp only[cond_true,dY]
   have h1:=Ga ((kq d f.bV).bY.map (cM (f.aY.toNat:Nat) ζ)) {ez n k with aj:=(ez n k).aj.set f.aY.toNat (kq d f.bV).aY}
   have h2:=ZJ (i:=(f.aY.toNat:Int)) (up:=ζ) (Bb d f.bV).len (b:=1) (dRad_w d f.bV)
   grind
 simp only[cond_true]
 cases hr:f.cg||!eqB f.aP.aS f.aS
 .simp only[cond_false]
  simp only[adi] at hr
  have hwf:wfl f=kP f.aP.bb:=by simp[wfl,hr.1]
  cases hs:(ez n k).an[f.aY.toNat]? with
  |none=>grind
  |some s=>
   simp only[tu]
   have h1:=Ga ((sUp s f.aP).bY.map (cM (f.aY.toNat:Nat) η)) {ez n k with an:=(ez n k).an.set f.aY.toNat (sUp s f.aP).aM}
   have h2:=ZJ (i:=(f.aY.toNat:Int)) (up:=η) (In s f.aP).len (b:=kP f.aP.bb-1) (λm hm=>by have:=sUp_w s f.aP m hm;omega)
   grind
 grind
theorem aeh(l:List bg):py l<=4*l.length:=by
 induction l with
 |nil=>simp[py]
 |cons f l ih=>have:=(abj f).2;simp only[py,ael,agO,aee] at ih ⊢;omega
theorem Fb{l:List bI}:∀{j k:Nat},j<=k->ea l j<=ea l k:=by
 intro j k h
 obtain⟨m,rfl⟩:∃m,k=j+m:=⟨k-j,by omega⟩
 clear h
 induction m with
 |zero=>exact agH _
 |succ m ih=>
  refine agI ih ?_
  rw[<-agT]
  by_cases hk:j+m<l.length
  .rw[zW (aa9 hk)];omega
  simp only[ea]
  rw[agd oaa,agd oaa];exact agH _
theorem JE(l:List bI)(k:Nat):0<=ea l k:=by
 have:=Fb (l:=l) (ac7 k)
 simpa [ea] using this
structure Paid(d:aA)(s:ag)(a:av):Prop where
 le:d.bm.bv.length<=s.aC.length
 eq:s.aC.take d.bm.bv.length=d.bm.bv
 ch:a.d9+s.bG.d6<=ea s.aC d.bm.bv.length
 to:a.d9+s.bG.d6<=a.iA
theorem Mw{xs:List Int}(hl:xs.length<=1048576){m:Int}(hm:3<=m/\m<=900):∃r,BA xs m=ς r/\3<=r/\r<=m:=by
 have h0:0<=agM (xs.length:Int) 12/\agM (xs.length:Int) 12<=1048576:=by
  rw[Int.tdiv_eq_ediv_of_nonneg oaa];omega
 rw[BA]
 rw[bN (n:=agM (xs.length:Int) 12) oaa,bN (n:=3+agM (xs.length:Int) 12) oaa]
 cases hb:ltB m (3+agM (xs.length:Int) 12)
 .have:=ou hb;grind
 simp_all
structure Ut(n:ab):Prop where
 np:∃B:Int,NP B n/\B<=100000000
 pi:PI n
 dl:1<=n.aj.length/\n.aj.length<=3
 re:∃k,Reach k n/\k<=200
 ru:∃k,Gp k n/\k<=200
theorem RN.good{B:Nat}(h:RN B l n)(hB:B<=200)(hl:1<=l/\l<=3):Ut n:=by
 obtain⟨k,h1,h2,h3⟩:=h
 exact⟨⟨_,h1.re.np oaa,by omega⟩,h1.re.pi oaa,by omega,⟨k,h1.re,by omega⟩,k,h1,by omega⟩
theorem wRunG{xs:List Int}(hl:xs.length<=1048576)(hu:∀x∈xs,xJ x){c:bu}(hc:dM c){a m:Int}(ha:0<=a/\a<=90)(hm:3<=m/\m<=60){r:Int}(hr:BA xs m=ς r):
 Wp (BE c (WR (a+r))) (λr=>dM r.2.2.2/\Ut r.1/\Ut r.2.2.1/\r.2.1.length<=160/\∀e∈r.2.1,EP e):=by
 obtain⟨r',h1,h2,h3⟩:=Mw hl (m:=m) oaa
 rw[hr] at h1;cases h1
 rw[bN (n:=a+r) oaa]
 refine Wp.mono (w33Run hc oaa) λx hx=>?_
 obtain⟨g1,l,g2,g3,g4,g5,g6⟩:=hx
 exact⟨g1,g3.good oaa g2,g4.good oaa g2,g5,g6⟩
theorem ML{xs:List Int}(hl:xs.length<=1048576)(hu:∀x∈xs,xJ x):Wp (tZ xs) Ut:=by
 unfold tZ
 obtain⟨c,e,hc,_⟩:=Zy hl hu
 obtain⟨r,h1,_,_⟩:=Mw hl (m:=50) oaa
 refine Wp.eq e (Wp.eq h1 ?_)
 unfold A0
 exact Wp.call (P:=λr=>Ut r.1) (Wp.call (wRunG hl hu hc (a:=40) (m:=50) oaa oaa h1) λx hx=>Wp.some hx.2.2.1) λx hx=>Wp.some hx
def mz:Nat->ab->ab
 |0,n=>n
 |c+1,n=>bif eqB (n.aH.length:Int) 0 then n else mz c (dS n 0)
theorem abo{l:List bg}(h:l≠[]):1<=py l:=by
 cases l with
 |nil=>simp_all
 |cons f l=>have:=(abj f).1;simp only[py,ael,agO];omega
theorem GR:∀(c:Nat) (n:ab),py n.aH<=c->(mz c n).aH=[]
 |0,n,h=>by
  by_cases e:n.aH=[]
  .exact e
  have:=abo e;omega
 |c+1,n,h=>by
  rw[mz]
  cases hb:eqB (n.aH.length:Int) 0
  .have hb:=Jc hb
   have:=UO (n:=n) (k:=0) oaa
   exact GR c _ oaa
  simp_all
theorem Lj:∀(c:Nat) {B:Int} {n:ab},NP B n->B+c<4611686018427387904->NP (B+c) (mz c n)
 |0,B,n,h,_=>by simpa [mz] using h
 |c+1,B,n,h,hB=>by
  rw[mz]
  cases eqB (n.aH.length:Int) 0
  .have:=Lj c (oS h 0 oaa) oaa
   grind
  exact h.mono oaa
theorem Sk:∀(c:Nat) {B:Int} {n:ab},NP B n->B+c<4611686018427387904->PI n->PI (mz c n)
 |0,B,n,_,_,p=>p
 |c+1,B,n,h,hB,p=>by
  rw[mz]
  cases eqB (n.aH.length:Int) 0
  .exact Sk c (oS h 0 oaa) oaa (yv h p 0)
  exact p
theorem Fq(h:NP B n){c:Nat}(hc:800<=c):(mz c n).aH=[]:=
 GR c n (by have:=aeh n.aH;have:=h.fl;omega)
theorem Kh:∀(c k fu:Nat) (m:Nat) {B:Int} {n:ab},NP B n->B+c<4611686018427387904->k+c=m->m<=4000->c<fu->iter (kD (m:Int)) fu ((k:Int),n)=ς (mz c n)
 |0,k,fu,m,B,n,h,hB,h1,h2,h3=>by
  cases fu with
  |zero=>omega
  |succ fu=>rw[iter];simp only[kD,ltB_f.2 (show(m:Int)<=(k:Int) by omega),mz,au]
 |c+1,k,fu,m,B,n,h,hB,h1,h2,h3=>by
  cases fu with
  |zero=>omega
  |succ fu=>
   rw[iter,mz]
   simp only[kD,ltB_t.2 (show(k:Int)<(m:Int) by omega),au]
   by_cases e:n.aH.length=0
   .simp_all
   rw[ltB_t.2 (show(0:Int)<(n.aH.length:Int) by omega),eqB_f.2 (show(n.aH.length:Int)≠0 by omega)]
   have hd:=JP h (k:=0) oaa
   simp only[au]
   rw[show(0:Int)=((0:Nat):Int) from rfl,hd]
   simp only[afY,WRs (k:=k)]
   exact Kh c (k+1) fu m (oS h 0 oaa) oaa oaa h2 oaa
theorem adh(h:NP B n)(hB:B+4000<4611686018427387904):sj n 4000=ς (mz 4000 n):=by
 have:=Kh 4000 0 FU 4000 h oaa oaa oaa (by have:=gH;omega)
 rw[sj,show iter (kD 4000) FU (0,n)=_ from this];rfl
def ei(n:ab):ab:=mz 4000 (jp n).2
def gz:Nat->ab->ab
 |0,n=>n
 |c+1,n=>gz c (ei n)
theorem Vk(h:NP B n)(hB:B+14000<4611686018427387904):NP (B+14000) (ei n):=
 (Lj 4000 (ux h oaa).2.2 oaa).mono oaa
theorem H6:∀(c k fu:Nat) (m:Nat) {B:Int} {n:ab},NP B n->B+14000*c<4611686018427387904->k+c=m->m<=200->c<fu->iter (yE (m:Int)) fu ((k:Int),n)=ς (gz c n)
 |0,k,fu,m,B,n,h,hB,h1,h2,h3=>by
  cases fu with
  |zero=>omega
  |succ fu=>rw[iter];simp only[yE,ltB_f.2 (show(m:Int)<=(k:Int) by omega),cond_false,gz]
 |c+1,k,fu,m,B,n,h,hB,h1,h2,h3=>by
  cases fu with
  |zero=>omega
  |succ fu=>
   have ht:=ux h oaa
   rw[iter,gz]
   simp only[yE,ltB_t.2 (show(k:Int)<(m:Int) by omega),ht.2.1,adh ht.2.2 oaa,WRs (k:=k),au]
   exact H6 c (k+1) fu m (Vk h oaa) oaa oaa h2 oaa
theorem OJ(h:NP B n){m:Nat}(hm:m<=200)(hB:B+14000*m<4611686018427387904):Bk n (m:Int)=ς (gz m n):=by
 have:=H6 m 0 FU m h hB oaa hm (by have:=gH;omega)
 simp only[Bk,Zx h.okN,EE h.okN,h.vn,gE,bE.2 (show(0:Int)<=(m:Int)/\(m:Int)<=200 by omega),au]
 simp_all
def rootAt(r:a8)(g:Int):Int:=if g=0 then 0 else As r g
def RadS(s:ag)(x:aF):Prop:=Ed s x\/zp (rootAt s.bD x.ae) x=η
structure PR(n:ab):Prop where
 dz:∀d∈n.aj,d.ae=0->d.aZ=0
 sz:∀s∈n.an,s.ae=0->s.aZ=0
 rd:∀f∈n.aH,f.cg=ζ->f.dF=η/\∀s,n.an[f.aY.toNat]?=ς s->RadS s f.bV
section
variable{B:Int}{n:ab}(hn:NP B n)(h:PR n){i:Nat}{d:aA}{s:ag}{a:av}(hd:n.aj[i]?=ς d)(hs:n.an[i]?=ς s)(ha:n.aT[i]?=ς a)
include hn h hd hs ha
end
section
variable{B:Int}{n:ab}(hn:NP B n)(p:PI n)(h:PR n){i:Nat}{s:ag}(hs:n.an[i]?=ς s)
include hn p h hs
end
theorem Do{ρ:Type}{L:Int->Option (cj Int ρ)}(xs:List α)(f:ρ){c:Option ρ}(hl:xs.length<=9223372036854775806)(hs:∀(k:Nat) (x:α),xs[k]?=ς x->k<xs.length->L (k:Int)=ς (.next ((k+1:Nat):Int)))(he:L (xs.length:Int)=dn c):iter L FU 0=c:=by
 have:=my (L:=L) xs (λ_ _=>ζ) f c hl (λk x hx hk=>by rw[hs k x hx hk];rfl) he
 rw[this,Eh];rfl
structure LI(K:Int)(d:aA)(s:ag):Prop where
 de:d.aK<=K
 se:s.aK<=K
 sd:s.ae<=d.ae
 cn:2<=d.aX->s.aX=1/\s.ae=d.ae/\0<d.ae/\s.aK<=d.aK
 cc:d.aX=2->s.aK=d.aK->s.aS=d.aS
 pc:d.aX=2->d.bT=ζ->s.aK=d.aK
def R5(K:Int)(d:aA)(m:aG):Prop:=m.aK<=K/\(m.ae<d.ae\/(m.ae=d.ae/\2<=d.aX/\m.aK<=d.aK/\(d.aX=2->m.aK=d.aK->m.aS=d.aS)))
def PL(d:aA)(m:aG):Prop:=m.ae<d.ae\/(m.ae=d.ae/\mr d.aZ m=η)
def AccG(K:Int)(d:aA)(s:ag)(m:aG):Prop:=
 m.aK<=K/\0<m.ae/\(m.ae<s.ae\/(m.ae=s.ae/\s.aX=1/\(d.aX<=1->d.ae=s.ae->s.aK=m.aK/\s.aS=m.aS)))
def PakG(s:ag)(m:aG):Prop:=m.ae<s.ae\/(m.ae=s.ae/\m.aK<=s.aK)
def Xh(s:ag)(m:aG):Prop:=m.ae<=s.bD.cH/\(0<s.bA->m.ae≠s.bA\/m.bP≠s.aV.vB)
structure LF(K:Int)(d:aA)(s:ag)(f:bg):Prop where
 pa:f.dF=ζ->f.cg=η->f.aP.bb=5->Gl s f.aP\/R5 K d f.aP
 re:f.dF=ζ->f.cg=η->f.aP.bb=3->Xh s f.aP\/f.aP.ae<=d.ae
 ac:f.dF=η->f.cg=η->f.aP.bb=4->PL d f.aP\/AccG K d s f.aP
 ka:f.dF=η->f.cg=η->f.aP.bb=6->PL d f.aP\/PakG s f.aP
theorem LI.up{K':Int}{d:aA}(h:LI K d s)(hk:K<=K'):LI K' d s:=⟨agI h.de hk,agI h.se hk,h.sd,h.cn,h.cc,h.pc⟩
theorem LF.up{K':Int}{d:aA}(h:LF K d s f)(hk:K<=K'):LF K' d s f:=
 ⟨λa b c=>(h.pa a b c).imp_right λq=>⟨agI q.1 hk,q.2⟩,h.re,λa b c=>(h.ac a b c).imp_right λq=>⟨agI q.1 hk,q.2⟩,h.ka⟩
theorem Gl.mo{d d':aA}{s s':ag}{m:aG}(h:Gl s m)(mo:vF d s d' s'):Gl s' m:=by
 rcases mo.sg with g|⟨g1,g2⟩
 .left;rcases h with q|q<;>omega
 rcases h with q|q
 .left;omega
 right;simp_all
theorem PL.mo{d d':aA}{s s':ag}{m:aG}(h:PL d m)(mo:vF d s d' s'):PL d' m:=by
 rcases mo.dg with g|⟨g1,g2⟩
 .left;rcases h with q|q<;>omega
 rcases h with q|q
 .left;omega
 right;simp_all
structure Xd(d d':aA)(s:ag):Prop where
 mo:vF d s d' s
 pa:d.ae<d'.ae\/(2<=d.aX->2<=d'.aX/\d.aK<=d'.aK/\(d'.aX=2->d'.aK=d.aK->d.aX=2/\d'.aS=d.aS))
 ac:d'.aX<=1->d'.ae=s.ae->d.aX<=1/\d.ae=s.ae
theorem LF.dev{d:aA}(h:LF K d s f)(k:Xd d d' s):LF K d' s f:=by
 refine⟨λa b c=>(h.pa a b c).imp_right λq=>?_,λa b c=>(h.re a b c).imp_right λq=>?_,λa b c=>?_,λa b c=>(h.ka a b c).imp_left λq=>q.mo k.mo⟩
 .refine⟨q.1,?_⟩
  rcases k.pa with g|g
  .left;rcases q.2 with q|q<;>omega
  rcases k.mo.dg with e|⟨e1,e2⟩
  .left;rcases q.2 with q|q<;>omega
  rcases q.2 with q|⟨q1,q2,q3,q4⟩
  .left;omega
  omega
 .rcases k.mo.dg with e|⟨e1,e2⟩<;>omega
 rcases h.ac a b c with q|q
 .exact .inl (q.mo k.mo)
 right
 refine⟨q.1,q.2.1,q.2.2.imp_right λr=>⟨r.1,r.2.1,λx y=>?_⟩⟩
 have:=k.ac x y
 omega
structure SesK(d:aA)(s s':ag):Prop where
 mo:vF d s d s'
 ac:s.ae<s'.ae\/(s'.ae=s.ae/\(s.aX=1->s'.aX=1)/\s.aK<=s'.aK/\(d.aX<=1->d.ae=s.ae->s'.aK=s.aK/\s'.aS=s.aS))
 rb:0<s'.bA->s.bD.cH<s'.bA\/(s'.bA=s.bA/\s'.aV=s.aV)
theorem LF.ses{d:aA}(h:LF K d s f)(k:SesK d s s'):LF K d s' f:=by
 refine⟨λa b c=>(h.pa a b c).imp_left λq=>q.mo k.mo,λa b c=>(h.re a b c).imp_left λq=>?_,λa b c=>(h.ac a b c).imp_right λq=>⟨q.1,q.2.1,?_⟩,λa b c=>(h.ka a b c).imp_right λq=>?_⟩
 .refine⟨agI q.1 k.mo.rs,λhp=>?_⟩
  rcases k.rb hp with g|⟨g1,g2⟩
  .left;have:=q.1;omega
  rw[g1,g2];exact q.2 oaa
 .rcases k.ac with g|⟨g1,g2,g4,g3⟩
  .left;rcases q.2.2 with q|q<;>omega
  rcases q.2.2 with q|⟨q1,q2,q3⟩
  .left;omega
  omega
 rcases k.ac with g|⟨g1,g2,g4,g3⟩
 .left;rcases q with q|q<;>omega
 rcases q with q|q
 .left;omega
 right;omega
structure FE(K:Int)(d:aA)(s:ag)(r:bi):Prop where
 li:LI (K+1) r.aY s
 k:Xd d r.aY s
 sg:∀m∈r.bY,(m.bb=5->R5 (K+1) r.aY m)/\(m.bb=3->m.ae<=r.aY.ae)
section
variable{K:Int}{d:aA}{s:ag}{a:av}
theorem Xd.keep(mo:vF d s d' s)(h1:d'.aX=d.aX)(h2:d'.aK=d.aK)(h3:d'.ae=d.ae)(h4:d.aX=2->d'.aS=d.aS):Xd d d' s:=
 ⟨mo,.inr λh=>⟨by omega,by omega,λx _=>⟨by omega,h4 oaa⟩⟩,λh e=>⟨by omega,by omega⟩⟩
theorem LI.keepD(h:LI K d s)(h1:d'.aX=d.aX)(h2:d'.aK=d.aK)(h3:d'.ae=d.ae)(h4:d.aX=2->d'.aS=d.aS)(h5:d'.bT=ζ->d.bT=ζ):LI K d' s:=
 ⟨by rw[h2];exact h.de,h.se,by rw[h3];exact h.sd,λe=>by rw[h2,h3];exact h.cn oaa,λe x=>by rw[h4 oaa];exact h.cc oaa oaa,λe x=>by rw[h2];exact h.pc oaa (h5 x)⟩
variable(h:LI K d s)(si:SI d s a)
include h si
omit si in
theorem rE(mo:vF d s r.aY s)(h1:r.aY.aX=d.aX)(h2:r.aY.aK=d.aK)(h3:r.aY.ae=d.ae)(h4:d.aX=2->r.aY.aS=d.aS)(h5:r.aY.bT=ζ->d.bT=ζ)(hs:∀m∈r.bY,m.bb≠3/\(m.bb=5->2<=d.aX/\m.ae=d.ae/\m.aK=d.aK/\m.aS=r.aY.aS)):FE K d s r:=
 ⟨(h.keepD h1 h2 h3 h4 h5).up oaa,.keep mo h1 h2 h3 h4,λm hm=>⟨λe=>by
  obtain⟨q1,q2,q3,q4⟩:=(hs m hm).2 e
  have:=h.de
  exact⟨by omega,.inr ⟨by omega,by omega,by omega,λ_ _=>q4⟩⟩,λe=>absurd e (hs m hm).1⟩⟩
omit si in
theorem pm:FE K d s ⟨d,[]⟩:=rE h (vF.refl d s) rfl rfl rfl (λ_=>rfl) (λx=>x) (by simp)
theorem Xt(h2:2<=d.aX):FE K d s (lA d):=rE h (Gw si rfl rfl rfl rfl).mo rfl rfl rfl (λ_=>rfl) (λx=>by simp[lA] at x) (by simp[lA,eW,lN];exact h2)
theorem Kd{c st:Int}(h2:2<=d.aX)(hst:2<=st):FE K d s (lA {d with aX:=st,aS:=c,aK:=d.aK+1}):=by
 have hc:=h.cn h2
 have hde:=h.de
 refine⟨⟨by simp only[lA];omega,by omega,h.sd,λ_=>⟨hc.1,hc.2.1,hc.2.2.1,by simp only[lA];omega⟩,λ_ x=>by simp only[lA] at x;omega,λ_ x=>by simp[lA] at x⟩,⟨(Gw (d':={d with aX:=st,aS:=c,aK:=d.aK+1}) si rfl rfl rfl rfl).mo,.inr λ_=>⟨hst,by simp only[lA];omega,λ_ x=>by simp only[lA] at x;omega⟩,λe=>by simp only[lA] at e;omega⟩,λm hm=>?_⟩
 simp only[lA,afn] at hm;subst hm
 exact⟨λ_=>⟨by simp only[eW,lN];omega,.inr ⟨rfl,hst,agH _,λ_ _=>rfl⟩⟩,λe=>by simp[eW,lN] at e⟩
theorem P7:FE K d s (ef d):=by
 have st:=GT (a:=a) (s:=s) (d:=d) si
 rw[ef] at st ⊢
 revert st
 cases ltB 0 d.dy
 .simp only[cond_false]
  cases h1:eqB d.aX 1
  .simp only[cond_false]
   cases h2:eqB d.aX 2&&!d.bT
   .intro st;exact pm h
   intro st
   rw[v0] at h2
   have:=gj h2.1
   exact rE h st.mo rfl rfl rfl (λ_=>rfl) (λx=>x) (by simp[eW,lN];omega)
  intro st;exact rE h st.mo rfl rfl rfl (λ_=>rfl) (λx=>x) (by simp[iY])
 intro st;exact rE h st.mo rfl rfl rfl (λ_=>rfl) (λx=>x) (by simp)
theorem XY:FE K d s (dOn d):=by
 have st:=XX (a:=a) (s:=s) (d:=d) si
 rw[dOn] at st ⊢
 revert st
 cases h0:eqB d.aX 0
 .intro st;exact pm h
 intro st
 have h0:=gj h0
 refine⟨⟨by have:=h.de;grind,by have:=h.se;omega,h.sd,λe=>by simp at e,λe=>by simp at e,λe=>by simp at e⟩,⟨st.mo,.inr λe=>by omega,λ_ e=>⟨by omega,e⟩⟩,λm hm=>?_⟩
 simp only[cond_true,afn] at hm;subst hm
 exact⟨λe=>by simp[iY] at e,λe=>by simp[iY] at e⟩
theorem P5(hK:K<999999)(c:Int):FE K d s (sJ d c):=by
 have st:=No (a:=a) (s:=s) (d:=d) si c
 rw[sJ] at st ⊢
 revert st
 cases eqB c d.aS||!inR c 0 5
 .simp only[cond_false]
  cases h2:eqB d.aX 2&&ltB d.aK 999999
  .intro st
   have hn:d.aX≠2:=λe=>by
    have:=h.de
    rw[e,bj,af6] at h2
    have:=ou h2
    omega
   exact rE h st.mo rfl rfl rfl (λe=>absurd e hn) (λx=>x) (by simp)
  intro st
  rw[v0] at h2
  have:=gj h2.1
  exact Kd h si (c:=c) (st:=d.aX) oaa oaa
 intro st;exact pm h
theorem UH(hk:d.dq.eV=s.bD.eV)(hr:s.bD.cH<=999999)(h1:d.aX=1)(hf:Ur s m\/Uq d m):FE K d s (zY d m):=by
 have st:=Sl si hk hr hf
 rw[zY] at st ⊢
 revert st
 cases hv:eqB (kL d.dq.eV d.dq.dh m.bZ) 0
 .intro st;exact pm h
 intro st
 have hv:=gj hv
 simp only[cond_true] at st ⊢
 have hlt:d.ae<m.ae:=by
  rcases hf with⟨q,q1,q2,q3⟩|q
  .have hq:inR q 0 999999=true:=bE.2 oaa
   rw[q3,hk,E8 oaa oaa] at hv
   have hg:=si.dg
   omega
  rcases q with q|q<;>omega
 have hsd:=h.sd
 refine⟨⟨by have:=h.de;grind,by have:=h.se;omega,by grind,λe=>by simp_all,λe=>by simp_all,λe=>by simp_all⟩,⟨st.mo,.inl hlt,λ_ e=>by grind⟩,λx hx=>?_⟩
 simp_all
theorem UK(hk:d.dq.eV=s.bD.eV)(hr:s.bD.cH<=999999)(hf:m.bb=2->Ur s m\/Uq d m)(ha:m.bb=4->PL d m\/AccG K d s m)(h6':m.bb=6->PL d m\/PakG s m):FE K d s (iU d m):=by
 have st:=Sn si hk hr hf
 rw[iU] at st ⊢
 revert st
 cases h0:!eS m||(!eqB m.aS d.aS||eqB d.aX 0)
 .simp only[cond_false]
  simp only[adi,af5] at h0
  have hce:=gj h0.2.1
  cases h2:eqB m.bb 2&&eqB d.aX 1
  .simp only[cond_false]
   cases h4:eqB m.bb 4&&(eqB d.aX 1&&(o7 d.aZ&&(eqB m.ae d.ae&&mr d.aZ m)))
   .simp only[cond_false]
    cases h6:eqB m.bb 6&&(eqB d.aX 2&&(eqB m.ae d.ae&&(eqB m.aK d.aK&&mr d.aZ m)))
    .simp only[cond_false]
     cases h7:eqB m.bb 7&&(eqB d.aX 3&&ltB d.aK 999999)
     .simp only[cond_false]
      cases h8:eqB m.bb 7&&eqB d.aX 2
      .intro st;exact pm h
      intro st
      rw[v0] at h8
      have:=gj h8.2
      exact Xt h si oaa
     intro st
     simp only[v0] at h7
     have:=gj h7.2.1
     exact Kd h si (c:=d.aS) (st:=2) oaa oaa
    intro st
    simp only[v0] at h6
    obtain⟨g1,g2,g3,g4,g5⟩:=h6
    have g1:=gj g1
    have g2:=gj g2
    have g3:=gj g3
    have g4:=gj g4
    have hc:=h.cn oaa
    have heq:s.aK=d.aK:=by
     rcases h6' g1 with q|q
     .exfalso;rcases q with q|⟨_,q⟩
      .omega
      simp_all
     rcases q with q|q<;>omega
    simp only[cond_true] at st ⊢
    exact⟨⟨by have:=h.de;grind,by have:=h.se;omega,h.sd,h.cn,h.cc,λ_ _=>heq⟩,.keep st.mo rfl rfl rfl (λ_=>rfl),by simp⟩
   intro st
   simp only[v0] at h4
   obtain⟨g1,g2,g3,g4,g5⟩:=h4
   have g1:=gj g1
   have g2:=gj g2
   have g4:=gj g4
   have hsd:=h.sd
   simp only[cond_true] at st ⊢
   rcases ha g1 with q|⟨q1,q2,q3⟩
   .exfalso;rcases q with q|⟨_,q⟩
    .omega
    simp_all
   rcases q3 with q3|⟨q3,q4,q5⟩
   .omega
   have q5:=q5 oaa oaa
   refine⟨⟨by grind,by omega,hsd,λ_=>⟨q4,by simp_all,by simp_all,by simp_all⟩,λ_ _=>by simp_all,λ_ _=>q5.1⟩,⟨st.mo,.inr λe=>by omega,λe=>by omega⟩,by simp⟩
  intro st
  rw[v0] at h2
  exact UH h si hk hr (gj h2.2) (hf (gj h2.1))
 intro st;exact pm h
theorem UI(hp:RcV d.bm)(hs:SP s)(hb:∀p∈s.aC,okB p.bh){x:aF}(hf:Ed s x\/RadB d x):FE K d s (kq d x):=by
 have st:=Sm si hp hs hb hf
 simp only[kq] at st ⊢
 revert st
 cases eqB d.aX 2&&(mM d.aZ d.ae d.aK x).2
 .intro st;exact pm h
 intro st;exact rE h st.mo rfl rfl rfl (λ_=>rfl) (λx=>x) (by simp[vH,lN])
theorem P0:FE K d s ⟨uL d,[]⟩:=by
 have st:=(ST si).2
 rw[uL] at st ⊢
 revert st
 cases h2:eqB d.aX 2
 .intro st;exact pm h
 intro st
 have h2:=gj h2
 have hc:=h.cn oaa
 exact⟨⟨by have:=h.de;grind,by have:=h.se;omega,h.sd,λ_=>hc,λe=>by simp at e,λe=>by simp at e⟩,⟨st,.inr λ_=>⟨by simp,by simp,λe=>by simp at e⟩,λe=>by simp at e⟩,by simp⟩
end
structure Ja(K:Int)(d:aA)(s:ag)(r:bJ):Prop where
 li:LI (K+1) d r.aM
 k:SesK d s r.aM
 sg:∀m∈r.bY,(m.bb=4->AccG (K+1) d r.aM m)/\(m.bb=6->PakG r.aM m)
section
variable{K:Int}{d:aA}{s:ag}{a:av}(h:LI K d s)(si:SI d s a)(g:SG s a)
include h si
omit si in
theorem Ez{r:bJ}(mo:vF d s d r.aM)(h1:r.aM.aX=s.aX)(h2:r.aM.ae=s.ae)(h3:r.aM.aK=s.aK)(h4:r.aM.bA=s.bA)(h5:r.aM.aV=s.aV)(h6:r.aM.aS=s.aS)(hs:∀m∈r.bY,m.bb≠4/\m.bb≠6):Ja K d s r:=
 ⟨⟨by have:=h.de;omega,by have:=h.se;omega,by have:=h.sd;omega,λe=>by rw[h1,h2,h3];exact h.cn e,λe=>by rw[h3,h6];exact h.cc e,λe=>by rw[h3];exact h.pc e⟩,⟨mo,.inr ⟨h2,λe=>by omega,by omega,λ_ _=>⟨h3,h6⟩⟩,λe=>.inr ⟨h4,h5⟩⟩,λm hm=>⟨λe=>absurd e (hs m hm).1,λe=>absurd e (hs m hm).2⟩⟩
omit si in
theorem rG:Ja K d s ⟨s,[]⟩:=Ez h (vF.refl d s) rfl rfl rfl rfl rfl rfl (by simp)
include g
theorem VU(m:aG):Ja K d s (zM s m):=by
 have st:=Kw si g m
 have hr:=tf g.sp.rcd
 simp only[zM] at st ⊢
 revert st
 cases eqB s.bD.cH 999999
 .intro st
  simp only[cond_false] at st ⊢
  refine⟨⟨by have:=h.de;omega,by have:=h.se;grind,h.sd,h.cn,h.cc,h.pc⟩,⟨st.mo,.inr ⟨rfl,λe=>e,agH _,λ_ _=>⟨rfl,rfl⟩⟩,λe=>.inl (by grind)⟩,λx hx=>?_⟩
  simp_all
 intro st;exact rG h
theorem Re(hf:Xh s m\/m.ae<=d.ae):Ja K d s (rf s m):=by
 have st:=Ii si g m
 rw[rf] at st ⊢
 revert st
 cases hb:leB s.bA 0||(!eqB m.ae s.bA||(!eqB m.bP s.aV.vB||leB 999999 s.aK))
 .intro st
  simp only[adi,af5] at hb
  obtain⟨b1,b2,b3,b4⟩:=hb
  have b1:=xh b1
  have b2:=gj b2
  have b3:=gj b3
  have hpg:=si.pg b1
  have hse:=h.se
  simp only[cond_false] at st ⊢
  have hgen:m.ae<=d.ae:=by
   rcases hf with q|q
   .exfalso;rcases q.2 b1 with q|q
    .exact q b2
    exact q b3
   exact q
  have hst:d.aX<=1:=by
   by_cases e:2<=d.aX
   .have:=(h.cn e).2.1;omega
   omega
  have e1:(oY s m.aS).ae=s.bA:=rfl
  have e2:(oY s m.aS).aK=s.aK+1:=rfl
  refine⟨⟨by have:=h.de;omega,by simp_all,by simp_all,λe=>by omega,λe=>by omega,λe=>by omega⟩,⟨st.mo,.inl (by simp_all),λe=>by simp[oY] at e⟩,λx hx=>?_⟩
  simp only[afn] at hx;subst hx
  exact⟨λ_=>⟨by simp only[lr,lN];omega,by simp only[lr,lN];omega,.inr ⟨rfl,rfl,λ_ _=>⟨rfl,rfl⟩⟩⟩,λe=>by simp[lr,lN] at e⟩
 intro st;exact rG h
omit g in
theorem Rb(hf:Gl s m\/R5 K d m):Ja K d s (mS s m):=by
 have st:=Ie si m
 rw[mS] at st ⊢
 revert st
 cases hb:!gx s m||(ltB m.aK s.aK||(eqB m.aK s.aK&&!eqB m.aS s.aS))
 .intro st
  simp only[adi,af5,gx,v0] at hb
  obtain⟨⟨b1,b2,b3⟩,b4,_⟩:=hb
  have b1:=gj b1
  have b2:=gj b2
  have b4:=ou b4
  simp only[cond_false] at st ⊢
  rcases hf with q|⟨q1,q2⟩
  .exfalso;rcases q with q|⟨_,q⟩
   .omega
   simp_all
  have e1:(rN s m).aK=m.aK:=rfl
  refine⟨⟨by have:=h.de;omega,by grind,h.sd,λe=>?_,λe x=>?_,λe x=>?_⟩,⟨st.mo,.inr ⟨rfl,λe=>e,by simp_all,λx y=>?_⟩,λ_=>.inr ⟨rfl,rfl⟩⟩,λx hx=>?_⟩
  .have hc:=h.cn e
   refine⟨hc.1,hc.2.1,hc.2.2.1,?_⟩
   simp_all
  .have hc:=h.cn oaa
   rw[e1] at x
   rcases q2 with q|q
   .omega
   exact q.2.2.2 e x
  .have hc:=h.cn oaa
   have:=h.pc e x
   grind
  .omega
  simp only[afn] at hx;subst hx
  exact⟨λe=>by simp[lr,lN] at e,λ_=>.inr ⟨rfl,agH _⟩⟩
 intro st;exact rG h
theorem VT(hf:m.bP<=d.bm.bw\/Gl s m):Ja K d s (vL s m):=by
 have st:=Ku si g hf
 rw[vL] at st ⊢
 revert st
 cases !gx s m||ltB s.ax.bw m.bP
 .intro st;exact Ez h st.mo rfl rfl rfl rfl rfl rfl (by simp)
 intro st;exact rG h
theorem aaw(hf:m.bb=8->m.bP<=d.bm.bw\/Gl s m)(hr:m.bb=3->Xh s m\/m.ae<=d.ae)(hp:m.bb=5->Gl s m\/R5 K d m):Ja K d s (sUp s m):=by
 rw[sUp]
 cases eS m
 .exact rG h
 simp only[au]
 cases eqB m.bb 1
 .cases h3:eqB m.bb 3
  .cases h5:eqB m.bb 5
   .cases h8:eqB m.bb 8
    .exact rG h
    exact VT h si g (hf (gj h8))
   exact Rb h si (hp (gj h5))
  exact Re h si g (hr (gj h3))
 exact VU h si g m
theorem Ra:Ja K d s ⟨lJ s,[]⟩:=by
 have st:=Ia si g
 exact⟨⟨by have:=h.de;omega,by have:=h.se;show s.aK<=_;omega,h.sd,h.cn,h.cc,h.pc⟩,⟨st.mo,.inr ⟨rfl,λe=>e,agH _,λ_ _=>⟨rfl,rfl⟩⟩,λe=>by simp[lJ] at e⟩,by simp⟩
theorem V5(b:List Int):Ja K d s ⟨(s7 s b).1,[]⟩:=by
 have st:=Ky si g b
 rw[s7] at st ⊢
 revert st
 cases leB 24 (s.aC.length:Int)||ltB 60 (b.length:Int)
 .intro st;exact Ez h st.mo rfl rfl rfl rfl rfl rfl (by simp)
 intro st;exact rG h
end
theorem CM:∀(k:Nat) (s:ag) (a:av) (r:List aF),∃w q,(fm k s a r).1={s with ax:=w,bG:=q}
 |0,s,a,r=>⟨s.ax,s.bG,rfl⟩
 |k+1,s,a,r=>by
  rw[fm]
  cases e:nM s with
  |none=>grind
  |some x=>
   obtain⟨q,hk⟩:=je s a (x.bh.length:Int)
   simp only
   cases ltB 0 (gF (cf s a (x.bh.length:Int)).1 (x.bh.length:Int))
   .simp only[cond_false]
    obtain⟨w,q',e'⟩:=CM k {(cf s a (x.bh.length:Int)).1 with ax:=sent (cf s a (x.bh.length:Int)).1.ax x.bh} (cf s a (x.bh.length:Int)).2
     (r++[fY (cf s a (x.bh.length:Int)).1.aZ (cf s a (x.bh.length:Int)).1.ae (cf s a (x.bh.length:Int)).1.aK ⟨(cf s a (x.bh.length:Int)).1.ax.bw,x.bh⟩])
    simp_all
   simp_all
theorem yZ(s:ag)(a:av)(m:be):∃q r p w u,(bX s a m).aM={s with cP:=q,cF:=r,et:=p,ax:=w,bG:=u}:=by
 rw[bX]
 cases eqB s.aX 1
 .exact⟨s.cP,s.cF,s.et,s.ax,s.bG,rfl⟩
 simp only[au]
 cases ltB 4 (eH s)
 .simp only[cond_false,vh]
  obtain⟨w,q,e⟩:=CM 2 {s with cP:=eH s,cF:=(iG s).2,bG:=(eK s a).2} (eK s a).1 []
  simp_all
 simp only[cond_true,B6]
 simp_all
structure LN(K:Int)(n:ab):Prop where
 li:∀(i:Nat) d s,n.aj[i]?=ς d->n.an[i]?=ς s->LI K d s
 lf:∀f∈n.aH,∀d s,n.aj[f.aY.toNat]?=ς d->n.an[f.aY.toNat]?=ς s->LF K d s f
theorem LN.up{K':Int}(h:LN K n)(hk:K<=K'):LN K' n:=⟨λi d s a b=>(h.li i d s a b).up hk,λf hf d s a b=>(h.lf f hf d s a b).up hk⟩
theorem LN.send(h:LN K n)(hf:∀d s,n.aj[f.aY.toNat]?=ς d->n.an[f.aY.toNat]?=ς s->LF K d s f):LN K (eh n f):=by
 rw[eh]
 cases leB 200 (n.aH.length:Int)
 .refine⟨h.li,λg hg=>?_⟩
  rcases ab1.1 hg with hg|hg
  .exact h.lf g hg
  simp_all
 exact⟨h.li,h.lf⟩
theorem LN.sends{K:Int}:∀(l:List bg) {n:ab},LN K n->(∀f∈l,∀d s,n.aj[f.aY.toNat]?=ς d->n.an[f.aY.toNat]?=ς s->LF K d s f)->LN K (sends n l)
 |[],n,h,_=>h
 |f::l,n,h,hf=>by
  have hk:=ie n f
  exact LN.sends l (h.send (hf f (by simp))) (λg hg=>by simp_all)
theorem LN.same{n':ab}(h:LN K n)(h1:n'.aj=n.aj)(h2:n'.an=n.an)(h4:∀f∈n'.aH,f∈n.aH):LN K n':=
 ⟨by rw[h1,h2];exact h.li,λf hf=>by rw[h1,h2];exact h.lf f (h4 f hf)⟩
theorem LN.sameU{K':Int}{n':ab}(h:LN K n)(hk:K<=K')(h1:n'.aj=n.aj)(h2:n'.an=n.an)(h4:∀f∈n'.aH,f∈n.aH):LN K' n':=(h.same h1 h2 h4).up hk
theorem LN.setD(h:LN K n){d:aA}(hd:n.aj[i]?=ς d)(hs:n.an[i]?=ς s)(hl:LI (K+1) d' s)(k:Xd d d' s):LN (K+1) {n with aj:=n.aj.set i d'}:=by
 refine⟨λj x y hx hy=>?_,λf hf x y hx hy=>?_⟩
 .rcases jM hx with⟨e1,e2⟩|⟨e1,e2⟩
  .simp_all
  exact(h.li j x y e2 hy).up oaa
 rcases jM hx with⟨e1,e2⟩|⟨e1,e2⟩
 .simp only at hy
  rw[<-e1] at hy
  have hy':n.an[i]?=ς y:=hy
  rw[hs] at hy';cases hy'
  subst e2
  exact((h.lf f hf d s (by simp_all) (by simp_all)).dev k).up oaa
 exact(h.lf f hf x y e2 hy).up oaa
theorem LN.setS(h:LN K n){d:aA}(hd:n.aj[i]?=ς d)(hs:n.an[i]?=ς s)(hl:LI (K+1) d s')(k:SesK d s s'):LN (K+1) {n with an:=n.an.set i s'}:=by
 refine⟨λj x y hx hy=>?_,λf hf x y hx hy=>?_⟩
 .rcases jM hy with⟨e1,e2⟩|⟨e1,e2⟩
  .simp_all
  exact(h.li j x y hx e2).up oaa
 rcases jM hy with⟨e1,e2⟩|⟨e1,e2⟩
 .simp only at hx
  rw[<-e1] at hx
  have hx':n.aj[i]?=ς x:=hx
  rw[hd] at hx';cases hx'
  subst e2
  exact((h.lf f hf d s (by simp_all) (by simp_all)).ses k).up oaa
 exact(h.lf f hf x y hx e2).up oaa
section
variable{K:Int}{n:ab}(h:LN K n){i:Nat}{d:aA}{s:ag}(hd:n.aj[i]?=ς d)(hs:n.an[i]?=ς s)
include h hd hs
theorem xL(st:FE K d s r):LN (K+1) (dY n i r):=by
 have hi:=(abb.1 hd).1
 refine LN.sends _ (h.setD hd hs st.li st.k) λf hf x y hx hy=>?_
 obtain⟨m,hm',rfl⟩:=afk.1 hf
 simp only[cM,afZ] at hx hy
 have e1:(n.aj.set i r.aY)[i]?=ς r.aY:=by simp[hi]
 rw[e1] at hx;rw[hs] at hy
 cases hx;cases hy
 exact⟨λ_ _ h3=>.inr ((st.sg m hm').1 h3),λ_ _ h3=>.inr ((st.sg m hm').2 h3),λh1 _ _=>by simp[cM] at h1,λh1 _ _=>by simp[cM] at h1⟩
theorem VF{r:bJ}(st:Ja K d s r):LN (K+1) (tu n i r):=by
 have hi:=(abb.1 hs).1
 refine LN.sends _ (h.setS hd hs st.li st.k) λf hf x y hx hy=>?_
 obtain⟨m,hm',rfl⟩:=afk.1 hf
 simp only[cM,afZ] at hx hy
 have e1:(n.an.set i r.aM)[i]?=ς r.aM:=by simp[hi]
 rw[e1] at hy;rw[hd] at hx
 cases hx;cases hy
 exact⟨λh1 _ _=>by simp[cM] at h1,λh1 _ _=>by simp[cM] at h1,λ_ _ h3=>.inr ((st.sg m hm').1 h3),λ_ _ h3=>.inr ((st.sg m hm').2 h3)⟩
theorem ZV{t:bM}(st:TrS d s a t.aM t.cT t.bV)(hp:∀x∈t.fj,x.bb=7)(e:∃q r p w u,t.aM={s with cP:=q,cF:=r,et:=p,ax:=w,bG:=u}):LN (K+1) (gk n i t):=by
 obtain⟨q,r,p,w,u,e⟩:=e
 have hl:=h.li i d s hd hs
 have hm:=h.setS hd hs (s':=t.aM) (by rw[e];exact LI.up (K:=K) ⟨hl.de,hl.se,hl.sd,hl.cn,hl.cc,hl.pc⟩ oaa) ⟨st.mo,.inr ⟨by rw[e],by simp_all,by simp_all,λ_ _=>by simp_all⟩,λ_=>.inr (by simp_all)⟩
 have hm2:LN (K+1) {n with an:=n.an.set i t.aM,aT:=n.aT.set i t.cT}:=hm.same rfl rfl (λf hf=>hf)
 have hpg:=LN.sends (t.fj.map (cM i η)) hm2 λf hf x y hx hy=>by
  obtain⟨m,hm',rfl⟩:=afk.1 hf
  have hk:=hp m hm'
  exact⟨λh1 _ _=>by simp[cM] at h1,λh1 _ _=>by simp[cM] at h1,λ_ _ h3=>by simp only[cM] at h3;omega,λ_ _ h3=>by simp only[cM] at h3;omega⟩
 refine LN.sends _ hpg λf hf x y hx hy=>?_
 obtain⟨m,hm',rfl⟩:=afk.1 hf
 exact⟨λ_ h1 _=>by simp[lj] at h1,λ_ h1 _=>by simp[lj] at h1,λ_ h1 _=>by simp[lj] at h1,λ_ h1 _=>by simp[lj] at h1⟩
end
theorem Pc:∀(c i:Nat) {K B:Int} {n:ab},NP B n->B+c<4611686018427387904->PI n->LN K n->LN (K+c) (em c i n)/\PI (em c i n)/\NP (B+c) (em c i n)
 |0,_,K,B,n,hn,_,p,h=>⟨by simpa [em] using h,p,by simpa [em] using hn⟩
 |c+1,i,K,B,n,hn,hB,p,h=>by
  rw[em]
  cases hd:n.aj[i]? with
  |none=>exact⟨h.up oaa,p,hn.mono oaa⟩
  |some d=>
   obtain⟨d',s,a,e1,e2,e3,hm⟩:=hn.at_ (abb.1 hd).1
   rw[hd] at e1;cases e1
   have si:=p.si i d s a hd e2 e3
   have hi:=Pc c (i+1) (lV hn hd (nX d) (zZ hm.dp) hm.dc oaa) oaa (ur p hd e2 e3 (GT si)) (xL h hd e2 (P7 (h.li i d s hd e2) si))
   grind
theorem Pi:∀(c i:Nat) {K B:Int} {n:ab},NP B n->B+2000*c<4611686018427387904->PI n->LN K n->LN (K+c) (fC c i n)
 |0,_,K,B,n,hn,_,p,h=>by simpa [fC] using h
 |c+1,i,K,B,n,hn,hB,p,h=>by
  rw[fC]
  cases hs:n.an[i]? with
  |none=>exact h.up oaa
  |some s=>cases ha:n.aT[i]? with
   |none=>exact h.up oaa
   |some a=>
    have hls:=hn.ls
    have hml:=fX hn.map
    obtain⟨d,s',a',e1,e2,e3,hm⟩:=hn.at_ (i:=i) (by grind)
    rw[hs] at e2;rw[ha] at e3;cases e2;cases e3
    have si:=p.si i d s a e1 hs ha
    have ht:=EO si hm.sg n.cp
    exact(Pi c (i+1) (DD hn hs ha (mT hm.sg oaa) (AN hm.sg hn.map) oaa) oaa (Ow p e1 hs ha ht.1 ht.2) (ZV h e1 hs ht.1 ht.2 (yZ s a n.cp))).up oaa
theorem XM(h:LN K n)(k:Nat):LN K (ez n k):=h.same rfl rfl λf hf=>by
 simp only[ez,ab1] at hf
 grind
theorem Cl(hn:NP B n)(p:PI n)(h:LN K n)(k:Nat):LN (K+1) (dS n k):=by
 rw[dS]
 cases hf:n.aH[k]? with
 |none=>exact h.up oaa
 |some f=>
  have hfm:=abl hf
  have hp:=hn.fs f hfm
  have h1:=XM h k
  have hdd:=hp.d
  obtain⟨d,s,a,e1,e2,e3,hm⟩:=hn.at_ (i:=f.aY.toNat) oaa
  have hfi:=p.fi f hfm d s e1 e2
  have hsi:=p.si _ d s a e1 e2 e3
  have hl:=h.li _ d s e1 e2
  have hlf:=h.lf f hfm d s e1 e2
  have q1:(ez n k).aj[f.aY.toNat]?=ς d:=e1
  have q2:(ez n k).an[f.aY.toNat]?=ς s:=e2
  simp only
  cases oo (ez n k) f.aS
  .exact h1.sameU oaa rfl rfl λf hf=>hf
  simp only[q1,q2,au]
  cases hu:f.dF
  .simp only[cond_false]
   cases eqB d.aS f.aS
   .exact h1.sameU oaa rfl rfl λf hf=>hf
   simp only[au]
   cases hr:f.cg
   .exact xL h1 q1 q2 (UK hl hsi hm.key (tf hm.sg.sp.rcd).2 (λe=>hfi.dn hu hr e) (λe=>hlf.ac hu hr e) (λe=>hlf.ka hu hr e))
   exact xL h1 q1 q2 (UI hl hsi (nQ.1 hm.dp.rc.v) hm.sg.sp hm.sg.b1 (hfi.rd hu hr))
  simp only[cond_true]
  cases hr:f.cg||!eqB f.aP.aS f.aS
  .simp only[cond_false]
   simp only[adi] at hr
   exact VF h1 q1 q2 (aaw hl hsi hm.sg (λe=>hfi.up hu hr.1 e) (λe=>hlf.re hu hr.1 e) (λe=>hlf.pa hu hr.1 e))
  exact h1.up oaa
theorem acI{d:aA}(h:(bif f.cg then f.dF||Ly d f.bV else bif f.dF then hUp s f.aP else Dg d f.aP)=ζ):LF K d s f:=by
 refine⟨λh1 h2 h3=>?_,λh1 h2 h3=>?_,λh1 h2 h3=>?_,λh1 h2 h3=>?_⟩
 .rw[h2,h1] at h
  simp only[hUp,h3,show eqB 5 3=η from by simp[eqB],bj,agn,au] at h
  left
  rcases adP _ _ |>.mp h with q|q
  .exact .inl (kO q)
  rw[v0] at q;exact .inr ⟨gj q.1,by simp_all⟩
 .rw[h2,h1] at h
  simp only[hUp,h3,bj,au] at h
  left
  rw[v0,adP] at h
  refine⟨vK h.1,λ_=>?_⟩
  simp_all
 .rw[h2,h1] at h
  simp only[Dg,h3,show eqB 4 2=η from by simp[eqB],bj,agn,au] at h
  left
  rcases adP _ _ |>.mp h with q|q
  .exact .inl (kO q)
  rw[v0] at q;exact .inr ⟨gj q.1,by simp_all⟩
 rw[h2,h1] at h
 simp only[Dg,h3,show eqB 6 2=η from by simp[eqB],show eqB 6 4=η from by simp[eqB],bj,afM,au] at h
 left
 rcases adP _ _ |>.mp h with q|q
 .exact .inl (kO q)
 rw[v0] at q;exact .inr ⟨gj q.1,by simp_all⟩
theorem own_LN(hK:K<999999)(hn:NP B n)(p:PI n)(h:LN K n)(e:cU):LN (K+1) (BS n e).2:=by
 rw[BS]
 have h':=h.up (K':=K+1) oaa
 cases inR e.cq 0 ((n.aj.length:Int)-1)
 .exact h'
 simp only[au]
 cases hd:n.aj[e.cq.toNat]? with
 |none=>exact h'
 |some d=>
  obtain⟨d',s,a,e1,e2,e3,hm⟩:=hn.at_ (abb.1 hd).1
  rw[hd] at e1;cases e1
  have hsi:=p.si _ d s a hd e2 e3
  have hl:=h.li _ d s hd e2
  simp only[e2]
  cases eqB e.bb 5
  .simp only[cond_false]
   cases eqB e.bb 6
   .simp only[cond_false]
    cases eqB e.bb 7
    .simp only[cond_false]
     cases(s7 s e.bh).2
     .exact h'
     have st:=V5 hl hsi hm.sg e.bh
     exact h.setS hd e2 st.li st.k
    simp only[cond_true]
    cases eqB d.aX 2
    .exact h'
    have st:=P0 hl hsi
    exact h.setD hd e2 st.li st.k
   simp only[cond_true]
   cases eqB e.aS d.aS||!er n.cp e.aS
   .exact xL h hd e2 (P5 hl hsi hK e.aS)
   exact h'
  simp only[cond_true]
  cases eqB d.aX 0
  .exact h'
  exact xL h hd e2 (XY hl hsi)
theorem We(hn:NP B n)(p:PI n)(h:LN K n)(k:Int)(up:Bool):LN (K+1) (kv n k up).2:=by
 rw[kv]
 cases !inR k 0 (n.fg.fU-1)||(booB (yd n.fg k) up||eqB (mU n.fg k up).fZ 0)
 .simp only[cond_false]
  have key:∀(i:Nat) d s',n.aj[i]?=ς d->(zD n.fg (mU n.fg k up) n.an.length 0 n.an)[i]?=ς s'->∃s,n.an[i]?=ς s/\(s'=s\/(LI (K+1) d s'/\SesK d s s')):=by
   intro i d s' hd hs
   rcases o8 n.fg (mU n.fg k up) n.an.length 0 n.an i with q|⟨t,q1,q2⟩
   .simp_all
   rw[q2] at hs;cases hs
   obtain⟨d',t',a,e1,e2,e3,hm⟩:=hn.at_ (abb.1 hd).1
   rw[hd] at e1;cases e1
   rw[q1] at e2;cases e2
   have st:=Ra (h.li i d t hd q1) (p.si i d t a hd q1 e3) hm.sg
   exact⟨t,q1,.inr ⟨st.li,st.k⟩⟩
  refine⟨λi d s' hd hs=>?_,λf hf d s' hd hs=>?_⟩
  .obtain⟨s,g1,g2|g2⟩:=key i d s' hd hs
   .subst g2;exact(h.li i d s' hd g1).up oaa
   exact g2.1
  obtain⟨s,g1,g2|g2⟩:=key _ d s' hd hs
  .subst g2;exact(h.lf f hf d s' hd g1).up oaa
  exact((h.lf f hf d s hd g1).ses g2.2).up oaa
 exact h.up oaa
theorem M6(hK:K<999999)(hn:NP B n)(hB:B+10000<4611686018427387904)(p:PI n)(h:LN K n)(hh:qY n e=ζ):LN (K+8) (gO n e).2:=by
 have h':=h.up (K':=K+8) oaa
 rw[gO]
 split
 .rw[jp]
  cases hb:leB 100000 n.iS
  .simp only[cond_false]
   have hb:=xh hb
   have hl:=hn.ld
   have hnw:=hn.nw
   have h1:NP B {n with iS:=n.iS+1}:={hn with nw:=by grind}
   have p1:PI {n with iS:=n.iS+1}:=p.same rfl rfl rfl (λf hf=>hf)
   have q1:LN K {n with iS:=n.iS+1}:=h.same rfl rfl (λf hf=>hf)
   obtain⟨a1,a2,a3⟩:=Pc n.aj.length 0 h1 oaa p1 q1
   have hls:=a3.ls
   have hl2:=a3.ld
   exact(Pi _ 0 a3 oaa a2 a1).up oaa
  exact h'
 split
 .rw[qj]
  cases inR e.cq 0 ((n.aH.length:Int)-1)
  .exact h'
  simp only[au]
  cases eqB e.bb 2
  .simp only[cond_false]
   cases eqB e.bb 3
   .simp only[cond_false]
    cases leB 200 (n.aH.length:Int)
    .simp only[cond_false]
     cases hf:n.aH[e.cq.toNat]? with
     |none=>exact h'
     |some f=>exact(h.send (h.lf f (abl hf))).up oaa
    exact h'
   exact(XM h _).sameU oaa rfl rfl (λf hf=>hf)
  exact(Cl hn p h _).up oaa
 split
 .exact(own_LN hK hn p h e).up oaa
 split
 .rw[mL];cases !er n.cp e.cq||booB (oo n e.cq) (eqB e.bb 10)
  .exact h'.same rfl rfl (λf hf=>hf)
  exact h'
 split
 .exact(We hn p h _ _).up oaa
 split
 .rename_i h13
  rw[uY];cases hp:zE n e.b8
  .exact h'
  refine h'.send λd s hd hs=>?_
  rw[qY,h13,hp] at hh
  simp only[bj,afp,aen,adP,aep,decide_eq_true_eq] at hh
  rcases hh with⟨f,hf,rfl⟩|hh
  .exact h'.lf _ hf d s hd hs
  rw[UT,hd,hs] at hh
  exact acI hh
 exact h'
theorem new_LN{m:be}{rs:List a8}{b:Int}:LN 0 (iz m rs p b rs.length):=by
 refine⟨λi d s hd hs=>?_,λf hf=>by simp[iz] at hf⟩
 obtain⟨hk,rfl⟩:=sV hd
 obtain⟨_,rfl⟩:=sV hs
 exact⟨by simp[sK],by simp[nE],by simp[sK,nE],λe=>by simp[sK] at e,λe=>by simp[sK] at e,λe=>by simp[sK] at e⟩
theorem Reach.ln:∀{k:Nat} {n:ab},Reach k n->k<=100000->LN (8*k) n
 |_,_,.new h hm hp hl _,_=>by simpa using new_LN
 |_,_,.step (k:=k) h he hh,hk=>(M6 oaa (h.np oaa) oaa (h.pi oaa) (h.ln oaa) hh).up oaa
def Ce(i:Nat)(f:bg):Bool:=f.dF&&(!f.cg&&(eqB f.aP.bb 1&&decide (f.aY.toNat=i)))
def ov(l:List bg)(i:Nat):Int:=(l.countP (Ce i):Nat)
def b2i(b:Bool):Int:=bif b then 1 else 0
theorem Aw(a b:List bg)(i:Nat):ov (a++b) i=ov a i+ov b i:=by simp[ov,List.countP_append]
theorem Dw(f:bg)(i:Nat):ov [f] i=b2i (Ce i f):=by
 simp only[ov,List.countP_cons,agS,b2i];grind
theorem Tp(l:List bg)(i:Nat):0<=ov l i:=by simp[ov]
theorem Ej(b:Bool):0<=b2i b/\b2i b<=1:=by cases b<;>simp[b2i]
def GB(G:Int)(n:ab):Prop:=∀(i:Nat) s,n.an[i]?=ς s->s.bD.cH+ov n.aH i<=G
theorem GB.up{G':Int}(h:GB G n)(hg:G<=G'):GB G' n:=λi s hs=>agI (h i s hs) hg
theorem Fo(n:ab)(f:bg)(i:Nat):ov (eh n f).aH i<=ov n.aH i+b2i (Ce i f):=by
 have:=Ej (Ce i f)
 rw[eh]
 cases leB 200 (n.aH.length:Int)
 .simp only[cond_false];rw[Aw,Dw];omega
 grind
theorem rP:∀(l:List bg) (n:ab) (i:Nat),ov (sends n l).aH i<=ov n.aH i+ov l i
 |[],n,i=>by simp[sends,ov]
 |f::l,n,i=>by
  have h1:=Fo n f i
  have h2:=rP l (eh n f) i
  have e:ov (f::l) i=b2i (Ce i f)+ov l i:=by
   rw[show f::l=[f]++l from rfl,Aw,Dw]
  rw[show sends n (f::l)=sends (eh n f) l from rfl,e];omega
theorem Lg(hf:n.aH[k]?=ς f)(i:Nat):ov (ez n k).aH i+b2i (Ce i f)=ov n.aH i:=by
 obtain⟨hk,e⟩:=abb.1 hf
 have h:n.aH=n.aH.take k++([f]++n.aH.drop (k+1)):=by
  rw[<-e,List.singleton_append,<-ae0 hk,afG]
 have h2:ov n.aH i=ov (n.aH.take k) i+(b2i (Ce i f)+ov (n.aH.drop (k+1)) i):=by
  conv=>lhs;rw[h]
  rw[Aw,Aw,Dw]
 simp only[ez];rw[Aw,h2];omega
theorem L9{l:List bg}(h:∀f∈l,Ce i f=η):ov l i=0:=by
 simp only[ov]
 simp_all
theorem Wg{j:Int}{up:Bool}{l:List aG}(h:∀m∈l,m.bb≠1):ov (l.map (cM j up)) i=0:=L9 λf hf=>by
 obtain⟨m,hm,rfl⟩:=afk.1 hf
 simp only[Ce,cM,eqB_f.2 (h m hm)];simp
theorem GW{j:Int}{l:List aG}:ov (l.map (cM j η)) i=0:=L9 λf hf=>by
 obtain⟨m,hm,rfl⟩:=afk.1 hf
 rfl
theorem VI{j c:Int}{l:List aF}:ov (l.map (lj j c)) i=0:=L9 λf hf=>by
 obtain⟨m,hm,rfl⟩:=afk.1 hf
 rfl
theorem OY{j:Int}{up:Bool}{l:List aG}(hl:l.length<=1):ov (l.map (cM j up)) i<=1:=by
 match l,hl with
 |[],_=>simp[ov]
 |[m],_=>
  rw[show [m].map (cM j up)=[cM j up m] from rfl,Dw];exact(Ej _).2
theorem aco(d:aA)(m:aG):∀x∈(iU d m).bY,x.bb≠1:=by
 rw[iU]
 cases !eS m||(!eqB m.aS d.aS||eqB d.aX 0)
 .simp only[cond_false]
  cases eqB m.bb 2&&eqB d.aX 1
  .simp only[cond_false]
   cases eqB m.bb 4&&(eqB d.aX 1&&(o7 d.aZ&&(eqB m.ae d.ae&&mr d.aZ m)))
   .simp only[cond_false]
    cases eqB m.bb 6&&(eqB d.aX 2&&(eqB m.ae d.ae&&(eqB m.aK d.aK&&mr d.aZ m)))
    .simp only[cond_false]
     cases eqB m.bb 7&&(eqB d.aX 3&&ltB d.aK 999999)
     .simp only[cond_false]
      cases eqB m.bb 7&&eqB d.aX 2
      .simp
      simp[lA,eW,lN]
     simp[lA,eW,lN]
    simp
   simp
  simp only[cond_true,zY]
  grind
 simp
theorem acm(d:aA)(x:aF):∀m∈(kq d x).bY,m.bb≠1:=by
 simp only[kq]
 cases eqB d.aX 2&&(mM d.aZ d.ae d.aK x).2<;>simp[vH,lN]
theorem adJ(s:ag)(m:aG):(sUp s m).aM.bD.cH<=s.bD.cH+b2i (eqB m.bb 1):=by
 have:=Ej (eqB m.bb 1)
 rw[sUp]
 cases eS m
 .grind
 simp only[au]
 cases h1:eqB m.bb 1
 .simp only[cond_false]
  cases eqB m.bb 3
  .simp only[cond_false]
   cases eqB m.bb 5
   .simp only[cond_false]
    cases eqB m.bb 8
    .simp[b2i]
    simp only[cond_true,vL]
    cases !gx s m||ltB s.ax.bw m.bP<;>simp[b2i,lk]
   simp only[cond_true,mS]
   cases !gx s m||(ltB m.aK s.aK||(eqB m.aK s.aK&&!eqB m.aS s.aS))<;>simp[b2i,rN]
  simp only[cond_true,rf]
  cases leB s.bA 0||(!eqB m.ae s.bA||(!eqB m.bP s.aV.vB||leB 999999 s.aK))<;>simp[b2i,oY]
 simp only[cond_true,zM]
 cases eqB s.bD.cH 999999<;>first|(simp[b2i];done)|(simp[b2i];omega)
theorem Kl(h:GB G n)(hl:r.bY.length<=1):GB (G+1) (dY n i r):=λj s hs=>by
 have hk:=dv (r.bY.map (cM i ζ)) {n with aj:=n.aj.set i r.aY}
 have h1:=rP (r.bY.map (cM i ζ)) {n with aj:=n.aj.set i r.aY} j
 have h2:=OY (i:=j) (j:=(i:Int)) (up:=ζ) hl
 have hs':n.an[j]?=ς s:=by simpa [dY,hk.2.1] using hs
 have:=h j s hs'
 simp only[dY]
 grind
theorem HV(h:GB G n)(hl:∀m∈r.bY,m.bb≠1):GB G (dY n i r):=λj s hs=>by
 have hk:=dv (r.bY.map (cM i ζ)) {n with aj:=n.aj.set i r.aY}
 have h1:=rP (r.bY.map (cM i ζ)) {n with aj:=n.aj.set i r.aY} j
 have h2:=Wg (i:=j) (j:=(i:Int)) (up:=ζ) hl
 have hs':n.an[j]?=ς s:=by simpa [dY,hk.2.1] using hs
 have:=h j s hs'
 simp only[dY]
 grind
theorem Ck(hn:NP B n)(h:GB G n)(k:Nat):GB G (dS n k):=by
 rw[dS]
 cases hf:n.aH[k]? with
 |none=>exact h
 |some f=>
  have hc:GB G (ez n k):=λi s hs=>by
   have h1:=Lg hf i
   have h2:=h i s hs
   have:=Ej (Ce i f)
   omega
  simp only
  cases oo (ez n k) f.aS
  .exact hc
  simp only[au]
  cases hu:f.dF
  .simp only[cond_false]
   cases hd:(ez n k).aj[f.aY.toNat]? with
   |none=>exact hc
   |some d=>
    simp only
    cases eqB d.aS f.aS
    .exact hc
    simp only[au]
    cases f.cg
    .exact HV hc (aco d f.aP)
    exact HV hc (acm d f.bV)
  simp only[cond_true]
  cases hr:f.cg||!eqB f.aP.aS f.aS
  .simp only[cond_false]
   simp only[adi] at hr
   cases hs:(ez n k).an[f.aY.toNat]? with
   |none=>exact hc
   |some s=>
    simp only
    intro j t ht
    have hk:=dv ((sUp s f.aP).bY.map (cM (f.aY.toNat:Int) η)) {ez n k with an:=(ez n k).an.set f.aY.toNat (sUp s f.aP).aM}
    have h1:=rP ((sUp s f.aP).bY.map (cM (f.aY.toNat:Int) η)) {ez n k with an:=(ez n k).an.set f.aY.toNat (sUp s f.aP).aM} j
    have h2:=GW (i:=j) (j:=(f.aY.toNat:Int)) (l:=(sUp s f.aP).bY)
    have ht':((ez n k).an.set f.aY.toNat (sUp s f.aP).aM)[j]?=ς t:=by
     have hz:=ht
     simp only[tu] at hz
     rw[hk.2.1] at hz;exact hz
    simp only[tu]
    simp only at h1
    rcases jM ht' with⟨e1,e2⟩|⟨e1,e2⟩
    .subst e1;subst e2
     have h3:=h _ s (show n.an[f.aY.toNat]?=ς s from hs)
     have h4:=Lg hf f.aY.toNat
     have h5:=adJ s f.aP
     have h6:Ce f.aY.toNat f=eqB f.aP.bb 1:=by simp[Ce,hu,hr.1]
     grind
    have:=hc j t e2
    omega
  exact hc
theorem Rj{j:Nat}(h:i≠j){up:Bool}{l:List aG}:ov (l.map (cM (i:Int) up)) j=0:=L9 λf hf=>by
 obtain⟨m,hm,rfl⟩:=afk.1 hf
 simp[Ce,cM,h]
def GP(i:Nat)(G:Int)(n:ab):Prop:=∀(j:Nat) s,n.an[j]?=ς s->s.bD.cH+ov n.aH j<=if j<i then G+1 else G
theorem VE(h:GP i G n)(hl:r.bY.length<=1):GP (i+1) G (dY n i r):=λj s hs=>by
 have hk:=dv (r.bY.map (cM i ζ)) {n with aj:=n.aj.set i r.aY}
 have h1:=rP (r.bY.map (cM i ζ)) {n with aj:=n.aj.set i r.aY} j
 have h2:=OY (i:=j) (j:=(i:Int)) (up:=ζ) hl
 have hs':n.an[j]?=ς s:=by simpa [dY,hk.2.1] using hs
 have h3:=h j s hs'
 simp only[dY]
 simp only at h1
 by_cases e:i=j
 .omega
 have h4:=Rj e (up:=ζ) (l:=r.bY)
 omega
theorem Pb:∀(c i:Nat) {G:Int} {n:ab},GP i G n->GB (G+1) (em c i n)
 |0,i,G,n,h=>λj s hs=>by
  have:=h j s hs
  simp only[em]
  omega
 |c+1,i,G,n,h=>by
  rw[em]
  cases hd:n.aj[i]? with
  |none=>
   intro j s hs
   have:=h j s hs
   grind
  |some d=>exact Pb c (i+1) (VE h (nX d).len)
theorem Ph:∀(c i:Nat) {G:Int} {n:ab},GB G n->GB G (fC c i n)
 |0,_,G,n,h=>by simpa [fC] using h
 |c+1,i,G,n,h=>by
  rw[fC]
  cases hs:n.an[i]? with
  |none=>exact h
  |some s=>cases ha:n.aT[i]? with
   |none=>exact h
   |some a=>
    refine Ph c (i+1) λj t ht=>?_
    obtain⟨q,r,p,w,u,e⟩:=yZ s a n.cp
    have k1:=dv ((bX s a n.cp).fj.map (cM i η)) {n with an:=n.an.set i (bX s a n.cp).aM,aT:=n.aT.set i (bX s a n.cp).cT}
    have k2:=dv ((bX s a n.cp).bV.map (lj i (bX s a n.cp).aM.aS)) (sends {n with an:=n.an.set i (bX s a n.cp).aM,aT:=n.aT.set i (bX s a n.cp).cT} ((bX s a n.cp).fj.map (cM i η)))
    have h1:=rP ((bX s a n.cp).fj.map (cM i η)) {n with an:=n.an.set i (bX s a n.cp).aM,aT:=n.aT.set i (bX s a n.cp).cT} j
    have h2:=rP ((bX s a n.cp).bV.map (lj i (bX s a n.cp).aM.aS)) (sends {n with an:=n.an.set i (bX s a n.cp).aM,aT:=n.aT.set i (bX s a n.cp).cT} ((bX s a n.cp).fj.map (cM i η))) j
    have h3:=GW (i:=j) (j:=(i:Int)) (l:=(bX s a n.cp).fj)
    have h4:=VI (i:=j) (j:=(i:Int)) (c:=(bX s a n.cp).aM.aS) (l:=(bX s a n.cp).bV)
    have ht':(n.an.set i (bX s a n.cp).aM)[j]?=ς t:=by simpa [gk,k2.2.1,k1.2.1] using ht
    simp only[gk]
    simp only at h1 h2
    rcases jM ht' with⟨e1,e2⟩|⟨e1,e2⟩
    .subst e1;subst e2
     have h5:=h _ s hs
     grind
    have:=h j t e2
    omega
theorem D5(h:GB G n):GB (G+1) (jp n).2:=by
 rw[jp]
 cases leB 100000 n.iS
 .simp only[cond_false]
  exact Ph _ 0 (Pb n.aj.length 0 (n:={n with iS:=n.iS+1}) (λj s hs=>by rw[if_neg oaa];exact h j s hs))
 exact h.up oaa
theorem own_GB(h:GB G n)(e:cU):GB (G+1) (BS n e).2:=by
 have h':=h.up (G':=G+1) oaa
 rw[BS]
 cases inR e.cq 0 ((n.aj.length:Int)-1)
 .exact h'
 simp only[au]
 cases hd:n.aj[e.cq.toNat]? with
 |none=>exact h'
 |some d=>cases hs:n.an[e.cq.toNat]? with
  |none=>exact h'
  |some s=>
   simp only
   cases eqB e.bb 5
   .simp only[cond_false]
    cases eqB e.bb 6
    .simp only[cond_false]
     cases eqB e.bb 7
     .simp only[cond_false]
      cases(s7 s e.bh).2
      .exact h'
      refine λj t ht=>?_
      rcases jM ht with⟨e1,e2⟩|⟨e1,e2⟩
      .subst e1;subst e2
       have:=h' _ s hs
       rw[s7]
       grind
      exact h' j t e2
     simp only[cond_true]
     cases eqB d.aX 2<;>exact h'
    simp only[cond_true]
    cases eqB e.aS d.aS||!er n.cp e.aS
    .refine Kl h ?_
     rcases GS d e.aS with q|q
     .exact q.len
     exact q.2.len
    exact h'
   simp only[cond_true]
   cases eqB d.aX 0
   .exact h'
   exact Kl h (Lm d).len
theorem Wd(h:GB G n)(k:Int)(up:Bool):GB G (kv n k up).2:=by
 rw[kv]
 cases !inR k 0 (n.fg.fU-1)||(booB (yd n.fg k) up||eqB (mU n.fg k up).fZ 0)
 .simp only[cond_false]
  intro j t ht
  rcases o8 n.fg (mU n.fg k up) n.an.length 0 n.an j with q|⟨s,q1,q2⟩
  .exact h j t (by simp_all)
  have ht':(zD n.fg (mU n.fg k up) n.an.length 0 n.an)[j]?=ς t:=ht
  rw[q2] at ht';cases ht'
  exact h j s q1
 exact h
theorem Xw(hn:NP B n)(h:GB G n)(e:cU):GB (G+1) (gO n e).2:=by
 have h':=h.up (G':=G+1) oaa
 have hs1:∀f:bg,GB (G+1) (eh n f):=λf j s hs=>by
  have hk:=(ie n f).2.1
  have h1:=Fo n f j
  have:=Ej (Ce j f)
  rw[hk] at hs
  have:=h j s hs
  omega
 have hc:∀k:Nat,GB (G+1) (ez n k):=λk j s hs=>by
  have:=h j s hs
  cases hf:n.aH[k]? with
  |none=>
   have hk:=List.getElem?_eq_none_iff.1 hf
   have e:(ez n k).aH=n.aH:=by
    simp only[ez];rw[agd hk,List.drop_eq_nil_of_le oaa,agL]
   rw[e];omega
  |some f=>
   have h1:=Lg hf j
   have:=Ej (Ce j f)
   omega
 rw[gO]
 split
 .exact D5 h
 split
 .rw[qj]
  cases inR e.cq 0 ((n.aH.length:Int)-1)
  .exact h'
  simp only[au]
  cases eqB e.bb 2
  .simp only[cond_false]
   cases eqB e.bb 3
   .grind
   exact hc _
  exact(Ck hn h _).up oaa
 split
 .exact own_GB h e
 split
 .rw[mL];cases !er n.cp e.cq||booB (oo n e.cq) (eqB e.bb 10)
  .exact h'
  exact h'
 split
 .exact(Wd h _ _).up oaa
 split
 .rw[uY];grind
 exact h'
theorem Reach.gb:∀{k:Nat} {n:ab},Reach k n->k<=1000000->GB (20+k) n
 |_,_,.new h hm hp hl hq,_=>λi s hs=>by
  obtain⟨hk,rfl⟩:=sV hs
  simp only[iz,ov,agS,nE]
  simp_all
 |_,_,.step (k:=k) h he hh,hk=>(Xw (h.np oaa) (h.gb oaa) _).up oaa
theorem xU:∀(l:List bg) {n:ab},n.aH.length+l.length<=200->(sends n l).aH=n.aH++l
 |[],n,_=>by simp[sends]
 |f::l,n,h=>by
  simp only[aee] at h
  have e:eh n f={n with aH:=n.aH++[f]}:=by
   rw[eh,leB_f.2 (show(n.aH.length:Int)<200 by omega)];rfl
  rw[show sends n (f::l)=sends (eh n f) l from rfl,xU l (by grind),e]
  simp
def xi(i:Nat)(d:aA):List bg:=(ef d).bY.map (cM i ζ)
def yP(i:Nat)(t:bM):List bg:=t.fj.map (cM i η)++t.bV.map (lj i t.aM.aS)
theorem V6{m:be}(hm:m.bp.length<=6):(bX s a m).bV.length<=4/\(bX s a m).fj.length<=6:=by
 rw[bX]
 cases eqB s.aX 1
 .simp_all
 simp only[au]
 cases ltB 4 (eH s)
 .simp only[cond_false,vh]
  have hl:=xT 2 {s with cP:=eH s,cF:=(iG s).2,bG:=(eK s a).2} (eK s a).1 []
  have hr:=Bt s
  grind
 simp only[cond_true,B6,aeE]
 refine⟨by simp,?_⟩
 rw[mX]
 cases ltB 0 s.et.dy
 .simp only[cond_false,AC]
  cases eqB (bif ltB s.et.dJ 4 then s.et.dJ+1 else 1) 1&&ltB 0 (((nf m (gL m s.aS)).length:Nat):Int)
  .cases inR (bif ltB s.et.dJ 4 then s.et.dJ+1 else 1) 1 4
   .simp
   simp[M2];exact hm
  simp only[cond_true,nf,aeE]
  have:=List.length_filter_le (λy:fo×Nat=>eqB y.1.fF (gL m s.aS)) m.bp.zipIdx
  simp at this;omega
 simp
theorem Pf:∀(c i:Nat) {n:ab},i+c=n.aj.length->n.aH.length+c<=200->
 (∀(j:Nat) d,n.aj[j]?=ς d->(em c i n).aj[j]?=ς (if i<=j then(ef d).aY else d))/\
 (∃l,(em c i n).aH=n.aH++l/\l.length<=c/\∀(j:Nat) d,n.aj[j]?=ς d->l.filter (λf=>decide (f.aY.toNat=j))=if i<=j then xi j d else [])/\
 (em c i n).an=n.an/\(em c i n).aT=n.aT/\(em c i n).cp=n.cp/\(em c i n).bH=n.bH/\(em c i n).iS=n.iS/\(em c i n).aj.length=n.aj.length
 |0,i,n,h,_=>by
  have e0:em 0 i n=n:=by simp only[em]
  rw[e0]
  refine⟨λj d hd=>?_,⟨[],by simp,by simp,λj d hd=>?_⟩,rfl,rfl,rfl,rfl,rfl,rfl⟩
  .grind
  grind
 |c+1,i,n,h,hl=>by
  obtain⟨d,hd⟩:∃d,n.aj[i]?=ς d:=⟨_,aa9 oaa⟩
  have hlen:=(nX d).len
  have hk:=dv ((ef d).bY.map (cM i ζ)) {n with aj:=n.aj.set i (ef d).aY}
  have hfl:(dY n i (ef d)).aH=n.aH++xi i d:=xU _ (by simp;omega)
  have hdl:(dY n i (ef d)).aj=n.aj.set i (ef d).aY:=hk.1
  have ih:=Pf c (i+1) (n:=dY n i (ef d)) (by grind) (by rw[hfl];simp[xi];omega)
  obtain⟨i1,⟨l,i2,i3,i4⟩,i5,i6,i7,i8,i9,i10⟩:=ih
  have e:em (c+1) i n=em c (i+1) (dY n i (ef d)):=by rw[em,hd]
  rw[e]
  refine⟨λj x hx=>?_,⟨xi i d++l,by simp_all,by simp[xi];omega,λj x hx=>?_⟩,i5.trans hk.2.1,i6.trans hk.2.2.1,i7.trans hk.2.2.2.1,i8.trans hk.2.2.2.2.1,i9.trans hk.2.2.2.2.2.2,by simp_all⟩
  .by_cases q:i=j
   .grind
   rw[i1 j x (by simp_all)]
   grind
  rw[agN]
  by_cases q:i=j
  .subst q
   rw[hd] at hx;cases hx
   rw[i4 i (ef d).aY (by grind),if_neg oaa,if_pos oaa,agL]
   exact List.filter_eq_self.2 λf hf=>by
    obtain⟨m,_,rfl⟩:=afk.1 hf
    simp[cM]
  rw[i4 j x (by simp_all)]
  have e0:(xi i d).filter (λf=>decide (f.aY.toNat=j))=[]:=afv.2 λf hf=>by
   obtain⟨m,_,rfl⟩:=afk.1 hf
   simp only[cM,afZ];simp_all
  grind
theorem Pm:∀(c i:Nat) {n:ab},n.cp.bp.length<=6->i+c=n.an.length->n.aT.length=n.an.length->n.aH.length+10*c<=200->
 (∀(j:Nat) s a,n.an[j]?=ς s->n.aT[j]?=ς a->(fC c i n).an[j]?=ς (if i<=j then(bX s a n.cp).aM else s)/\(fC c i n).aT[j]?=ς (if i<=j then(bX s a n.cp).cT else a))/\
 (∃l,(fC c i n).aH=n.aH++l/\∀(j:Nat) s a,n.an[j]?=ς s->n.aT[j]?=ς a->l.filter (λf=>decide (f.aY.toNat=j))=if i<=j then yP j (bX s a n.cp) else [])/\
 (fC c i n).aj=n.aj/\(fC c i n).cp=n.cp/\(fC c i n).bH=n.bH/\(fC c i n).iS=n.iS
 |0,i,n,hm,h,ha,_=>by
  have e0:fC 0 i n=n:=by simp only[fC]
  rw[e0]
  refine⟨λj s a hs hx=>?_,⟨[],by simp,λj s a hs hx=>?_⟩,rfl,rfl,rfl,rfl⟩
  .grind
  grind
 |c+1,i,n,hm,h,hal,hl=>by
  obtain⟨s,hs⟩:∃s,n.an[i]?=ς s:=⟨_,aa9 oaa⟩
  obtain⟨a,ha⟩:∃a,n.aT[i]?=ς a:=⟨_,aa9 oaa⟩
  obtain⟨t,ht⟩:∃t,t=bX s a n.cp:=⟨_,rfl⟩
  have hlen:=V6 (s:=s) (a:=a) hm
  rw[<-ht] at hlen
  have hk1:=dv (t.fj.map (cM i η)) {n with an:=n.an.set i t.aM,aT:=n.aT.set i t.cT}
  have hk2:=dv (t.bV.map (lj i t.aM.aS)) (sends {n with an:=n.an.set i t.aM,aT:=n.aT.set i t.cT} (t.fj.map (cM i η)))
  have hf1:(sends {n with an:=n.an.set i t.aM,aT:=n.aT.set i t.cT} (t.fj.map (cM i η))).aH=n.aH++t.fj.map (cM i η):=xU _ (by simp;omega)
  have hfl:(gk n i t).aH=n.aH++yP i t:=by
   rw[gk,xU _ (by grind),hf1,yP,agk]
  have hse:(gk n i t).an=n.an.set i t.aM:=by rw[gk,hk2.2.1,hk1.2.1]
  have hac:(gk n i t).aT=n.aT.set i t.cT:=by rw[gk,hk2.2.2.1,hk1.2.2.1]
  have hmp:(gk n i t).cp=n.cp:=by rw[gk,hk2.2.2.2.1,hk1.2.2.2.1]
  have hol:(yP i t).length<=10:=by simp[yP];omega
  have ih:=Pm c (i+1) (n:=gk n i t) (by simp_all) (by grind) (by simp_all) (by grind)
  obtain⟨i1,⟨l,i2,i4⟩,i5,i6,i7,i8⟩:=ih
  have e:fC (c+1) i n=fC c (i+1) (gk n i t):=by simp only[fC,hs,ha,<-ht]
  rw[e]
  rw[hmp] at i1 i4 i6
  have hown:∀f∈yP i t,f.aY.toNat=i:=λf hf=>by
   rcases ab1.1 hf with hf|hf<;>obtain⟨m,_,rfl⟩:=afk.1 hf<;>simp[cM,lj]
  refine⟨λj x y hx hy=>?_,⟨yP i t++l,by simp_all,λj x y hx hy=>?_⟩,i5.trans (by rw[gk,hk2.1,hk1.1]),i6,i7.trans (by rw[gk,hk2.2.2.2.2.1,hk1.2.2.2.2.1]),i8.trans (by rw[gk,hk2.2.2.2.2.2.2,hk1.2.2.2.2.2.2])⟩
  .by_cases q:i=j
   .grind
   have:=i1 j x y (by simp_all) (by simp_all)
   rw[this.1,this.2]
   by_cases w:i<=j
   .simp only[if_pos (show i+1<=j by omega),if_pos w];simp_all
   grind
  rw[agN]
  by_cases q:i=j
  .subst q
   rw[hs] at hx;rw[ha] at hy;cases hx;cases hy
   rw[i4 i t.aM t.cT (by grind) (by grind),if_neg oaa,if_pos (acA _),agL,<-ht]
   simp_all
  rw[i4 j x y (by simp_all) (by simp_all)]
  have e0:(yP i t).filter (λf=>decide (f.aY.toNat=j))=[]:=afv.2 λf hf=>by simp_all
  rw[e0,afl]
  by_cases w:i<=j
  .rw[if_pos oaa,if_pos w]
  grind
def zL(i:Nat)(n:ab):List bg:=n.aH.filter λf=>decide (f.aY.toNat=i)
structure TickAt(i:Nat)(n:ab)(d0:aA)(s0:ag)(a0:av)(n':ab):Prop where
 d:n'.aj[i]?=ς (ef d0).aY
 s:n'.an[i]?=ς (bX s0 a0 n.cp).aM
 a:n'.aT[i]?=ς (bX s0 a0 n.cp).cT
 f:zL i n'=xi i d0++yP i (bX s0 a0 n.cp)
 m:n'.cp=n.cp
 w:n'.bH=n.bH
theorem aea(hn:NP B n)(hq:n.aH=[])(hw:n.iS<100000){d:aA}(hd:n.aj[i]?=ς d)(hs:n.an[i]?=ς s)(ha:n.aT[i]?=ς a):TickAt i n d s a (jp n).2:=by
 have hls:=hn.ls
 have hla:=hn.la
 have hld:=hn.ld
 have hml:=fX hn.map
 obtain⟨n1,e1⟩:∃n1,n1=em n.aj.length 0 {n with iS:=n.iS+1}:=⟨_,rfl⟩
 have e:(jp n).2=fC n1.an.length 0 n1:=by rw[jp,leB_f.2 hw,e1];rfl
 have h1:=Pf n.aj.length 0 (n:={n with iS:=n.iS+1}) (by simp) (by grind)
 rw[<-e1] at h1
 obtain⟨p1,⟨l,p2,p3,p4⟩,p5,p6,p7,p8,p9,p10⟩:=h1
 simp only[hq,afl] at p2
 simp only at p5 p6 p7 p8
 have h2:=Pm n1.an.length 0 (n:=n1) (by simp_all) (by simp) (by simp_all) (by grind)
 rw[p5,p6,p7] at h2
 obtain⟨q1,⟨l2,q2,q4⟩,q5,q6,q7,q8⟩:=h2
 have g1:=q1 i s a hs ha
 rw[if_pos (ac7 _),if_pos (ac7 _)] at g1
 have g2:=p1 i d hd
 rw[if_pos (ac7 _)] at g2
 refine⟨?_,?_,?_,?_,?_,?_⟩
 .simp_all
 .simp_all
 .simp_all
 .rw[e,p5,zL,q2,p2,agN,p4 i d hd,q4 i s a hs ha,if_pos (ac7 _),if_pos (ac7 _)]
 .simp_all
 simp_all
def dZ(u:Int->Bool)(i:Nat)(f:bg)(d:aA)(s:ag):aA×ag×List bg:=
 bif !u f.aS then(d,s,[]) else
 bif f.dF then(bif f.cg||!eqB f.aP.aS f.aS then(d,s,[]) else(d,(sUp s f.aP).aM,(sUp s f.aP).bY.map (cM i η)))
 else bif !eqB d.aS f.aS then(d,s,[]) else
  ((bif f.cg then kq d f.bV else iU d f.aP).aY,s,(bif f.cg then kq d f.bV else iU d f.aP).bY.map (cM i ζ))
def upF(m:be)(w:Int)(c:Int):Bool:=er m c&&eqB (yo .i64 (Cf .i64 w c) 1) 0
theorem isUp_F(n:ab)(c:Int):oo n c=upF n.cp n.bH c:=rfl
theorem adr(d:aA)(f:bg):(bif f.cg then kq d f.bV else iU d f.aP).bY.length<=1:=by
 cases f.cg
 .exact(Bc d f.aP).len
 exact(Bb d f.bV).len
structure Xc(i:Nat)(n:ab)(d:aA)(s:ag)(f:bg)(n':ab):Prop where
 own:f.aY.toNat=i->n'.aj[i]?=ς (dZ (upF n.cp n.bH) i f d s).1/\n'.an[i]?=ς (dZ (upF n.cp n.bH) i f d s).2.1/\zL i n'=(zL i n).tail++(dZ (upF n.cp n.bH) i f d s).2.2/\zL i n=f::(zL i n).tail
 oth:f.aY.toNat≠i->n'.aj[i]?=ς d/\n'.an[i]?=ς s/\zL i n'=zL i n
 a:n'.aT=n.aT
 m:n'.cp=n.cp
 w:n'.bH=n.bH
 t:n'.iS=n.iS
theorem del_at(hn:NP B n){r:List bg}(hf:n.aH=f::r){d:aA}(hd:n.aj[i]?=ς d)(hs:n.an[i]?=ς s):Xc i n d s f (dS n 0):=by
 have hl:=hn.fl
 rw[hf,aee] at hl
 have h0:n.aH[0]?=ς f:=by rw[hf];rfl
 have hcut:(ez n 0).aH=r:=by simp[ez,hf]
 have hdd:=(hn.fs f (by rw[hf];simp)).d
 obtain⟨d0,s0,a0,e1,e2,e3,hm⟩:=hn.at_ (i:=f.aY.toNat) oaa
 have q1:(ez n 0).aj[f.aY.toNat]?=ς d0:=e1
 have q2:(ez n 0).an[f.aY.toNat]?=ς s0:=e2
 have hmine:zL i n=(if f.aY.toNat=i then [f] else [])++r.filter (λg=>decide (g.aY.toNat=i)):=by
  rw[zL,hf,List.filter_cons]
  by_cases e:f.aY.toNat=i
  .simp_all
  simp_all
 have hup:oo (ez n 0) f.aS=upF n.cp n.bH f.aS:=rfl
 have key:∀(n':ab) (d1:aA) (s1:ag) (l:List bg),n'.aj=n.aj.set f.aY.toNat d1->n'.an=n.an.set f.aY.toNat s1->n'.aH=r++l->(∀g∈l,g.aY.toNat=f.aY.toNat)->
  (f.aY.toNat=i->dZ (upF n.cp n.bH) i f d s=(d1,s1,l))->n'.aT=n.aT->n'.cp=n.cp->n'.bH=n.bH->n'.iS=n.iS->Xc i n d s f n':=by
  intro n' d1 s1 l g1 g2 g3 g4 g5 g6 g7 g8 g9
  refine⟨λe=>?_,λe=>?_,g6,g7,g8,g9⟩
  .have hil:=(abb.1 hd).1
   have his:=(abb.1 hs).1
   rw[g5 e,g1,g2,e]
   rw[if_pos e] at hmine
   refine⟨by simp[hil],by simp[his],?_,?_⟩
   .rw[hmine,zL,g3,agN]
    simp_all
   simp_all
  rw[if_neg e] at hmine
  refine⟨by simp_all,by simp_all,?_⟩
  rw[hmine,zL,g3,agN,afl]
  simp_all
 have hsame:∀n':ab,n'.aj=n.aj->n'.an=n.an->n'.aH=r->(f.aY.toNat=i->dZ (upF n.cp n.bH) i f d s=(d,s,[]))->n'.aT=n.aT->n'.cp=n.cp->n'.bH=n.bH->n'.iS=n.iS->Xc i n d s f n':=by
  intro n' g1 g2 g3 g5 g6 g7 g8 g9
  refine key n' d0 s0 [] (by rw[fR e1];exact g1) (by rw[fR e2];exact g2) (by simp_all) (by simp) (λe=>?_) g6 g7 g8 g9
  rw[g5 e]
  rw[e,hd] at e1;rw[e,hs] at e2;cases e1;cases e2;rfl
 rw[dS,h0]
 simp only
 rw[hup]
 cases hu:upF n.cp n.bH f.aS
 .simp only[au]
  exact hsame _ rfl rfl hcut (λe=>by simp[dZ,hu]) rfl rfl rfl rfl
 simp only[q1,q2,au]
 cases hU:f.dF
 .simp only[cond_false]
  cases hc:eqB d0.aS f.aS
  .simp only[au]
   refine hsame _ rfl rfl hcut (λe=>?_) rfl rfl rfl rfl
   rw[e,hd] at e1;cases e1
   simp[dZ,hu,hU,hc]
  simp only[au]
  have hk:=dv ((bif f.cg then kq d0 f.bV else iU d0 f.aP).bY.map (cM (f.aY.toNat:Int) ζ)) {ez n 0 with aj:=(ez n 0).aj.set f.aY.toNat (bif f.cg then kq d0 f.bV else iU d0 f.aP).aY}
  have hlen:=adr d0 f
  refine key _ (bif f.cg then kq d0 f.bV else iU d0 f.aP).aY s0 ((bif f.cg then kq d0 f.bV else iU d0 f.aP).bY.map (cM (f.aY.toNat:Int) ζ)) hk.1 (by rw[fR e2];exact hk.2.1) ?_ (λg hg=>?_) (λe=>?_) hk.2.2.1 hk.2.2.2.1 hk.2.2.2.2.1 hk.2.2.2.2.2.2
  .rw[dY,xU _ (by grind)]
   simp_all
  .obtain⟨m,_,rfl⟩:=afk.1 hg;rfl
  rw[e,hd] at e1;rw[e,hs] at e2;cases e1;cases e2
  simp[dZ,hu,hU,hc,e]
 simp only[cond_true]
 cases hc:f.cg||!eqB f.aP.aS f.aS
 .simp only[cond_false]
  have hk:=dv ((sUp s0 f.aP).bY.map (cM (f.aY.toNat:Int) η)) {ez n 0 with an:=(ez n 0).an.set f.aY.toNat (sUp s0 f.aP).aM}
  have hlen:=(In s0 f.aP).len
  refine key _ d0 (sUp s0 f.aP).aM ((sUp s0 f.aP).bY.map (cM (f.aY.toNat:Int) η)) (by rw[fR e1];exact hk.1) hk.2.1 ?_ (λg hg=>?_) (λe=>?_) hk.2.2.1 hk.2.2.2.1 hk.2.2.2.2.1 hk.2.2.2.2.2.2
  .rw[tu,xU _ (by grind)]
   simp_all
  .obtain⟨m,_,rfl⟩:=afk.1 hg;rfl
  rw[e,hd] at e1;rw[e,hs] at e2;cases e1;cases e2
  simp[dZ,hu,hU,hc,e]
 simp only[cond_true]
 refine hsame _ rfl rfl hcut (λe=>?_) rfl rfl rfl rfl
 simp[dZ,hu,hU,hc]
structure zG(K G:Int)(nc i:Nat)(d:aA)(s:ag)(a:av)(F:List bg):Prop where
 mp:MP nc i d s a
 si:SI d s a
 li:LI K d s
 sq:s.bD.cH<=G
 fi:∀f∈F,FI d s f
 lf:∀f∈F,LF K d s f
theorem Qh(hn:NP B n)(p:PI n)(l:LN K n)(g:GB G n){d:aA}(hd:n.aj[i]?=ς d)(hs:n.an[i]?=ς s)(ha:n.aT[i]?=ς a):zG K G n.cp.bp.length i d s a (zL i n):=by
 refine⟨hn.m i d s a hd hs ha,p.si i d s a hd hs ha,l.li i d s hd hs,?_,λf hf=>?_,λf hf=>?_⟩
 .have:=g i s hs
  have:=Tp n.aH i
  omega
 all_goals
  obtain⟨h1,h2⟩:=List.mem_filter.1 hf
  have h2:f.aY.toNat=i:=by simpa using h2
 .exact p.fi f h1 d s (by simp_all) (by simp_all)
 exact l.lf f h1 d s (by simp_all) (by simp_all)
theorem solo{P:aA->ag->List bg->Prop}{m:be}{w:Int}{i:Nat}{a:av}{KK G:Int}(uR:∀(d:aA) (s:ag) (f:bg) (F:List bg),zG KK G m.bp.length i d s a (f::F)->zG KK G m.bp.length i (dZ (upF m w) i f d s).1 (dZ (upF m w) i f d s).2.1 a (F++(dZ (upF m w) i f d s).2.2)->P d s (f::F)->P (dZ (upF m w) i f d s).1 (dZ (upF m w) i f d s).2.1 (F++(dZ (upF m w) i f d s).2.2)):
 ∀(c:Nat) {B K:Int} {n:ab} {d:aA} {s:ag},NP B n->B+c<4611686018427387904->PI n->LN K n->K+c<=KK->GB G n->n.cp=m->n.bH=w->n.aT[i]?=ς a->n.aj[i]?=ς d->n.an[i]?=ς s->P d s (zL i n)->
  ∃d' s',(mz c n).aj[i]?=ς d'/\(mz c n).an[i]?=ς s'/\(mz c n).aT[i]?=ς a/\P d' s' (zL i (mz c n))/\(mz c n).cp=m/\(mz c n).bH=w/\(mz c n).iS=n.iS
 |0,B,K,n,d,s,hn,_,p,l,hk,g,h1,h2,ha,hd,hs,hp=>⟨d,s,hd,hs,ha,hp,h1,h2,rfl⟩
 |c+1,B,K,n,d,s,hn,hB,p,l,hk,g,h1,h2,ha,hd,hs,hp=>by
  rw[mz]
  cases hf:n.aH with
  |nil=>
   simp_all
  |cons f r=>
   rw[eqB_f.2 (show(((f::r).length:Nat):Int)≠0 by grind)]
   simp only[cond_false]
   have hat:=del_at hn hf hd hs
   have hn':=oS hn 0 oaa
   have p':=yv hn p 0
   have l':=Cl hn p l 0
   have g':=Ck hn g 0
   have m':(dS n 0).cp=m:=hat.m.trans h1
   have w':(dS n 0).bH=w:=hat.w.trans h2
   have a':(dS n 0).aT[i]?=ς a:=by rw[hat.a];exact ha
   have step:∀{d' s'},(dS n 0).aj[i]?=ς d'->(dS n 0).an[i]?=ς s'->P d' s' (zL i (dS n 0))->_:=λ{d' s'} x y z=>by
    have:=solo uR c hn' oaa p' l' oaa g' m' w' a' x y z
    rw[hat.t] at this
    exact this
   by_cases e:f.aY.toNat=i
   .obtain⟨o1,o2,o3,o4⟩:=hat.own e
    rw[h1,h2] at o1 o2 o3
    have e1:=(Qh hn p (l.up (K':=KK) oaa) g hd hs ha)
    have e2:=(Qh hn' p' (l'.up (K':=KK) oaa) g' o1 o2 a')
    grind
   obtain⟨o1,o2,o3⟩:=hat.oth e
   simp_all
def xp(i:Int)(l:List aU):Prop:=∀x∈l,x.aO=i
theorem Xq{i n:Int}:∀{l:List aU},xp i l->xp i (FG l i n)
 |[],_=>λx hx=>by simp[FG] at hx;subst hx;rfl
 |y::l,h=>by
  have h1:xp i l:=λx hx=>h x (by simp[hx])
  have hy:=h y (by simp)
  rw[FG,if_neg oaa,if_pos hy]
  intro x hx
  rcases acb.1 hx with rfl|hx
  .rfl
  exact h1 x hx
theorem XL{i n:Int}:∀{l:List aU},xp i l->xp i (Le l i n)
 |[],_=>λx hx=>by simp[Le] at hx
 |y::l,h=>by
  have h1:xp i l:=λx hx=>h x (by simp[hx])
  have hy:=h y (by simp)
  rw[Le,if_pos hy]
  split
  .intro x hx
   rcases acb.1 hx with rfl|hx
   .rfl
   exact h1 x hx
  exact h1
theorem OF{i n:Int}(h:xp i a.aD):xp i (ig a i n).1.aD:=by
 rw[ig]
 cases ltB i 0||(!inR n 1 100000||(eqB a.bL 0||full a i))
 .exact Xq h
 exact h
theorem UM{i n:Int}(h:xp i a.aD):xp i (xv a i n).aD:=by
 rw[xv]
 cases ltB 0 n
 .exact h
 exact XL h
theorem G3{n:Int}(h:xp s.bG.aO a.aD):xp s.bG.aO (cf s a n).2.aD:=by
 rw[cf]
 cases leB (gF s n) 0
 .exact OF h
 exact h
def rR(s:ag)(a:av):Int:=a.d9+a.bL+s.bG.cG
theorem G4(h:SG s a)(n:Int):rR (cf s a n).1 (cf s a n).2=rR s a/\(cf s a n).1.bG.d6=s.bG.d6:=by
 rw[cf]
 cases leB (gF s n) 0
 .obtain⟨h1,h2,h3,h4,h5,h6,h7⟩:=yT h.mo.acc s.bG.aO (yO (gF s n) s.gI.d4)
  refine⟨?_,rfl⟩
  simp only[cond_false,rR,jC]
  omega
 simp_all
theorem KD:∀(k:Nat) (s:ag) (a:av) (r:List aF),SG s a->xp s.bG.aO a.aD->
 rR (fm k s a r).1 (fm k s a r).2.1=rR s a/\xp s.bG.aO (fm k s a r).2.1.aD
 |0,s,a,r,h,o=>⟨rfl,o⟩
 |k+1,s,a,r,h,o=>by
  rw[fm]
  cases e:nM s with
  |none=>simp_all
  |some x=>
   obtain⟨hm,hx,_,hn,hl,hb⟩:=jq h.sp e
   have he:=rh h (n:=(x.bh.length:Int)) oaa
   obtain⟨q,hk⟩:=je s a (x.bh.length:Int)
   have hid:=Es s a (x.bh.length:Int)
   have ht:=(G4 h (x.bh.length:Int)).1
   have ho:=G3 (n:=(x.bh.length:Int)) o
   simp only
   cases hq:ltB 0 (gF (cf s a (x.bh.length:Int)).1 (x.bh.length:Int))
   .simp only[cond_false]
    have ih:=KD k {(cf s a (x.bh.length:Int)).1 with ax:=sent (cf s a (x.bh.length:Int)).1.ax x.bh} (cf s a (x.bh.length:Int)).2
     (r++[fY (cf s a (x.bh.length:Int)).1.aZ (cf s a (x.bh.length:Int)).1.ae (cf s a (x.bh.length:Int)).1.aK ⟨(cf s a (x.bh.length:Int)).1.ax.bw,x.bh⟩])
     (y4 he (by rw[hk];exact e) hq) (by simp_all)
    simp only at ih
    rw[hid] at ih
    exact⟨ih.1.trans ht,ih.2⟩
   simp_all
theorem JY(h:xp s.bG.aO a.aD):xp s.bG.aO (eK s a).1.aD:=by
 rw[eK]
 cases leB s.gI.d4 s.bG.d6
 .exact h
 exact UM h
theorem ER(h:SG s a)(m:be)(o:xp s.bG.aO a.aD):
 rR (bX s a m).aM (bX s a m).cT=rR s a/\xp s.bG.aO (bX s a m).cT.aD:=by
 have hg:=Aa h
 have ho:=JY o
 have e:(eK s a).1.d9+(eK s a).1.bL+(eK s a).2.cG=rR s a:=by
  obtain⟨_,g2,_,g4,_,g6⟩:=hg
  simp only[rR];omega
 rw[bX]
 cases eqB s.aX 1
 .simp_all
 simp only[au]
 cases ltB 4 (eH s)
 .simp only[cond_false,vh]
  have hn:=KD 2 _ _ [] (h.upd (va h.sp) (vc h.sp)) (by simp_all)
  simp only at hn
  rw[hg.2.2.1] at hn
  exact⟨hn.1.trans e,hn.2⟩
 exact⟨e,ho⟩
def RA(n:ab):Prop:=∀(i:Nat) a,n.aT[i]?=ς a->xp i a.aD
theorem KI:∀(c i:Nat) (n:ab),(em c i n).aT=n.aT
 |0,_,_=>rfl
 |c+1,i,n=>by
  rw[em]
  cases n.aj[i]? with
  |none=>rfl
  |some d=>exact(KI c (i+1) _).trans (jt n i (ef d)).2.2.2.1
theorem Pk:∀(c i:Nat) {B:Int} {n:ab},NP B n->B+2000*c<4611686018427387904->RA n->RA (fC c i n)
 |0,_,B,n,_,_,h=>h
 |c+1,i,B,n,hn,hB,h=>by
  rw[fC]
  cases hs:n.an[i]? with
  |none=>exact h
  |some s=>cases ha:n.aT[i]? with
   |none=>exact h
   |some a=>
    have hls:=hn.ls
    have hml:=fX hn.map
    obtain⟨d,s',a',e1,e2,e3,hm⟩:=hn.at_ (i:=i) (by grind)
    rw[hs] at e2;rw[ha] at e3;cases e2;cases e3
    have ho:=h i a ha
    rw[<-hm.si] at ho
    have ht:=(ER hm.sg n.cp ho).2
    rw[hm.si] at ht
    refine Pk c (i+1) (DD hn hs ha (mT hm.sg oaa) (AN hm.sg hn.map) oaa) oaa λj x hx=>?_
    have k1:=dv ((bX s a n.cp).fj.map (cM i η)) {n with an:=n.an.set i (bX s a n.cp).aM,aT:=n.aT.set i (bX s a n.cp).cT}
    have k2:=dv ((bX s a n.cp).bV.map (lj i (bX s a n.cp).aM.aS)) (sends {n with an:=n.an.set i (bX s a n.cp).aM,aT:=n.aT.set i (bX s a n.cp).cT} ((bX s a n.cp).fj.map (cM i η)))
    have hx':(n.aT.set i (bX s a n.cp).cT)[j]?=ς x:=by simpa [gk,k2.2.2.1,k1.2.2.1] using hx
    rcases jM hx' with⟨e1,e2⟩|⟨e1,e2⟩
    .simp_all
    exact h j x e2
theorem Pd:∀(c i:Nat) {B:Int} {n:ab},NP B n->B+c<4611686018427387904->NP (B+c) (em c i n)
 |0,_,_,_,hn,_=>by simpa [em] using hn
 |c+1,i,B,n,hn,hB=>by
  rw[em]
  cases hd:n.aj[i]? with
  |none=>exact hn.mono oaa
  |some d=>
   obtain⟨d',s,a,e1,e2,e3,hm⟩:=hn.at_ (abb.1 hd).1
   rw[hd] at e1;cases e1
   exact(Pd c (i+1) (lV hn hd (nX d) (zZ hm.dp) hm.dc oaa) oaa).mono oaa
theorem Uf(hn:NP B n)(hB:B+10000<4611686018427387904)(h:RA n):RA (jp n).2:=by
 rw[jp]
 cases hb:leB 100000 n.iS
 .simp only[cond_false]
  have hb:=xh hb
  have hnw:=hn.nw
  have hl:=hn.ld
  have h1:NP B {n with iS:=n.iS+1}:={hn with nw:=by grind}
  have a3:=Pd n.aj.length 0 h1 oaa
  have hls:=a3.ls
  have hl2:=a3.ld
  exact Pk _ 0 a3 oaa (λj x hx=>h j x (by rw[KI] at hx;exact hx))
 exact h
theorem Fc(n:ab)(k:Nat):(dS n k).aT=n.aT:=by
 rw[dS]
 cases n.aH[k]? with
 |none=>rfl
 |some f=>
  simp only
  cases oo (ez n k) f.aS
  .rfl
  simp only[au]
  cases f.dF
  .simp only[cond_false]
   cases(ez n k).aj[f.aY.toNat]? with
   |none=>rfl
   |some d=>
    simp only
    cases eqB d.aS f.aS
    .rfl
    exact(jt (ez n k) f.aY.toNat _).2.2.2.1
  simp only[cond_true]
  cases f.cg||!eqB f.aP.aS f.aS
  .simp only[cond_false]
   cases(ez n k).an[f.aY.toNat]? with
   |none=>rfl
   |some s=>exact(dv _ _).2.2.1
  rfl
theorem Xx(hn:NP B n)(hB:B+10000<4611686018427387904)(h:RA n)(e:cU):RA (gO n e).2:=by
 have keep:∀n':ab,n'.aT=n.aT->RA n':=λn' e j x hx=>h j x (by simp_all)
 rw[gO]
 split
 .exact Uf hn hB h
 split
 .rw[qj]
  cases inR e.cq 0 ((n.aH.length:Int)-1)
  .exact h
  simp only[au]
  cases eqB e.bb 2
  .simp only[cond_false]
   cases eqB e.bb 3
   .simp only[cond_false]
    cases leB 200 (n.aH.length:Int)
    .simp only[cond_false]
     cases n.aH[e.cq.toNat]? with
     |none=>exact h
     |some f=>exact keep _ (ie n f).2.2.1
    exact h
   exact keep _ rfl
  exact keep _ (Fc n _)
 split
 .rw[BS]
  cases inR e.cq 0 ((n.aj.length:Int)-1)
  .exact h
  simp only[au]
  cases n.aj[e.cq.toNat]? with
  |none=>exact h
  |some d=>cases n.an[e.cq.toNat]? with
   |none=>exact h
   |some s=>
    simp only
    cases eqB e.bb 5
    .simp only[cond_false]
     cases eqB e.bb 6
     .grind
     simp only[cond_true]
     cases eqB e.aS d.aS||!er n.cp e.aS
     .exact keep _ (jt n _ _).2.2.2.1
     exact h
    simp only[cond_true]
    cases eqB d.aX 0
    .exact h
    exact keep _ (jt n _ _).2.2.2.1
 split
 .rw[mL];grind
 split
 .rw[kv];grind
 split
 .rw[uY];cases zE n e.b8
  .exact h
  exact keep _ (ie n _).2.2.1
 exact h
theorem Reach.ra:∀{k:Nat} {n:ab},Reach k n->k<=100000->RA n
 |_,_,.new h hm hp hl hq,_=>λi a ha=>by
  obtain⟨_,rfl⟩:=sV ha
  intro x hx;simp[Cb] at hx
 |_,_,.step (k:=k) h he hh,hk=>Xx (h.np oaa) oaa (h.ra oaa) _
theorem tickE(n:ab):gO n ⟨1,0,0,[],fT⟩=jp n:=by rfl
theorem ME(hn:NP B n)(hB:B+10000<4611686018427387904)(p:PI n):PI (jp n).2:=by
 have:=M7 hn hB p (e:=⟨1,0,0,[],fT⟩) (z7 (by intro x hx;simp at hx)) (o9 n (by simp))
 rwa [tickE] at this
structure EQ(r:Nat)(n:ab):Prop where
 np:∃B:Int,NP B n/\B+14000*r<=1000000000000
 pi:PI n
 ln:∃K:Int,LN K n/\K+4100*r<=900000
 gb:∃G:Int,GB G n/\G+r<=900
 ra:RA n
 nw:n.iS+r<=100000
theorem MD(hK:K<999999)(hn:NP B n)(hB:B+10000<4611686018427387904)(p:PI n)(h:LN K n):LN (K+8) (jp n).2:=by
 have:=M6 hK hn hB p h (e:=⟨1,0,0,[],fT⟩) (o9 n (by simp))
 rwa [tickE] at this
theorem Sj:∀(c:Nat) {B K:Int} {n:ab},NP B n->B+c<4611686018427387904->PI n->LN K n->LN (K+c) (mz c n)
 |0,B,K,n,h,_,_,l=>by simpa [mz] using l
 |c+1,B,K,n,h,hB,p,l=>by
  rw[mz]
  cases eqB (n.aH.length:Int) 0
  .exact(Sj c (oS h 0 oaa) oaa (yv h p 0) (Cl h p l 0)).up oaa
  exact l.up oaa
theorem Si:∀(c:Nat) {B G:Int} {n:ab},NP B n->B+c<4611686018427387904->GB G n->GB G (mz c n)
 |0,B,G,n,h,_,l=>l
 |c+1,B,G,n,h,hB,l=>by
  rw[mz]
  cases eqB (n.aH.length:Int) 0
  .exact Si c (oS h 0 oaa) oaa (Ck h l 0)
  exact l
theorem Nm:∀(c:Nat) (n:ab),(mz c n).aT=n.aT
 |0,n=>rfl
 |c+1,n=>by
  rw[mz]
  cases eqB (n.aH.length:Int) 0
  .exact(Nm c _).trans (Fc n 0)
  rfl
theorem C9(n:ab)(k:Nat):(dS n k).cp=n.cp/\(dS n k).bH=n.bH/\(dS n k).iS=n.iS/\(dS n k).aj.length=n.aj.length:=by
 rw[dS]
 cases n.aH[k]? with
 |none=>simp_all
 |some f=>
  simp only
  cases oo (ez n k) f.aS
  .exact⟨rfl,rfl,rfl,rfl⟩
  simp only[au]
  cases f.dF
  .simp only[cond_false]
   cases(ez n k).aj[f.aY.toNat]? with
   |none=>exact⟨rfl,rfl,rfl,rfl⟩
   |some d=>
    simp only
    cases eqB d.aS f.aS
    .exact⟨rfl,rfl,rfl,rfl⟩
    simp only[au]
    have hk:=dv ((bif f.cg then kq d f.bV else iU d f.aP).bY.map (cM (f.aY.toNat:Int) ζ)) {ez n k with aj:=(ez n k).aj.set f.aY.toNat (bif f.cg then kq d f.bV else iU d f.aP).aY}
    exact⟨hk.2.2.2.1,hk.2.2.2.2.1,hk.2.2.2.2.2.2,by rw[dY,hk.1];simp[ez]⟩
  simp only[cond_true]
  cases f.cg||!eqB f.aP.aS f.aS
  .simp only[cond_false]
   cases(ez n k).an[f.aY.toNat]? with
   |none=>exact⟨rfl,rfl,rfl,rfl⟩
   |some s=>
    have hk:=dv ((sUp s f.aP).bY.map (cM (f.aY.toNat:Int) η)) {ez n k with an:=(ez n k).an.set f.aY.toNat (sUp s f.aP).aM}
    exact⟨hk.2.2.2.1,hk.2.2.2.2.1,hk.2.2.2.2.2.2,by simp only[tu];rw[hk.1];rfl⟩
  exact⟨rfl,rfl,rfl,rfl⟩
theorem JL:∀(c:Nat) (n:ab),(mz c n).cp=n.cp/\(mz c n).bH=n.bH/\(mz c n).iS=n.iS/\(mz c n).aj.length=n.aj.length
 |0,n=>⟨rfl,rfl,rfl,rfl⟩
 |c+1,n=>by
  rw[mz]
  cases eqB (n.aH.length:Int) 0
  .have h1:=JL c (dS n 0)
   have h2:=C9 n 0
   simp_all
  simp_all
theorem IN:∀(c i:Nat) (n:ab),(fC c i n).cp=n.cp/\(fC c i n).bH=n.bH/\(fC c i n).iS=n.iS/\(fC c i n).aj.length=n.aj.length
 |0,_,n=>⟨rfl,rfl,rfl,rfl⟩
 |c+1,i,n=>by
  rw[fC]
  cases n.an[i]? with
  |none=>simp_all
  |some s=>cases n.aT[i]? with
   |none=>simp_all
   |some a=>
    have k1:=dv ((bX s a n.cp).fj.map (cM i η)) {n with an:=n.an.set i (bX s a n.cp).aM,aT:=n.aT.set i (bX s a n.cp).cT}
    have k2:=dv ((bX s a n.cp).bV.map (lj i (bX s a n.cp).aM.aS)) (sends {n with an:=n.an.set i (bX s a n.cp).aM,aT:=n.aT.set i (bX s a n.cp).cT} ((bX s a n.cp).fj.map (cM i η)))
    have ih:=IN c (i+1) (gk n i (bX s a n.cp))
    simp only[gk] at ih ⊢
    simp_all
theorem IL:∀(c i:Nat) (n:ab),(em c i n).cp=n.cp/\(em c i n).bH=n.bH/\(em c i n).iS=n.iS/\(em c i n).aj.length=n.aj.length
 |0,_,n=>⟨rfl,rfl,rfl,rfl⟩
 |c+1,i,n=>by
  rw[em]
  cases n.aj[i]? with
  |none=>simp_all
  |some d=>
   have hk:=dv ((ef d).bY.map (cM i ζ)) {n with aj:=n.aj.set i (ef d).aY}
   have ih:=IL c (i+1) (dY n i (ef d))
   simp only[dY] at ih ⊢
   simp_all
theorem E7(hw:n.iS<100000):(jp n).2.cp=n.cp/\(jp n).2.bH=n.bH/\(jp n).2.iS=n.iS+1/\(jp n).2.aj.length=n.aj.length:=by
 rw[jp,leB_f.2 hw]
 simp only[cond_false]
 have h1:=IL n.aj.length 0 {n with iS:=n.iS+1}
 have h2:=IN (em n.aj.length 0 {n with iS:=n.iS+1}).an.length 0 (em n.aj.length 0 {n with iS:=n.iS+1})
 simp_all
theorem yU(hw:n.iS<100000):(ei n).cp=n.cp/\(ei n).bH=n.bH/\(ei n).iS=n.iS+1/\(ei n).aj.length=n.aj.length:=by
 have h1:=E7 hw
 have h2:=JL 4000 (jp n).2
 exact⟨h2.1.trans h1.1,h2.2.1.trans h1.2.1,h2.2.2.1.trans h1.2.2.1,h2.2.2.2.trans h1.2.2.2⟩
theorem EQ.round{r:Nat}(h:EQ (r+1) n):EQ r (ei n)/\(ei n).aH=[]:=by
 obtain⟨B,hn,hB⟩:=h.np
 obtain⟨K,hl,hK⟩:=h.ln
 obtain⟨G,hg,hG⟩:=h.gb
 have hw:=h.nw
 have t1:=(ux hn oaa).2.2
 have t2:=ME hn oaa h.pi
 have t3:=MD oaa hn oaa h.pi hl
 have t4:=D5 hg
 have t5:=Uf hn oaa h.ra
 refine⟨⟨⟨_,Lj 4000 t1 oaa,by omega⟩,Sk 4000 t1 oaa t2,⟨_,Sj 4000 t1 oaa t2 t3,by omega⟩,⟨_,Si 4000 t1 oaa t4,by omega⟩,?_,?_⟩,Fq t1 oaa⟩
 .intro j x hx
  rw[ei,Nm] at hx
  exact t5 j x hx
 rw[(yU oaa).2.2.1];omega
theorem VS{P:aA->ag->List bg->Prop}{r:Nat}(h:EQ (r+1) n)(hf:n.aH=[]){d:aA}(hd:n.aj[i]?=ς d)(hs:n.an[i]?=ς s)(ha:n.aT[i]?=ς a)(uR:∀(d':aA) (s':ag) (f:bg) (F:List bg),zG 900000 900 n.cp.bp.length i d' s' (bX s a n.cp).cT (f::F)->zG 900000 900 n.cp.bp.length i (dZ (upF n.cp n.bH) i f d' s').1 (dZ (upF n.cp n.bH) i f d' s').2.1 (bX s a n.cp).cT (F++(dZ (upF n.cp n.bH) i f d' s').2.2)->P d' s' (f::F)->P (dZ (upF n.cp n.bH) i f d' s').1 (dZ (upF n.cp n.bH) i f d' s').2.1 (F++(dZ (upF n.cp n.bH) i f d' s').2.2))(h0:zG 900000 900 n.cp.bp.length i (ef d).aY (bX s a n.cp).aM (bX s a n.cp).cT (xi i d++yP i (bX s a n.cp))->P (ef d).aY (bX s a n.cp).aM (xi i d++yP i (bX s a n.cp))):
 ∃d' s',(ei n).aj[i]?=ς d'/\(ei n).an[i]?=ς s'/\(ei n).aT[i]?=ς (bX s a n.cp).cT/\P d' s' []:=by
 obtain⟨B,hn,hB⟩:=h.np
 obtain⟨K,hl,hK⟩:=h.ln
 obtain⟨G,hg,hG⟩:=h.gb
 have hw:=h.nw
 have t1:=(ux hn oaa).2.2
 have t2:=ME hn oaa h.pi
 have t3:=MD oaa hn oaa h.pi hl
 have t4:=(D5 hg).up (G':=900) oaa
 have ht:=aea hn hf oaa hd hs ha
 have e0:=Qh t1 t2 (t3.up (K':=900000) oaa) t4 ht.d ht.s ht.a
 rw[ht.m,ht.f] at e0
 obtain⟨d',s',q1,q2,q3,q4,_⟩:=solo uR 4000 t1 oaa t2 t3 oaa t4 ht.m ht.w ht.a ht.d ht.s (by rw[ht.f];exact h0 e0)
 refine⟨d',s',q1,q2,q3,?_⟩
 have:zL i (mz 4000 (jp n).2)=[]:=by rw[zL,Fq t1 oaa];rfl
 simp_all
theorem aaz(s:ag)(m:aG):(sUp s m).aM.aC=s.aC/\(sUp s m).aM.bG.cG=s.bG.cG/\(sUp s m).aM.bG.aO=s.bG.aO/\(sUp s m).aM.gI=s.gI:=by
 rw[sUp]
 cases eS m
 .simp_all
 simp only[au]
 cases eqB m.bb 1
 .simp only[cond_false]
  cases eqB m.bb 3
  .simp only[cond_false]
   cases eqB m.bb 5
   .simp only[cond_false]
    cases eqB m.bb 8
    .simp_all
    simp only[cond_true,vL]
    cases !gx s m||ltB s.ax.bw m.bP
    .simp only[cond_false,lk,tC]
     grind
    simp_all
   simp only[cond_true,mS]
   cases !gx s m||(ltB m.aK s.aK||(eqB m.aK s.aK&&!eqB m.aS s.aS))<;>exact⟨rfl,rfl,rfl,rfl⟩
  simp only[cond_true,rf]
  cases leB s.bA 0||(!eqB m.ae s.bA||(!eqB m.bP s.aV.vB||leB 999999 s.aK))<;>exact⟨rfl,rfl,rfl,rfl⟩
 simp only[cond_true,zM]
 grind
structure KP(d0:aA)(s0:ag)(d:aA)(s:ag):Prop where
 c:d.aS=d0.aS
 u:s.aC=s0.aC
 g:s.bG.cG=s0.bG.cG
 i:s.bG.aO=s0.bG.aO
theorem KP.refl(d:aA)(s:ag):KP d s d s:=⟨rfl,rfl,rfl,rfl⟩
theorem T9{u:Int->Bool}{d0 d:aA}{s0:ag}(h:KP d0 s0 d s):KP d0 s0 (dZ u i f d s).1 (dZ u i f d s).2.1:=by
 rw[dZ]
 cases u f.aS
 .exact h
 simp only[au]
 cases f.dF
 .simp only[cond_false]
  cases eqB d.aS f.aS
  .exact h
  simp only[au]
  refine⟨?_,h.u,h.g,h.i⟩
  rw[<-h.c]
  cases f.cg
  .exact(Bc d f.aP).cell
  exact(Bb d f.bV).cell
 simp only[cond_true]
 cases f.cg||!eqB f.aP.aS f.aS
 .obtain⟨h1,h2,h3,_⟩:=aaz s f.aP
  exact⟨h.c,h1.trans h.u,h2.trans h.g,h3.trans h.i⟩
 exact h
theorem GU(d:aA):(ef d).aY.aS=d.aS:=(nX d).cell
structure IZ(n:ab)(i:Nat)(d:aA)(s:ag)(a:av)(d':aA)(s':ag)(a':av):Prop where
 c:d'.aS=d.aS
 u:s'.aC=s.aC
 t:rR s' a'=rR s a
theorem xO{P:aA->ag->List bg->Prop}{r:Nat}(h:EQ (r+1) n)(hf:n.aH=[]){d:aA}(hd:n.aj[i]?=ς d)(hs:n.an[i]?=ς s)(ha:n.aT[i]?=ς a)(uR:∀(d':aA) (s':ag) (f:bg) (F:List bg),zG 900000 900 n.cp.bp.length i d' s' (bX s a n.cp).cT (f::F)->zG 900000 900 n.cp.bp.length i (dZ (upF n.cp n.bH) i f d' s').1 (dZ (upF n.cp n.bH) i f d' s').2.1 (bX s a n.cp).cT (F++(dZ (upF n.cp n.bH) i f d' s').2.2)->KP (ef d).aY (bX s a n.cp).aM d' s'->P d' s' (f::F)->P (dZ (upF n.cp n.bH) i f d' s').1 (dZ (upF n.cp n.bH) i f d' s').2.1 (F++(dZ (upF n.cp n.bH) i f d' s').2.2))(h0:zG 900000 900 n.cp.bp.length i (ef d).aY (bX s a n.cp).aM (bX s a n.cp).cT (xi i d++yP i (bX s a n.cp))->P (ef d).aY (bX s a n.cp).aM (xi i d++yP i (bX s a n.cp))):
 ∃d' s' a',(ei n).aj[i]?=ς d'/\(ei n).an[i]?=ς s'/\(ei n).aT[i]?=ς a'/\P d' s' []/\IZ n i d s a d' s' a':=by
 obtain⟨B,hn,hB⟩:=h.np
 have hm:=hn.m i d s a hd hs ha
 have ho:=h.ra i a ha
 rw[<-hm.si] at ho
 have ht:=(ER hm.sg n.cp ho).1
 have hk:=mT hm.sg (m:=n.cp) (by have:=(fX hn.map).2;omega)
 obtain⟨d',s',q1,q2,q3,q4,q5⟩:=VS (P:=λd' s' F=>P d' s' F/\KP (ef d).aY (bX s a n.cp).aM d' s') h hf hd hs ha
  (λd' s' f F e1 e2 hp=>⟨uR d' s' f F e1 e2 hp.2 hp.1,T9 hp.2⟩) (λe=>⟨h0 e,KP.refl _ _⟩)
 refine⟨d',s',_,q1,q2,q3,q4,⟨q5.c.trans (GU d),q5.u.trans hk.sub,?_⟩⟩
 rw[<-ht,rR,rR,q5.g]
def Fp(f:bg):Prop:=f.dF=η/\(f.cg=ζ\/f.aP.bb=7)
theorem Y2:eqB 7 2=false:=by simp[eqB]
theorem Y3:eqB 7 4=false:=by simp[eqB]
theorem Y4:eqB 7 6=false:=by simp[eqB]
theorem P6{d:aA}(hk:m.bb=7)(h3:d.aX≠3)(h2:d.aX≠2):iU d m=⟨d,[]⟩:=by
 rw[iU,hk,eqB_f.2 h3,eqB_f.2 h2,Y2,Y3,Y4]
 simp_all
theorem Nq{d:aA}(x:aF)(h2:d.aX≠2):kq d x=⟨d,[]⟩:=by
 simp only[kq];rw[eqB_f.2 h2];rfl
theorem HP{u:Int->Bool}{d:aA}(h:Fp f)(h3:d.aX≠3)(h2:d.aX≠2):dZ u i f d s=(d,s,[]):=by
 obtain⟨h1,hr⟩:=h
 rw[dZ,h1]
 cases u f.aS
 .rfl
 cases eqB d.aS f.aS
 .rfl
 simp only[au]
 cases hR:f.cg
 .simp only[cond_false]
  rw[P6 (by simp_all) h3 h2];rfl
 simp only[cond_true]
 rw[Nq f.bV h2];rfl
theorem rI{d:aA}(si:SI d s a)(g:SG s a)(m:be)(i:Nat):∀f∈yP i (bX s a m),Fp f:=by
 intro f hf
 rcases ab1.1 hf with hf|hf
 .obtain⟨x,hx,rfl⟩:=afk.1 hf
  exact⟨rfl,.inr ((EO si g m).2 x hx)⟩
 obtain⟨x,hx,rfl⟩:=afk.1 hf
 exact⟨rfl,.inl rfl⟩
theorem RQ{r:Nat}(h:EQ (r+1) n)(hf:n.aH=[]){d:aA}(hd:n.aj[i]?=ς d)(hs:n.an[i]?=ς s)(ha:n.aT[i]?=ς a)(h1:d.aX=1)(hw:0<d.dy):
 ∃s' a',(ei n).aj[i]?=ς {d with dy:=d.dy-1}/\(ei n).an[i]?=ς s'/\(ei n).aT[i]?=ς a'/\IZ n i d s a {d with dy:=d.dy-1} s' a':=by
 obtain⟨B,hn,hB⟩:=h.np
 have hm:=hn.m i d s a hd hs ha
 have si:=h.pi.si i d s a hd hs ha
 have e:ef d=⟨{d with dy:=d.dy-1},[]⟩:=by rw[ef,ltB_t.2 hw];rfl
 obtain⟨d',s',a',q1,q2,q3,q4,q5⟩:=xO (P:=λd' s' F=>d'={d with dy:=d.dy-1}/\∀f∈F,Fp f) h hf hd hs ha
  (λd' s' f F _ _ _ hp=>by
   obtain⟨rfl,hp⟩:=hp
   rw[HP (d:={d with dy:=d.dy-1}) (hp f (by simp)) (show d.aX≠3 by omega) (show d.aX≠2 by omega)]
   simp_all)
  (λ_=>⟨by rw[e],λf hf=>by
   rcases ab1.1 hf with hf|hf
   .rw[xi,e] at hf;simp at hf
   exact rI si hm.sg n.cp i f hf⟩)
 simp_all
structure uB(d:aA)(s:ag):Prop where
 st:d.aX=2
 ep:s.aK=d.aK
theorem RL{k r q:Int}(h0:0<=q)(h1:q<=999999):vec k r q=⟨r,(q+msk k r)%1000000,dW k [2,r,q],dW k [3,r],HK (dW k [4,r,q])⟩:=by
 rw[vec,bE.2 ⟨h0,h1⟩];rfl
theorem K9{r:Nat}(h:EQ (r+1) n)(hf:n.aH=[]){d:aA}(hd:n.aj[i]?=ς d)(hs:n.an[i]?=ς s)(ha:n.aT[i]?=ς a)(h1:d.aX=1)(hw:d.dy=0)(hup:upF n.cp n.bH d.aS=ζ):
 ∃d' s' a',(ei n).aj[i]?=ς d'/\(ei n).an[i]?=ς s'/\(ei n).aT[i]?=ς a'/\IZ n i d s a d' s' a'/\uB d' s':=by
 obtain⟨B,hn,hB⟩:=h.np
 obtain⟨K,hl,hK⟩:=h.ln
 obtain⟨G,hg,hG⟩:=h.gb
 have hm:=hn.m i d s a hd hs ha
 have si:=h.pi.si i d s a hd hs ha
 obtain⟨qq,rr,pp,ww,uu,hsame⟩:=yZ s a n.cp
 obtain⟨s1,hs1⟩:∃s1,s1=(bX s a n.cp).aM:=⟨_,rfl⟩
 obtain⟨q,hq⟩:∃q,q=s1.bD.cH+1:=⟨_,rfl⟩
 obtain⟨d1,hd1⟩:∃d1,d1={d with dy:=3}:=⟨_,rfl⟩
 have e:ef d=⟨d1,[iY d]⟩:=by rw[ef,show ltB 0 d.dy=η from by simp_all,show eqB d.aX 1=ζ from eqB_t.2 h1,hd1];rfl
 have hrec:s1.bD=s.bD:=by rw[hs1,hsame]
 have hseq:0<=s.bD.cH/\s.bD.cH<=900:=by
  have h2:=hg i s hs
  have h3:=Tp n.aH i
  have h4:=tf hm.sg.sp.rcd
  omega
 have hqr:1<=q/\q<=999:=by rw[hq,hrec];omega
 have hlast:0<=d.dq.dh/\d.dq.dh<q:=by
  have h2:=si.cl
  have h3:=si.dg
  have h4:=hm.dp.gn
  rw[hq,hrec];omega
 have hkey:=hm.key
 have hce:=hm.dp.ce
 obtain⟨V,hV⟩:∃V,V=vec s.bD.eV (xt s.bD.ID q) q:=⟨_,rfl⟩
 have hVk:V.eV=As s.bD q:=by rw[hV];rfl
 obtain⟨ch,hch⟩:∃ch:aG,ch=⟨2,d.aS,q,0,0,V,0⟩:=⟨_,rfl⟩
 obtain⟨s2,hs2⟩:∃s2:ag,s2={s1 with bD:={s1.bD with cH:=q},aV:=V,bA:=q}:=⟨_,rfl⟩
 obtain⟨d2,hd2⟩:∃d2:aA,d2={d1 with dq:={d1.dq with dh:=q},ae:=q,aZ:=V.eV}:=⟨_,rfl⟩
 obtain⟨rs,hrs⟩:∃rs:aG,rs=⟨3,d.aS,q,0,V.vB,cO,0⟩:=⟨_,rfl⟩
 have hepk:0<=s1.aK/\s1.aK<=900000:=by
  have h2:=(hl.li i d s hd hs).se
  have h3:=hm.sg.sp.ep
  rw[hs1,hsame];simp only;omega
 have hVin:V=⟨xt s.bD.ID q,(q+msk s.bD.eV (xt s.bD.ID q))%1000000,dW s.bD.eV [2,xt s.bD.ID q,q],dW s.bD.eV [3,xt s.bD.ID q],HK (dW s.bD.eV [4,xt s.bD.ID q,q])⟩:=by
  rw[hV];exact RL oaa oaa
 have hVkey:1<=V.eV/\V.eV<=2147483646:=by rw[hVin];exact Tj _ _
 have g1:sUp s1 (iY d)=⟨s2,[ch]⟩:=by
  rw[sUp,show eS (iY d)=ζ from by simp only[eS,iY,fH,v0,bE];omega]
  simp only[iY,bj,zM,au]
  rw[eqB_f.2 (show s1.bD.cH≠999999 by omega),<-hq,hrec,<-hV,hs2,hch,hrec];rfl
 have g2:iU d1 ch=⟨d2,[rs]⟩:=by
  rw[iU,show eS ch=ζ from by simp only[eS,hch,v0,bE];omega]
  have hst:d1.aX=1:=by rw[hd1];exact h1
  have hc1:d1.aS=d.aS:=by rw[hd1]
  have hk1:d1.dq=d.dq:=by rw[hd1]
  rw[show ch.aS=d.aS from by rw[hch],show ch.bb=2 from by rw[hch],hc1,hst,bj,bj,bj,show eqB (1:Int) 0=η from by simp[eqB]]
  simp only[af7,agP,zY,au]
  have hvec:ch.bZ=vec d1.dq.eV (xt s.bD.ID q) q:=by rw[hch,hk1,hkey];exact hV
  have hu:unm d1.dq.eV ch.bZ.eJ ch.bZ.gD=q:=by
   rw[hvec,RL oaa oaa];exact MI oaa oaa
  have hrand:ch.bZ.eJ=xt s.bD.ID q:=by rw[hvec,RL oaa oaa]
  rw[show eqB (kL d1.dq.eV d1.dq.dh ch.bZ) 0=ζ from by
   rw[hvec,E8 oaa oaa,if_neg (by simp_all),if_neg (by grind),bj]]
  rw[hrand] at hu
  simp only[cond_true,hrand,hu]
  rw[hd2,hrs,show ch.ae=q from by rw[hch],hc1]
  congr 1
  .simp_all
  grind
 obtain⟨ac,hac⟩:∃ac,ac=lr (oY s2 d.aS) 4:=⟨_,rfl⟩
 have g3:sUp s2 rs=⟨oY s2 d.aS,[ac]⟩:=by
  have hres:0<=V.vB/\V.vB<=1000000000000:=by
   rw[hVin];have:=lF s.bD.eV [3,xt s.bD.ID q];unfold hM at this;simp only;omega
  rw[sUp,show eS rs=ζ from by simp only[eS,hrs,v0,bE];omega]
  rw[show rs.bb=3 from by rw[hrs],show eqB (3:Int) 1=η from by simp[eqB],bj]
  simp only[rf,au]
  rw[show rs.ae=q from by rw[hrs],show rs.bP=V.vB from by rw[hrs],show s2.bA=q from by rw[hs2],show s2.aV=V from by rw[hs2],show s2.aK=s1.aK from by rw[hs2],show rs.aS=d.aS from by rw[hrs],
   leB_f.2 (show(0:Int)<q by omega),bj,bj,leB_f.2 (show s1.aK<999999 by omega),<-hac]
  rfl
 obtain⟨d3,hd3⟩:∃d3:aA,d3={d2 with aX:=2,aK:=ac.aK,bT:=ζ}:=⟨_,rfl⟩
 have f1:ac.aS=d.aS:=by rw[hac];rfl
 have f2:ac.ae=q:=by rw[hac];show s2.bA=q;rw[hs2]
 have f3:ac.aK=s1.aK+1:=by rw[hac];show s2.aK+1=_;rw[hs2]
 have f4:ac.bb=4:=by rw[hac];rfl
 have g4:iU d2 ac=⟨d3,[]⟩:=by
  have c1:d2.aX=1:=by rw[hd2,hd1];exact h1
  have c2:d2.aS=d.aS:=by rw[hd2,hd1]
  have c3:d2.aZ=V.eV:=by rw[hd2]
  have c4:d2.ae=q:=by rw[hd2]
  have hv:mr d2.aZ ac=true:=by
   have hk:(oY s2 d.aS).aZ=V.eV:=by show s2.aV.eV=V.eV;rw[hs2]
   rw[c3,hac,lr,hk];exact vSig_sign _ _
  have ho:eS ac=true:=by
   have:ac.bP=0:=by rw[hac];rfl
   simp only[eS,f1,f2,f3,f4,this,v0,bE];omega
  have hvk:o7 V.eV=true:=bE.2 hVkey
  rw[iU,ho,f1,c2,c1,f4,f2,c4,hv,c3,hvk,hd3]
  simp[eqB]
  exact⟨c2.symm,c4.symm,c3.symm⟩
 have at_up:dZ (upF n.cp n.bH) i (cM i ζ (iY d)) d1 s1=(d1,s2,[cM i η ch]):=by
  rw[dZ,show(cM i ζ (iY d)).aS=d.aS from rfl,hup]
  simp only[cM,iY,bj,af7,au]
  rw[show({fH with bb:=1,aS:=d.aS}:aG)=iY d from rfl,g1]
  simp[hch];rfl
 have ch_dn:dZ (upF n.cp n.bH) i (cM i η ch) d1 s2=(d2,s2,[cM i ζ rs]):=by
  rw[dZ,show(cM i η ch).aS=d.aS from by rw[cM,hch],hup]
  simp only[cM,hd1,bj,au]
  rw[<-hd1,g2];rfl
 have rs_up:dZ (upF n.cp n.bH) i (cM i ζ rs) d2 s2=(d2,oY s2 d.aS,[cM i η ac]):=by
  rw[dZ,show(cM i ζ rs).aS=d.aS from by rw[cM,hrs],hup]
  simp only[cM,au]
  rw[show rs.aS=d.aS from by rw[hrs],bj,g3];rfl
 have ac_dn:dZ (upF n.cp n.bH) i (cM i η ac) d2 (oY s2 d.aS)=(d3,oY s2 d.aS,[]):=by
  rw[dZ,show(cM i η ac).aS=d.aS from f1,hup]
  simp only[cM,au]
  rw[show d2.aS=d.aS from by rw[hd2,hd1],bj,g4];rfl
 have hst1:d1.aX≠3/\d1.aX≠2:=by rw[hd1];simp only;omega
 obtain⟨d',s',a',q1,q2,q3,q4,q5⟩:=xO (P:=λd' s' F=>
  (d'=d1/\s'=s1/\∃N,F=cM i ζ (iY d)::N/\∀f∈N,Fp f)\/(d'=d1/\s'=s2/\∃N,F=N++[cM i η ch]/\∀f∈N,Fp f)\/(d'=d2/\s'=s2/\F=[cM i ζ rs])\/(d'=d2/\s'=oY s2 d.aS/\F=[cM i η ac])\/(d'=d3/\s'=oY s2 d.aS/\F=[])) h hf hd hs ha
  (λd' s' f F _ _ _ hp=>by
   rcases hp with⟨rfl,rfl,N,hN,hn⟩|⟨rfl,rfl,N,hN,hn⟩|⟨rfl,rfl,hN⟩|⟨rfl,rfl,hN⟩|⟨_,_,hN⟩
   .simp_all
   .cases N with
    |nil=>
     simp_all
    |cons g N=>
     simp only[List.cons_append,List.cons.injEq] at hN
     obtain⟨rfl,rfl⟩:=hN
     rw[HP (hn f (by simp)) hst1.1 hst1.2]
     simp_all
   .simp_all
   .simp_all
   cases hN)
  (λ_=>by
   refine .inl ⟨by rw[e],hs1.symm,yP i (bX s a n.cp),by rw[xi,e];rfl,rI si hm.sg n.cp i⟩)
 rcases q4 with⟨_,_,N,hN,_⟩|⟨_,_,N,hN,_⟩|⟨_,_,hN⟩|⟨_,_,hN⟩|⟨rfl,rfl,_⟩
 .cases hN
 .simp at hN
 .cases hN
 .cases hN
 refine⟨_,_,a',q1,q2,q3,q5,⟨by rw[hd3],?_⟩⟩
 rw[hd3,f3];show s2.aK+1=_;rw[hs2]
def okM(f:bg):Prop:=(f.dF=ζ/\f.cg=η/\(f.aP.bb=5\/f.aP.bb=8))\/(f.dF=η/\(f.cg=ζ\/f.aP.bb=6\/f.aP.bb=7))
theorem Ke(h:Fp f):okM f:=.inr ⟨h.1,h.2.imp_right .inr⟩
theorem k_6_2:eqB 6 2=false:=by simp[eqB]
theorem k_6_4:eqB 6 4=false:=by simp[eqB]
theorem k_6_7:eqB 6 7=false:=by simp[eqB]
theorem J4:eqB 5 1=false:=by simp[eqB]
theorem J5:eqB 5 3=false:=by simp[eqB]
theorem NZ:eqB 8 1=false:=by simp[eqB]
theorem N1:eqB 8 3=false:=by simp[eqB]
theorem N2:eqB 8 5=false:=by simp[eqB]
theorem aay(s:ag)(m:aG):s.aK<=(sUp s m).aM.aK:=by
 rw[sUp]
 cases eS m
 .simp_all
 simp only[au]
 cases eqB m.bb 1
 .simp only[cond_false]
  cases eqB m.bb 3
  .simp only[cond_false]
   cases eqB m.bb 5
   .simp only[cond_false]
    cases eqB m.bb 8
    .simp_all
    simp only[cond_true,vL]
    cases !gx s m||ltB s.ax.bw m.bP<;>exact agH _
   simp only[cond_true,mS]
   cases hb:!gx s m||(ltB m.aK s.aK||(eqB m.aK s.aK&&!eqB m.aS s.aS))
   .simp only[adi] at hb
    exact ou hb.2.1
   simp_all
  simp only[cond_true,rf]
  cases leB s.bA 0||(!eqB m.ae s.bA||(!eqB m.bP s.aV.vB||leB 999999 s.aK))
  .simp only[cond_false,oY];omega
  simp_all
 simp only[cond_true,zM]
 grind
structure zQ(d d':aA):Prop where
 st:d'.aX=2
 ep:d'.aK=d.aK
 ce:d'.aS=d.aS
 gn:d'.ae=d.ae
 rk:d'.aZ=d.aZ
theorem zQ.refl{d:aA}(h:d.aX=2):zQ d d:=⟨h,rfl,rfl,rfl,rfl⟩
theorem zQ.trans{a b c:aA}(h:zQ a b)(k:zQ b c):zQ a c:=⟨k.st,k.ep.trans h.ep,k.ce.trans h.ce,k.gn.trans h.gn,k.rk.trans h.rk⟩
theorem zQ.path{d:aA}(h:zQ d d'):eW d'=eW d:=by rw[eW,eW,h.ep,h.ce,h.gn,h.rk]
theorem JN{d:aA}(h2:d.aX=2)(hk:m.bb=6\/m.bb=7):
 zQ d (iU d m).aY/\(iU d m).aY.bm=d.bm/\((iU d m).bY=[]/\(iU d m).aY.dy=d.dy\/(iU d m).bY=[eW d]/\m.bb=7)/\(m.bb=7->eS m=ζ->m.aS=d.aS->(iU d m).bY=[eW d]):=by
 rw[iU]
 cases h0:!eS m||(!eqB m.aS d.aS||eqB d.aX 0)
 .simp only[cond_false]
  rw[h2]
  rcases hk with hk|hk
  .rw[hk,k_6_2,k_6_4,k_6_7,show eqB 2 3=η from by simp[eqB],show eqB (2:Int) 1=η from by simp[eqB]]
   simp only[agp,cond_false]
   cases eqB 6 6&&(eqB 2 2&&(eqB m.ae d.ae&&(eqB m.aK d.aK&&mr d.aZ m)))
   .exact⟨.refl h2,rfl,.inl ⟨rfl,rfl⟩,λe=>by omega⟩
   exact⟨⟨rfl,rfl,rfl,rfl,rfl⟩,rfl,.inl ⟨rfl,rfl⟩,λe=>by omega⟩
  rw[hk,Y2,Y3,Y4,show eqB 2 3=η from by simp[eqB],bj,bj]
  simp only[agp,Bool.and_false,agP,au]
  exact⟨⟨h2,rfl,rfl,rfl,rfl⟩,rfl,.inr ⟨rfl,θ⟩,λ_ _ _=>rfl⟩
 simp only[cond_true]
 refine⟨.refl h2,rt,.inl ⟨rt,rt⟩,λ_ e1 e2=>?_⟩
 simp_all
theorem UJ{d:aA}(x:aF)(h2:d.aX=2):zQ d (kq d x).aY/\(kq d x).aY.dy=d.dy/\∀m∈(kq d x).bY,m.bb=8:=by
 simp only[kq]
 cases eqB d.aX 2&&(mM d.aZ d.ae d.aK x).2
 .exact⟨.refl h2,rfl,by simp⟩
 exact⟨⟨h2,rfl,rfl,rfl,rfl⟩,rfl,by simp[vH,lN]⟩
theorem T2{i:Int}(hk:m.bb=5\/m.bb=8):∀f∈(sUp s m).bY.map (cM i η),okM f:=by
 intro f hf
 obtain⟨x,hx,rfl⟩:=afk.1 hf
 refine .inr ⟨rfl,.inr (.inl ?_)⟩
 revert hx
 rw[sUp]
 cases eS m
 .simp
 simp only[au]
 rcases hk with hk|hk
 .rw[hk,J4,J5,bj]
  simp only[mS,au]
  cases !gx s m||(ltB m.aK s.aK||(eqB m.aK s.aK&&!eqB m.aS s.aS))
  .simp only[cond_false,afn]
   intro e;subst e;rfl
  simp
 rw[hk,NZ,N1,N2,bj]
 simp only[vL,au]
 grind
theorem TB{nc:Nat}{d:aA}{F:List bg}(e:zG K G nc i d s a F)(hK:K<=900000)(h2:d.aX=2):sUp s (eW d)=⟨rN s (eW d),[lr (rN s (eW d)) 6]⟩:=by
 have hc:=e.li.cn oaa
 have h1:=e.mp.dp.ce
 have h3:=e.mp.dp.gn
 have h4:=e.mp.dp.ep
 have hkey:s.aZ=d.aZ:=by
  rw[e.si.sk oaa,e.si.dk oaa,hc.2.1]
 have ho:eS (eW d)=true:=by simp only[eS,eW,lN,v0,bE];omega
 have hkn:gx s (eW d)=true:=by
  simp only[gx,v0,eqB_t]
  exact⟨hc.1,hc.2.1.symm,by rw[hkey,eW];simp_all⟩
 rw[sUp,ho,show(eW d).bb=5 from rfl,J4,J5,bj]
 simp only[mS,hkn,show(eW d).aK=d.aK from rfl,show(eW d).aS=d.aS from rfl,ltB_f.2 hc.2.2.2,aen,au]
 cases he:eqB d.aK s.aK
 .rfl
 rw[e.li.cc h2 (gj he).symm,bj];rfl
structure Xe(d0:aA)(i:Nat)(w:Int)(d:aA)(s:ag)(F:List bg):Prop where
 cn:zQ d0 d
 ok:∀f∈F,okM f
 st:uB d s\/cM i ζ (eW d)∈F\/d.dy<=w
theorem J6(hK:K<=900000){m:be}{w:Int}{d0:aA}{ww:Int}{d:aA}{F:List bg}(hup:upF m w d0.aS=ζ)(e1:zG K G m.bp.length i d s a (f::F))(e2:zG K G m.bp.length i (dZ (upF m w) i f d s).1 (dZ (upF m w) i f d s).2.1 a (F++(dZ (upF m w) i f d s).2.2))(h:Xe d0 i ww d s (f::F)):
 Xe d0 i ww (dZ (upF m w) i f d s).1 (dZ (upF m w) i f d s).2.1 (F++(dZ (upF m w) i f d s).2.2):=by
 have h2:=h.cn.st
 have hF:∀g∈F,okM g:=λg hg=>h.ok g (by simp[hg])
 have stay:∀(d':aA) (s':ag) (l:List bg),zG K G m.bp.length i d' s' a (F++l)->zQ d d'->s.aK<=s'.aK->(∀g∈l,okM g)->(d'.dy=d.dy\/cM i ζ (eW d)∈l)->(f=cM i ζ (eW d)->s'.aK=d'.aK)->Xe d0 i ww d' s' (F++l):=by
  intro d' s' l ee hc he hl hw hp
  refine⟨h.cn.trans hc,λg hg=>?_,?_⟩
  .grind
  rcases hw with hw|hw
  .rcases h.st with q|q|q
   .left
    have:=(ee.li.cn (by have:=hc.st;omega)).2.2.2
    have h3:=hc.ep
    have h4:=q.ep
    exact⟨hc.st,by omega⟩
   .rcases acb.1 q with q|q
    .left;exact⟨hc.st,hp q.symm⟩
    right;left;rw[hc.path];simp_all
   omega
  right;left;rw[hc.path];simp_all
 rw[dZ] at e2 ⊢
 cases hu:upF m w f.aS
 .rw[hu] at e2
  simp only[au] at e2 ⊢
  refine stay d s [] e2 (.refl h2) (agH _) (by simp) (.inl rfl) (λq=>?_)
  rw[q,show(cM i ζ (eW d)).aS=d.aS from rfl,h.cn.ce,hup] at hu;cases hu
 rw[hu] at e2
 simp only[au] at e2 ⊢
 have hok:=h.ok f (by simp)
 cases hU:f.dF
 .rw[hU] at e2
  simp only[cond_false] at e2 ⊢
  have hnp:f=cM i ζ (eW d)->False:=λq=>by rw[q] at hU;cases hU
  cases hce:eqB d.aS f.aS
  .rw[hce] at e2
   simp only[au] at e2 ⊢
   exact stay d s [] e2 (.refl h2) (agH _) (by simp) (.inl rfl) (λq=>(hnp q).elim)
  rw[hce] at e2
  simp only[au] at e2 ⊢
  cases hR:f.cg
  .rw[hR] at e2
   simp only[cond_false] at e2 ⊢
   have hk:f.aP.bb=6\/f.aP.bb=7:=by
    rcases hok with q|q
    .simp_all
    simp_all
   obtain⟨c1,c2,c3,c4⟩:=JN (m:=f.aP) h2 hk
   refine stay _ s _ e2 c1 (agH _) (λg hg=>?_) ?_ (λq=>(hnp q).elim)
   .obtain⟨x,hx,rfl⟩:=afk.1 hg
    rcases c3 with⟨c3,_⟩|⟨c3,_⟩
    .simp_all
    rw[c3] at hx;simp at hx;subst hx
    exact .inl ⟨rfl,rfl,.inl rfl⟩
   grind
  rw[hR] at e2
  simp only[cond_true] at e2 ⊢
  obtain⟨c1,c2,c3⟩:=UJ f.bV h2
  refine stay _ s _ e2 c1 (agH _) (λg hg=>?_) (.inl c2) (λq=>(hnp q).elim)
  obtain⟨x,hx,rfl⟩:=afk.1 hg
  exact .inl ⟨rfl,rfl,.inr (c3 x hx)⟩
 rw[hU] at e2
 simp only[cond_true] at e2 ⊢
 have hk:f.cg=η/\(f.aP.bb=5\/f.aP.bb=8):=by
  rcases hok with q|q
  .exact q.2
  simp_all
 rw[hk.1] at e2 ⊢
 simp only[aen] at e2 ⊢
 cases hce:eqB f.aP.aS f.aS
 .rw[hce] at e2
  simp only[au] at e2 ⊢
  refine stay d s [] e2 (.refl h2) (agH _) (by simp) (.inl rfl) (λq=>?_)
  rw[q] at hce
  simp[cM] at hce
 rw[hce] at e2
 simp only[au] at e2 ⊢
 refine stay d _ _ e2 (.refl h2) (aay s f.aP) (T2 hk.2) (.inl rfl) (λq=>?_)
 rw[show f.aP=eW d from by rw[q];rfl,TB e1 hK h2]
 rfl
theorem Oq{d:aA}(si:SI d s a)(g:SG s a)(m:be)(i:Nat):∀f∈yP i (bX s a m),okM f:=λf hf=>Ke (rI si g m i f hf)
theorem QE{r:Nat}(h:EQ (r+1) n)(hf:n.aH=[]){d:aA}(hd:n.aj[i]?=ς d)(hs:n.an[i]?=ς s)(ha:n.aT[i]?=ς a)(h2:d.aX=2)(hm':s.aK≠d.aK)(hup:upF n.cp n.bH d.aS=ζ):
 ∃d' s' a',(ei n).aj[i]?=ς d'/\(ei n).an[i]?=ς s'/\(ei n).aT[i]?=ς a'/\IZ n i d s a d' s' a'/\d'.aX=2/\(uB d' s'\/d'.dy<d.dy):=by
 obtain⟨B,hn,hB⟩:=h.np
 obtain⟨K,hl,hK⟩:=h.ln
 have hm:=hn.m i d s a hd hs ha
 have si:=h.pi.si i d s a hd hs ha
 have hpc:d.bT=false:=by
  cases hb:d.bT
  .rfl
  exact absurd ((hl.li i d s hd hs).pc h2 hb) hm'
 have hwt:=hm.dp.wt
 obtain⟨d1,hd1⟩:∃d1,d1=(ef d).aY:=⟨_,rfl⟩
 have hc1:zQ d d1/\(d1.dy<d.dy\/xi i d=[cM i ζ (eW d)])/\∀f∈xi i d,okM f:=by
  rw[hd1,xi,ef]
  cases hb:ltB 0 d.dy
  .simp only[cond_false]
   rw[h2,hpc,show eqB (2:Int) 1=η from by simp[eqB],bj]
   refine⟨⟨by first|rfl|exact h2,rfl,rfl,rfl,rfl⟩,.inr rfl,λf hf=>?_⟩
   simp at hf;subst hf
   exact .inl ⟨rfl,rfl,.inl rfl⟩
  exact⟨⟨h2,rfl,rfl,rfl,rfl⟩,.inl (by grind),by simp⟩
 obtain⟨c1,c2,c3⟩:=hc1
 obtain⟨d',s',a',q1,q2,q3,q4,q5⟩:=xO (P:=Xe d i (d.dy-1)) h hf hd hs ha
  (λd' s' f F e1 e2 _ hp=>J6 oaa hup e1 e2 hp)
  (λ_=>by
   rw[<-hd1]
   refine⟨c1,λf hf=>?_,?_⟩
   .rcases ab1.1 hf with hf|hf
    .exact c3 f hf
    exact Oq si hm.sg n.cp i f hf
   rcases c2 with c2|c2
   .omega
   right;left;rw[c2,c1.path];simp)
 refine⟨d',s',a',q1,q2,q3,q5,q4.cn.st,?_⟩
 rcases q4.st with q|q|q
 .exact .inl q
 .simp at q
 omega
theorem OQ{m:be}:∀x∈(bX s a m).fj,∃c,x=jT c:=by
 rw[bX]
 cases eqB s.aX 1
 .simp
 simp only[au]
 cases ltB 4 (eH s)
 .simp[vh]
 simp only[cond_true,B6]
 grind
structure Idle(d1:aA)(s1:ag)(i:Nat)(b:Prop)(d:aA)(s:ag)(F:List bg):Prop where
 st:(d=d1/\s=s1/\(∀f∈F,Fp f/\(f.cg=η->f=cM i η (jT f.aS)/\0<=f.aS/\f.aS<=5))/\(b->cM i η (jT d1.aS)∈F))\/(d.aS=d1.aS/\Xe d i (-1) d s F)
theorem TA{c:Int}(h:0<=c/\c<=5):eS (jT c)=true:=by
 simp only[eS,jT,fH,v0,bE];omega
theorem U7(hK:K<=900000){m:be}{w:Int}{d1:aA}{s1:ag}{b:Prop}{d:aA}{F:List bg}(hup:upF m w d1.aS=ζ)(h3:d1.aX=3)(e1:zG K G m.bp.length i d s a (f::F))(e2:zG K G m.bp.length i (dZ (upF m w) i f d s).1 (dZ (upF m w) i f d s).2.1 a (F++(dZ (upF m w) i f d s).2.2))(h:Idle d1 s1 i b d s (f::F)):
 Idle d1 s1 i b (dZ (upF m w) i f d s).1 (dZ (upF m w) i f d s).2.1 (F++(dZ (upF m w) i f d s).2.2):=by
 rcases h.st with⟨rfl,rfl,hF,hb⟩|⟨hc,hL⟩
 .obtain⟨⟨n1,n2⟩,n3⟩:=hF f (by simp)
  have hF':∀g∈F,Fp g/\(g.cg=η->g=cM i η (jT g.aS)/\0<=g.aS/\g.aS<=5):=λg hg=>hF g (by simp[hg])
  have skip:f≠cM i η (jT d.aS)->Idle d s i b d s (F++[]):=λhne=>by
   refine⟨.inl ⟨rfl,rfl,by grind,λhb'=>?_⟩⟩
   grind
  rw[dZ,n1] at e2 ⊢
  cases hu:upF m w f.aS
  .simp only[au]
   refine skip λq=>?_
   rw[q,show(cM i η (jT d.aS)).aS=d.aS from rfl,hup] at hu;cases hu
  rw[hu] at e2
  simp only[au] at e2 ⊢
  cases hce:eqB d.aS f.aS
  .simp only[au]
   refine skip λq=>?_
   rw[q] at hce;simp[cM,jT] at hce
  rw[hce] at e2
  simp only[au] at e2 ⊢
  cases hR:f.cg
  .simp only[cond_false]
   obtain⟨g1,g2,g3⟩:=n3 hR
   have hcell:f.aS=d.aS:=(gj hce).symm
   have hs:f.aP=jT d.aS:=by rw[g1,<-hcell];rfl
   have hde:=e1.li.de
   have hdd:iU d (jT d.aS)=lA {d with aX:=2,aK:=d.aK+1}:=by
    rw[iU,TA oaa,show(jT d.aS).aS=d.aS from rfl,show(jT d.aS).bb=7 from rfl,h3,bj,bj,Y2,Y3,Y4,ltB_t.2 (show d.aK<999999 by omega)]
    simp[eqB]
   rw[hs,hdd]
   refine⟨.inr ⟨rfl,⟨.refl rfl,λg hg=>?_,.inr (.inl ?_)⟩⟩⟩
   .rcases ab1.1 hg with hg|hg
    .exact Ke (hF' g hg).1
    simp[lA] at hg;subst hg
    exact .inl ⟨rfl,rfl,.inl rfl⟩
   refine List.mem_append_right _ ?_
   simp[lA,eW]
  simp only[cond_true]
  rw[Nq f.bV oaa]
  refine skip λq=>?_
  rw[q] at hR;cases hR
 have:=J6 hK (d0:=d) (by simp_all) e1 e2 hL
 exact⟨.inr ⟨this.cn.ce.trans hc,⟨.refl this.cn.st,this.ok,this.st⟩⟩⟩
theorem Qx{r:Nat}(h:EQ (r+1) n)(hf:n.aH=[]){d:aA}(hd:n.aj[i]?=ς d)(hs:n.an[i]?=ς s)(ha:n.aT[i]?=ς a)(h3:d.aX=3)(hup:upF n.cp n.bH d.aS=ζ):
 ∃d' s' a',(ei n).aj[i]?=ς d'/\(ei n).an[i]?=ς s'/\(ei n).aT[i]?=ς a'/\IZ n i d s a d' s' a'/\(uB d' s'\/(d'.aX=3/\d'.bm=d.bm/\s'=(bX s a n.cp).aM/\jT d.aS∉(bX s a n.cp).fj)):=by
 obtain⟨B,hn,hB⟩:=h.np
 have hm:=hn.m i d s a hd hs ha
 have si:=h.pi.si i d s a hd hs ha
 obtain⟨d1,hd1⟩:∃d1,d1=(ef d).aY:=⟨_,rfl⟩
 have hml:=fX hn.map
 have hk:=mT hm.sg (m:=n.cp) oaa
 have hc:d1.aX=3/\d1.aS=d.aS/\d1.bm=d.bm/\xi i d=[]:=by
  rw[hd1,xi,ef,h3,show eqB (3:Int) 1=η from by simp[eqB],show eqB (3:Int) 2=η from by simp[eqB]]
  cases ltB 0 d.dy<;>exact⟨by first|rfl|exact h3,rfl,rfl,rfl⟩
 obtain⟨c1,c2,c3,c4⟩:=hc
 obtain⟨d',s',a',q1,q2,q3,q4,q5⟩:=xO (P:=Idle d1 (bX s a n.cp).aM i (jT d.aS∈(bX s a n.cp).fj)) h hf hd hs ha
  (λd' s' f F e1 e2 _ hp=>U7 oaa (by simp_all) c1 e1 e2 hp)
  (λ_=>by
   rw[<-hd1,c4,afl]
   refine⟨.inl ⟨rfl,rfl,λf hf=>⟨rI si hm.sg n.cp i f hf,λhR=>?_⟩,λhb=>?_⟩⟩
   .rcases ab1.1 hf with hf|hf
    .obtain⟨x,hx,rfl⟩:=afk.1 hf
     obtain⟨c,rfl⟩:=OQ x hx
     have:=hk.pg _ hx
     exact⟨rfl,by simp only[cM,jT] at this ⊢;omega⟩
    obtain⟨x,hx,rfl⟩:=afk.1 hf
    simp[lj] at hR
   rw[c2]
   exact agJ _ (afk.2 ⟨_,hb,rfl⟩))
 refine⟨d',s',a',q1,q2,q3,q5,?_⟩
 rcases q4.st with⟨rfl,rfl,_,hb⟩|⟨_,hL⟩
 .simp_all
 rcases hL.st with q|q|q
 .exact .inl q
 .simp at q
 have:=(hn.m i d s a hd hs ha).dp.wt
 exfalso
 obtain⟨B',hn',_⟩:=(h.round).1.np
 have hw:=(hn'.m i d' s' a' q1 q2 q3).dp.wt
 omega
structure Aff(s:ag)(a:av):Prop where
 ch:a.d9+s.bG.d6=ea s.aC (cX s.ax).toNat
 co:ea s.aC s.aC.length<=rR s a
 ow:xp s.bG.aO a.aD
 wn:∀x∈s.ax.aJ,s.aC[(x.cH-1).toNat]?=ς ⟨x.bh⟩
theorem sum_un(g:SG s a)(f:Aff s a):ea s.aC (s.ax.bw-1).toNat=ea s.aC (cX s.ax).toNat+gB s.ax.aJ:=by
 have hw:=g.sp.win
 have h1:=hw.n
 have h2:=hw.f
 have:=Cg (l:=s.aC) (u:=s.ax.aJ) (A:=(cX s.ax).toNat) (λi x hx=>by
  have e1:=(hw.u i x hx).1
  have e2:=f.wn x (abl hx)
  rw[show(cX s.ax).toNat+i=(x.cH-1).toNat by simp only[cX];omega];exact e2) s.ax.aJ.length (acA _)
 rw[List.take_length] at this
 rw[<-this]
 congr 1
 simp only[cX];omega
theorem Yw(h:qR p=ζ):1<=p.d4/\p.d4<=100000:=by
 simp only[qR,EG,v0,bE] at h
 exact h.1.2.2
theorem Vy(g:SG s a)(f:Aff s a){x:bI}(e:nM s=ς x):ltB 0 (gF (cf s a (x.bh.length:Int)).1 (x.bh.length:Int))=false:=by
 obtain⟨hm,_,hx,hn,hl,hb⟩:=jq g.sp e
 have hw:=g.sp.win
 have h1:=hw.n
 have h2:=hw.f
 have hu:=sum_un g f
 have hnext:ea s.aC ((s.ax.bw-1).toNat+1)=ea s.aC (s.ax.bw-1).toNat+x.bh.length:=zW hx
 have hle:ea s.aC ((s.ax.bw-1).toNat+1)<=ea s.aC s.aC.length:=Fb oaa
 have hco:=f.co
 have hch:=f.ch
 simp only[rR] at hco
 have hq:=g.mo.quo
 have q1:=hq.u
 have q2:=hq.g
 have q3:=hq.m
 have q4:=hq.i
 have hacc:=g.mo.acc
 have a1:=hacc.v
 have a2:=hacc.t
 have hpd:=g.sp.pd
 have hgr:=Yw g.sp.plan
 have hsb:=wW hw.d
 have hl8:=hw.l
 obtain⟨L,hL⟩:∃L:Int,L=(x.bh.length:Int):=⟨_,rfl⟩
 rw[<-hL] at hnext ⊢
 rw[cf]
 cases hz:leB (gF s L) 0
 .have hz:=xh hz
  simp only[cond_false]
  have hneed:gF s L=gB s.ax.aJ+L-(s.bG.cG-s.bG.d6):=by
   rw[gF,yO] at hz ⊢;split at hz<;>rename_i h5
   .omega
   omega
  obtain⟨w,hwd⟩:∃w,w=yO (gF s L) s.gI.d4:=⟨_,rfl⟩
  have hw1:gF s L<=w/\1<=w/\w<=100000:=by
   rw[hwd,yO];split<;>omega
  rw[<-hwd]
  have hful:full a s.bG.aO=false:=by
   rw[full]
   cases h8:leB 8 (a.aD.length:Int)
   .rfl
   have h8:=vK h8
   obtain⟨y,hy⟩:∃y,y∈a.aD:=by
    cases hr:a.aD with
    |nil=>simp_all
    |cons y l=>simp_all
   have:a.aD.any (λx=>eqB x.aO s.bG.aO)=true:=aep.2 ⟨y,hy,eqB_t.2 (f.ow y hy)⟩
   simp_all
  have hres:(ig a s.bG.aO w).2=jS w a.bL:=by
   rw[ig,ltB_f.2 q4,bE.2 ⟨hw1.2.1,hw1.2.2⟩,eqB_f.2 (show a.bL≠0 by omega),hful];rfl
  have hmin:gF s L<=jS w a.bL:=by rw[jS];split<;>omega
  rw[gF]
  simp only[jC]
  rw[hres]
  refine ltB_f.2 ?_
  rw[yO];omega
 simp_all
theorem Qg(s:ag)(a:av)(n:Int):(cf s a n).1.ax=s.ax/\(cf s a n).1.aC=s.aC:=by
 obtain⟨q,e⟩:=je s a n;simp_all
theorem Lu(h:SG s a)(n:Int):(cf s a n).2.d9=a.d9:=by
 rw[cf]
 cases leB (gF s n) 0
 .exact(yT h.mo.acc s.bG.aO (yO (gF s n) s.gI.d4)).2.2.2.2.2.1
 rfl
theorem Aff.sent{s:ag}{a:av}(g:SG s a)(f:Aff s a){x:bI}(e:nM s=ς x):Aff {(cf s a (x.bh.length:Int)).1 with ax:=sent (cf s a (x.bh.length:Int)).1.ax x.bh} (cf s a (x.bh.length:Int)).2:=by
 obtain⟨hm,_,hx,hn,hl,hb⟩:=jq g.sp e
 have h1:=Qg s a (x.bh.length:Int)
 have h2:=Lu g (x.bh.length:Int)
 have h3:=G4 g (x.bh.length:Int)
 have h4:=G3 (n:=(x.bh.length:Int)) f.ow
 have h5:=Es s a (x.bh.length:Int)
 refine⟨?_,?_,?_,λy hy=>?_⟩
 .simp only
  rw[h2,h3.2,h1.1,h1.2,f.ch]
  congr 2
  simp only[cX,AM.sent,aeu,List.length_singleton];omega
 .have:=f.co
  rw[<-h3.1] at this
  simp only[rR] at this ⊢
  simp_all
 .simp_all
 simp only[AM.sent,h1.1,h1.2,ab1,afn] at hy ⊢
 rcases hy with hy|rfl
 .exact f.wn y hy
 exact hx
theorem Ir:∀(k:Nat) (s:ag) (a:av) (r:List aF),SG s a->
 ∃N,(fm k s a r).2.2=r++N.map (λx=>fY s.aZ s.ae s.aK x)/\(fm k s a r).1.ax=⟨s.ax.bw+N.length,s.ax.aJ++N⟩/\N.length<=k/\(∀(j:Nat) x,N[j]?=ς x->x.cH=s.ax.bw+j/\s.aC[(x.cH-1).toNat]?=ς ⟨x.bh⟩)/\(Aff s a->N.length=k\/nM (fm k s a r).1=ξ)
 |0,s,a,r,g=>⟨[],by simp[fm],by simp[fm],by simp,by simp,λ_=>.inl rfl⟩
 |k+1,s,a,r,g=>by
  rw[fm]
  cases e:nM s with
  |none=>simp_all
  |some x=>
   obtain⟨hm,_,hx,hn,hl,hb⟩:=jq g.sp e
   have he:=rh g (n:=(x.bh.length:Int)) oaa
   obtain⟨q,hk⟩:=je s a (x.bh.length:Int)
   simp only
   cases hq:ltB 0 (gF (cf s a (x.bh.length:Int)).1 (x.bh.length:Int))
   .simp only[cond_false]
    obtain⟨N,n1,n2,n3,n4,n5⟩:=Ir k {(cf s a (x.bh.length:Int)).1 with ax:=sent (cf s a (x.bh.length:Int)).1.ax x.bh} (cf s a (x.bh.length:Int)).2
     (r++[fY (cf s a (x.bh.length:Int)).1.aZ (cf s a (x.bh.length:Int)).1.ae (cf s a (x.bh.length:Int)).1.aK ⟨(cf s a (x.bh.length:Int)).1.ax.bw,x.bh⟩])
     (y4 he (by rw[hk];exact e) hq)
    have hnn:=g.sp.win.n
    refine⟨⟨s.ax.bw,x.bh⟩::N,?_,?_,by simp;omega,λj y hy=>?_,λf=>?_⟩
    .simp_all
    .rw[n2,hk];simp[sent];omega
    .cases j with
     |zero=>simp at hy;subst hy;simp_all
     |succ j=>
      have:=n4 j y (by simp_all)
      rw[hk] at this
      simp only[sent] at this
      grind
    have:=n5 (f.sent g e)
    simp_all
   simp only[cond_true]
   refine⟨[],by simp,by simp_all,by simp,by simp,λf=>?_⟩
   rw[Vy g f e] at hq;cases hq
def BT(r:a9)(k:Int):Prop:=k<r.bw\/∃y∈r.aV,y.cH=k
theorem Wm{r:a9}(h:RcV r){x:ah}(hd:x.bh.length<=60)(h7:x.cH<=r.bw+7)(h24:x.cH<=24):BT (iX r x) x.cH/\∀k,k<=24->BT r k->BT (iX r x) k:=by
 have hn:=h.n
 cases hl:xG r x
 .obtain⟨t,d,e1,e2,e3,e4,e5,e6,e7,e8⟩:=zl h hl
  have hn':=e5.n
  have key:∀y∈px x r.aV,y.cH<=24->BT (iX r x) y.cH:=λy hy hy24=>by
   rw[e1] at hy
   rcases ab1.1 hy with hy|hy
   .obtain⟨k,hk⟩:=aej hy
    have:=e2 k y hk
    have:=(abb.1 hk).1
    left;omega
   rcases e6 with e|e
   .right;grind
   .
     obtain⟨t',d',f1,f2,f3,f4,f5⟩:=Cm (px x r.aV) r.bw r.bv
     left
     have hz:24<=(iX r x).bv.length\/(qW (px x r.aV) r.bw r.bv).aV=[]:=by
      rw[iX,hl] at e ⊢
      simp only[cond_false] at e ⊢
      cases hb:leB 24 (((qW (px x r.aV) r.bw r.bv).bv.length:Nat):Int)
      .grind
      have hb:=vK hb
      grind
     rcases hz with hz|hz
     .omega
     rw[f2] at hz
     simp only at hz
     subst hz
     rw[agL] at f1
     have hnx:(iX r x).bw=r.bw+t'.length:=by
      rw[iX,hl]
      simp only[cond_false]
      cases leB 24 (((qW (px x r.aV) r.bw r.bv).bv.length:Nat):Int)<;>simp only[f2,au]
     grind
  refine⟨key x (xD.2 (.inl rfl)) h24,λk hk hr=>?_⟩
  rcases hr with hr|⟨y,hy,rfl⟩
  .left;omega
  exact key y (xD.2 (.inr hy)) hk
 have e:iX r x=r:=by rw[iX,hl];rfl
 rw[e]
 refine⟨?_,λk _ hr=>hr⟩
 simp only[xG,nQ.2 h,afp,aen] at hl
 simp only[adP,Bool.not_eq_true'] at hl
 rcases hl with hl|hl|hl|hl
 .have:=kO hl;omega
 .left
  have:¬(r.bw<=x.cH/\x.cH<=r.bw+7):=λq=>by rw[bE.2 q] at hl;cases hl
  omega
 .right
  simp_all
 left
 have:=vK hl
 omega
theorem DF{r:a9}(h:RcV r){N:Int}(hall:∀k,r.bw<=k->k<N->BT r k):N<=r.bw:=by
 by_cases hN:N<=r.bw
 .exact hN
 rcases hall r.bw (agH _) oaa with q|⟨y,hy,hq⟩
 .omega
 have:=(h.pr y hy).1;omega
end Go.AM
