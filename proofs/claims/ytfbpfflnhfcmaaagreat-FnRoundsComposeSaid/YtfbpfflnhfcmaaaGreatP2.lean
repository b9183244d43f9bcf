/- A part. -/
import Derived.Test.YtfbpfflnhfcmaaaGreatP1
set_option linter.unusedVariables false
set_option linter.unusedSimpArgs false
set_option maxHeartbeats 4000000
open Option renaming some->ς,none->ξ
open Bool renaming true->ζ,false->η
open True renaming intro->θ
open Option renaming bind_some->acH,bind->acE
open List renaming getElem?_eq_some_iff->aat,mem_of_getElem?->zz370,getElem?_eq_getElem->zz386,mem_or_eq_of_mem_set->ado,mem_append->aaH,mem_singleton->abQ,getElem?_of_mem->aaP,range->v0,mem_map->abN,mem_of_mem_drop->adq,map_cons->zz366,drop_eq_getElem_cons->aby,nil_append->abO,length_set->adr,getElem?_map->abw,all_eq_true->aaM,any_eq_true->abc,length_map->abd,sum_cons->adu
open Bool renaming and_eq_true->hV,and_self->adp,true_and->acL,eq_iff_iff->acJ,or_eq_false_iff->aaQ,and_true->ace,or_eq_true->zz365,and_eq_false_iff->adt
open Int renaming toNat_natCast->acI,tmod->acF,tmod_eq_emod_of_nonneg->acK,tdiv->ads,le_refl->adv
namespace Go.AM
attribute [local simp] zz337 bv bm
variable{B:Int}{n:Go.AM.ae}{e:Go.AM.dJ}{l i k:Nat}{α:Type}{a:Go.AM.aj}{b:List Int}{s:Go.AM.ag}{x:α}
theorem Qu:eqB 3 2=false:=by simp[eqB]
theorem zz243:eqB 4 2=false:=by simp[eqB]
theorem zz249:eqB 4 3=false:=by simp[eqB]
theorem zz258:eqB 6 5=false:=by simp[eqB]
theorem zz259:eqB 7 5=false:=by simp[eqB]
theorem zz234:eqB 7 6=false:=by simp[eqB]
theorem zz192:eqB 8 5=false:=by simp[eqB]
theorem zz193:eqB 8 6=false:=by simp[eqB]
theorem Mv:eqB 8 7=false:=by simp[eqB]
theorem Qv:eqB 3 4=false:=by simp[eqB]
theorem Qt:eqB 2 3=false:=by simp[eqB]
structure EP(e:dJ):Prop where
 d:okB e.bk
 f:ke e.b7
 r:okB e.b7.ct.bL.bk
def zz500(n:ae)(e:dJ):Bool×ae:=
 bif !inR e.da 0 ((n.aT.length:Int)-1) then(η,n) else
 bif eqB e.bu 2 then(ζ,zz363 n e.da.toNat) else
 bif eqB e.bu 3 then(ζ,zz97 (zz368 n e.da.toNat)) else
 bif leB 200 (n.aT.length:Int) then(η,n) else match n.aT[e.da.toNat]? with
  |none=>(ζ,n)
  |some f=>(ζ,fK n f)
theorem zz183(h:NP B n)(e:dJ)(hk:e.bu=2\/e.bu=3\/e.bu=4)(hB:B+1<4611686018427387904):
 xP n e=ς (zz500 n e)/\o8 n e=ς (zz500 n e)/\NP (B+1) (zz500 n e).2:=by
 have hfl:=h.fl
 simp only[xP,zz355,o8,zz360,zz500,bJ (n:=(n.aT.length:Int)-1) oaa,acH]
 cases hr:inR e.da 0 ((n.aT.length:Int)-1)
 .exact⟨rt,rt,h.mono oaa⟩
 have hr:=bU.1 hr
 obtain⟨k,hk'⟩:∃k:Nat,e.da=k:=⟨e.da.toNat,by omega⟩
 have hlt:k<n.aT.length:=by omega
 obtain⟨f,hf⟩:∃f,n.aT[k]?=ς f:=⟨_,zz386 hlt⟩
 have hp:=h.fs f (zz370 hf)
 simp only[hk',acI,zz230 h hlt,zz236 h.fl hf,zz37 hp.ok,Iq h hlt,zz235 h.fl hf,zz36 hp.ok,bm,hf,au]
 rcases hk with e2|e2|e2<;>rw[e2]<;>simp only[Qu,zz243,zz249,zz258,zz259,zz234,zz192,zz193,Mv,Qv,Qt,bv,au]
 .exact⟨rt,rt,zz24 h k hB⟩
 .exact⟨rt,rt,zz121 (Eu h k) oaa⟩
 cases leB 200 (n.aT.length:Int)
 .exact⟨rt,rt,Bu h hp oaa⟩
 exact⟨rt,rt,h.mono oaa⟩
def zz182(n:ae)(e:dJ):Bool×ae:=
 bif !inR e.da 0 ((n.ax.length:Int)-1) then(η,n) else match n.ax[e.da.toNat]?,n.aJ[e.da.toNat]? with
  |some d,ς s=>
   bif eqB e.bu 5 then(bif !eqB d.bz 0 then(η,n) else(ζ,fP n e.da.toNat (dOn d))) else
   bif eqB e.bu 6 then(bif eqB e.bh d.bh||!eV n.d7 e.bh then(η,n) else(ζ,fP n e.da.toNat (vW d e.bh))) else
   bif eqB e.bu 7 then(bif !eqB d.bz 2 then(η,n) else(ζ,{n with ax:=n.ax.set e.da.toNat (zz6 d)})) else
   bif(yy s e.bk).2 then(ζ,{n with aJ:=n.aJ.set e.da.toNat (yy s e.bk).1}) else(η,n)
  |_,_=>(η,n)
theorem zz202(d:aC):(zz6 d).dO=d.dO/\(zz6 d).bh=d.bh:=by
 rw[zz6];grind
theorem zz321(h:NP B n)(e:dJ)(he:EP e)(hk:e.bu=5\/e.bu=6\/e.bu=7\/e.bu=8)(hB:B+1<4611686018427387904):
 EU n e=ς (zz182 n e)/\kG n e=ς (zz182 n e)/\NP (B+1) (zz182 n e).2:=by
 have hl:=h.ld
 have hm6:=zz401 h.map
 have hnm:NP (B+1) n:=h.mono oaa
 simp only[EU,zz355,kG,zz360,zz443 (show n.d7.bp.length<=1048576 by omega),zz182,bJ (n:=(n.ax.length:Int)-1) oaa,bJ (n:=(n.d7.bp.length:Int)-1) oaa,acH]
 cases hr:inR e.da 0 ((n.ax.length:Int)-1)
 .simp_all
 have hr:=bU.1 hr
 obtain⟨k,hk'⟩:∃k:Nat,e.da=k:=⟨e.da.toNat,by omega⟩
 have hlt:k<n.ax.length:=by omega
 obtain⟨d,s,a,e1,e2,e3,hm⟩:=h.at_ hlt
 have l1:=(zz184 d).len
 have l2:(vW d e.bh).c9.length<=1:=by rcases zz163 d e.bh with h|h;exact h.len;exact h.2.len
 simp only[hk',acI,bm,e1,e2,on_s hm.dp.ok,zz284 hm.dp.ok hm.dp.ep,zz267 hm.dp.ok,zz295 hm.sg.sp.ok,zz463 hlt (show(dOn d).c9.length<=1048576 by omega),zz463 hlt (show(vW d e.bh).c9.length<=1048576 by omega),on_i hm.dp.ok,move_i hm.dp.ok hm.dp.ep,idle_i hm.dp.ok,sub_i hm.sg.sp.ok,zz462 hlt (show(dOn d).c9.length<=1048576 by omega),zz462 hlt (show(vW d e.bh).c9.length<=1048576 by omega),au]
 try rw[show inR e.bh 0 ((n.d7.bp.length:Int)-1)=eV n.d7 e.bh from rfl]
 rcases hk with e4|e4|e4|e4<;>rw[e4]<;>simp only[Qu,zz243,zz249,zz258,zz259,zz234,zz192,zz193,Mv,Qv,Qt,bv,au]
 .cases eqB d.bz 0
  .simp_all
  exact⟨rt,rt,zz422 h e1 (zz184 d) (US hm.dp) hm.dc hB⟩
 .cases hx:eqB e.bh d.bh<;>cases hy:eV n.d7 e.bh<;>try exact⟨rt,rt,hnm⟩
  refine⟨rt,rt,?_⟩
  have hc:=bU.1 (show inR e.bh 0 ((n.d7.bp.length:Int)-1)=ζ from hy)
  rcases zz163 d e.bh with h'|h'
  .exact zz422 h e1 h' (Fw hm.dp _) hm.dc hB
  exact zz422 h e1 h'.2 (Fw hm.dp _) oaa hB
 .cases eqB d.bz 2
  .simp_all
  refine⟨rt,rt,NP.mono (B:=B) ?_ oaa⟩
  have hik:=zz202 d
  refine h.setD e2 e3 ⟨zz162 hm.dp,by rw[hik.2];exact hm.dc,hm.sg,hm.sc,hm.si,?_⟩
  have:=hm.ids
  simp only[zz96,hik.1] at this ⊢;exact this
 cases hb:(yy s e.bk).2
 .have hs:(yy s e.bk).1=s:=by
   revert hb;rw[yy];cases leB 24 (s.aS.length:Int)||ltB 60 (e.bk.length:Int)
   .simp_all
   intro _;rfl
  refine⟨?_,rt,hnm⟩
  first|trivial|(rw[hs,zz411 e2];rfl)
 refine⟨rt,rt,NP.mono (B:=B) ?_ oaa⟩
 have hg:=zz221 hm.sg he.d
 refine h.setS e1 e3 ⟨hm.dp,hm.dc,hg,?_,?_,?_⟩
 all_goals
  rw[yy]
  cases leB 24 (s.aS.length:Int)||ltB 60 (e.bk.length:Int)
 .exact hm.sc
 .exact hm.sc
 .exact hm.si
 .exact hm.si
 .exact hm.ids
 exact hm.ids
def zz111(n:ae)(c:Int)(up:Bool):Bool×ae:=
 bif !eV n.d7 c||booB (zz87 n c) up then(η,n) else(ζ,{n with cF:=Jv .i64 n.cF (mD .i64 1 c)})
theorem zz260(h:NP B n)(e:dJ):
 CQ n e.da (eqB e.bu 10)=ς (zz111 n e.da (eqB e.bu 10))/\sD n e=ς (zz111 n e.da (eqB e.bu 10))/\NP B (zz111 n e.da (eqB e.bu 10)).2:=by
 have hm6:=zz401 h.map
 simp only[CQ,zz355,zz270 hm6,sD,zz443 (show n.d7.bp.length<=1048576 by omega),VO hm6,zz111,bJ (n:=(n.d7.bp.length:Int)-1) oaa,acH]
 try rw[show inR e.da 0 ((n.d7.bp.length:Int)-1)=eV n.d7 e.da from rfl]
 cases hc:eV n.d7 e.da
 .simp_all
 have hi:=bU.1 (show inR e.da 0 ((n.d7.bp.length:Int)-1)=ζ from hc)
 rw[leB_t.2 hi.1]
 cases booB (zz87 n e.da) (eqB e.bu 10)
 .exact⟨rt,rt,{h with dn:=(zz223 hm6.2 h.dn oaa).1}⟩
 simp_all
def zz55(n:ae)(f:bA):Bool:=ltB (n.aT.length:Int) 200&&(inR f.bj 0 ((n.ax.length:Int)-1)&&eV n.d7 f.bh)
def Bt(n:ae)(f:bA):Bool×ae:=bif !zz55 n f then(η,n) else(ζ,fK n f)
theorem zz204(h:NP B n)(e:dJ)(he:EP e)(hB:B<4611686018427387904):
 (acE (kR n e.b7) λr13=>bif !r13 then(ς (η,n)) else(acE (iU n e.b7) λr14=>ς (ζ,r14)))=ς (Bt n e.b7)/\JT n e.b7=ς (Bt n e.b7)/\NP (B+1) (Bt n e.b7).2:=by
 have hm6:=zz401 h.map
 have hl:=h.ld
 simp only[kR,zz355,zz37 he.f,JT,zz360,zz443 (show n.d7.bp.length<=1048576 by omega),zz36 he.f,Bt,zz55,bJ (n:=(n.d7.bp.length:Int)-1) oaa,bJ (n:=(n.ax.length:Int)-1) oaa,acH]
 try rw[show inR e.b7.bh 0 ((n.d7.bp.length:Int)-1)=eV n.d7 e.b7.bh from rfl]
 try rw[show leB 200 (n.aT.length:Int)=!ltB (n.aT.length:Int) 200 by simp only[leB,ltB];grind]
 cases h1:ltB (n.aT.length:Int) 200<;>cases h2:inR e.b7.bj 0 ((n.ax.length:Int)-1)<;>cases h3:eV n.d7 e.b7.bh<;>try exact⟨rt,rt,h.mono oaa⟩
 have hd:=bU.1 h2
 have hc:=bU.1 (show inR e.b7.bh 0 ((n.d7.bp.length:Int)-1)=ζ from h3)
 exact⟨rt,rt,Bu h ⟨by omega,by omega,he.r,he.f⟩ oaa⟩
def zz493(n:ae)(e:dJ):Bool×ae:=
 if e.bu=1 then zz449 n else
 if e.bu=2\/e.bu=3\/e.bu=4 then zz500 n e else
 if e.bu=5\/e.bu=6\/e.bu=7\/e.bu=8 then zz182 n e else
 if e.bu=9\/e.bu=10 then zz111 n e.da (eqB e.bu 10) else
 if e.bu=11\/e.bu=12 then zz416 n e.da (eqB e.bu 12) else
 if e.bu=13 then Bt n e.b7 else(η,n)
theorem zz91(h:NP B n)(he:EP e)(hB:B+10000<4611686018427387904):
 zz11 n e=ς (zz493 n e)/\yH n e=ς (zz493 n e)/\NP (B+10000) (zz493 n e).2:=by
 rw[zz493,zz11,yH]
 by_cases h1:e.bu=1
 .rw[if_pos h1,h1]
  have:=zz3 h hB
  simp_all
 rw[if_neg h1]
 have n1:eqB e.bu 1=false:=by simpa [eqB] using h1
 by_cases h2:e.bu=2\/e.bu=3\/e.bu=4
 .rw[if_pos h2]
  have:=zz183 h e h2 oaa
  have hb':(bif eqB e.bu 2 then(ς (eqB e.bu 2)) else(acE (bif eqB e.bu 3 then(ς (eqB e.bu 3)) else(ς (eqB e.bu 4))) λ(v3:Bool)=>ς v3))=ς true:=by
   rcases h2 with e|e|e<;>rw[e]<;>simp only[Qu,zz243,zz249,zz258,zz259,zz234,zz192,zz193,Mv,Qv,Qt,bv,au]<;>rfl
  rw[n1,hb']
  simp only[this.1,this.2.1,au]
  exact⟨rt,rt,this.2.2.mono oaa⟩
 rw[if_neg h2]
 have hb':(bif eqB e.bu 2 then(ς (eqB e.bu 2)) else(acE (bif eqB e.bu 3 then(ς (eqB e.bu 3)) else(ς (eqB e.bu 4))) λ(v3:Bool)=>ς v3))=ς false:=by
  rw[show eqB e.bu 2=η by simp_all,show eqB e.bu 3=η by simp_all,show eqB e.bu 4=η by simp_all];rfl
 rw[n1,hb']
 simp only[au]
 by_cases h3:e.bu=5\/e.bu=6\/e.bu=7\/e.bu=8
 .rw[if_pos h3]
  have:=zz321 h e he h3 oaa
  have hb3:(bif eqB e.bu 5 then(ς (eqB e.bu 5)) else(acE (bif eqB e.bu 6 then(ς (eqB e.bu 6)) else(acE (bif eqB e.bu 7 then(ς (eqB e.bu 7)) else(ς (eqB e.bu 8))) λ(v7:Bool)=>ς v7)) λ(v6:Bool)=>ς v6))=ς true:=by
   rcases h3 with e|e|e|e<;>rw[e]<;>simp only[Qu,zz243,zz249,zz258,zz259,zz234,zz192,zz193,Mv,Qv,Qt,bv,au]<;>rfl
  rw[hb3]
  simp only[this.1,this.2.1,au]
  exact⟨rt,rt,this.2.2.mono oaa⟩
 rw[if_neg h3]
 have hb3:(bif eqB e.bu 5 then(ς (eqB e.bu 5)) else(acE (bif eqB e.bu 6 then(ς (eqB e.bu 6)) else(acE (bif eqB e.bu 7 then(ς (eqB e.bu 7)) else(ς (eqB e.bu 8))) λ(v7:Bool)=>ς v7)) λ(v6:Bool)=>ς v6))=ς false:=by
  rw[show eqB e.bu 5=η by simp_all,show eqB e.bu 6=η by simp_all,show eqB e.bu 7=η by simp_all,show eqB e.bu 8=η by simp_all];rfl
 rw[hb3]
 simp only[au]
 by_cases h4:e.bu=9\/e.bu=10
 .rw[if_pos h4]
  have:=zz260 h e
  have hb4:(bif eqB e.bu 9 then(ς (eqB e.bu 9)) else(ς (eqB e.bu 10)))=ς true:=by rcases h4 with e|e<;>rw[e]<;>simp[eqB]
  rw[hb4]
  simp only[this.1,this.2.1,au]
  exact⟨rt,rt,this.2.2.mono oaa⟩
 rw[if_neg h4]
 have hb4:(bif eqB e.bu 9 then(ς (eqB e.bu 9)) else(ς (eqB e.bu 10)))=ς false:=by
  rw[show eqB e.bu 9=η by simp_all,show eqB e.bu 10=η by simp_all];rfl
 rw[hb4]
 simp only[au]
 by_cases h5:e.bu=11\/e.bu=12
 .rw[if_pos h5]
  have:=zz174 h e.da (eqB e.bu 12)
  have hb5:(bif eqB e.bu 11 then(ς (eqB e.bu 11)) else(ς (eqB e.bu 12)))=ς true:=by rcases h5 with e|e<;>rw[e]<;>simp[eqB]
  rw[hb5]
  simp only[this.1,this.2.1 e rfl rfl,au]
  exact⟨rt,rt,this.2.2.mono oaa⟩
 rw[if_neg h5]
 have hb5:(bif eqB e.bu 11 then(ς (eqB e.bu 11)) else(ς (eqB e.bu 12)))=ς false:=by
  rw[show eqB e.bu 11=η by simp_all,show eqB e.bu 12=η by simp_all];rfl
 rw[hb5]
 simp only[au]
 by_cases h6:e.bu=13
 .rw[if_pos h6,h6]
  have:=zz204 h e he oaa
  simp only[bv,this.1,this.2.1,au]
  exact⟨rt,rt,this.2.2.mono oaa⟩
 rw[if_neg h6,show eqB e.bu 13=η by simp_all]
 exact⟨rt,rt,h.mono oaa⟩
structure BY(n:ae):Prop where
 d1:∀d∈n.ax,∀x∈d.bW.aA,okB x.bk
 d2:∀d∈n.ax,∀p∈d.bW.bi,okB p.bk
 s1:∀s∈n.aJ,∀p∈s.aS,okB p.bk
 s2:∀s∈n.aJ,∀x∈s.aK.aF,okB x.bk
 f:∀f∈n.aT,okB f.ct.bL.bk
theorem NP.of(ok:zz364 n)(v:zz378 n=ζ)(b:BY n):NP n.Lost n:=by
 simp only[zz378,Bj,hV,bU,eO,aaM,flB] at v
 obtain⟨v1,v2,v3,v4,v5,v6,v7,v8,v9,v10,v11,v12⟩:=v
 have v4:=y3 v4
 have v5:=zz474 v5
 have v6:=zz474 v6
 have v8:=y3 v8
 have v12:=y3 v12
 refine⟨v1,ok.1,v2,zz186 (by simp_all),by omega,v5,v6,λi d s a hd hs ha=>?_,by omega,λf hf=>?_,bU.2 v10,v11,⟨v12,by omega⟩⟩
 .have:=v7 i d hd
  simp only[Cn,hs,ha,hV] at this
  obtain⟨m1,m2,m3,m4,m5,m6,m7,m8⟩:=this
  have hdm:=zz370 hd
  have hsm:=zz370 hs
  have c1:=bU.1 (show inR d.bh 0 ((n.d7.bp.length:Int)-1)=ζ from m5)
  have c2:=bU.1 (show inR s.bh 0 ((n.d7.bp.length:Int)-1)=ζ from m6)
  exact⟨DP.of m1 (ok.2.1.2 d hdm) (b.d1 d hdm) (b.d2 d hdm),by omega,⟨(zz419 (ok.2.2.1.2 s hsm)).1 m2,b.s1 s hsm,b.s2 s hsm,zz407.1 m8⟩,by omega,zz424 m7,m4⟩
 have:=v9 f hf
 have c2:=bU.1 (show inR f.bh 0 ((n.d7.bp.length:Int)-1)=ζ from this.2)
 exact⟨by omega,by omega,b.f f hf,ok.2.2.2.2.2 f hf⟩
theorem NP.okN(h:NP B n):zz364 n:=by
 have h1:=h.ld
 have h2:=h.ls
 have h3:=h.la
 have h4:=h.fl
 refine⟨h.mok,⟨by omega,λd hd=>?_⟩,⟨by omega,λs hs=>?_⟩,⟨by omega,λa ha=>?_⟩,⟨by omega,λf hf=>(h.fs f hf).ok⟩⟩
 .obtain⟨i,hi⟩:=aaP hd
  have hlt:=(aat.1 hi).1
  obtain⟨d',s,a,e1,e2,e3,hm⟩:=h.at_ hlt
  rw[hi] at e1;cases e1;exact hm.dp.ok
 .obtain⟨i,hi⟩:=aaP hs
  have hlt:=(aat.1 hi).1
  obtain⟨d',s,a,e1,e2,e3,hm⟩:=h.at_ (show i<n.ax.length by omega)
  rw[hi] at e2;cases e2;exact hm.sg.sp.ok
 obtain⟨i,hi⟩:=aaP ha
 have hlt:=(aat.1 hi).1
 obtain⟨d',s,a,e1,e2,e3,hm⟩:=h.at_ (show i<n.ax.length by omega)
 rw[hi] at e3;cases e3;exact hm.sg.mo.acc.ok
theorem NP.by_(h:NP B n):BY n:=by
 have h1:=h.ld
 have h2:=h.ls
 have gd:∀d∈n.ax,DP d:=λd hd=>by
  obtain⟨i,hi⟩:=aaP hd
  obtain⟨d',s,a,e1,e2,e3,hm⟩:=h.at_ (aat.1 hi).1
  rw[hi] at e1;cases e1;exact hm.dp
 have gs:∀s∈n.aJ,∃a,SG s a:=λs hs=>by
  obtain⟨i,hi⟩:=aaP hs
  have hlt:=(aat.1 hi).1
  obtain⟨d',s,a,e1,e2,e3,hm⟩:=h.at_ (show i<n.ax.length by omega)
  rw[hi] at e2;cases e2;exact⟨a,hm.sg⟩
 exact⟨λd hd=>(gd d hd).rc.b1,λd hd=>(gd d hd).rc.b2,λs hs=>(gs s hs).elim λa h=>h.b1,λs hs=>(gs s hs).elim λa h=>h.b2,λf hf=>(h.fs f hf).b⟩
theorem NP.vn(h:NP B n):zz378 n=true:=by
 have h1:=h.ld
 have h2:=h.ls
 have h3:=h.la
 have h4:=h.fl
 have h5:=h.lo
 have hu:eqB n.fP.fj 0=false:=by simpa [eqB] using h.up
 simp only[zz378,Bj,hV,bU,eO,aaM,flB]
 refine⟨h.map,h.core,by simp[hu],leB_t.2 oaa,eqB_t.2 oaa,eqB_t.2 oaa,λi d hd=>?_,leB_t.2 oaa,λf hf=>?_,bU.1 h.dn,h.nw,leB_t.2 h5.1⟩
 .obtain⟨d',s,a,e1,e2,e3,hm⟩:=h.at_ (aat.1 hd).1
  rw[hd] at e1;cases e1
  have hc:=hm.dp.ce
  have hsc:=hm.sg.sp
  simp only[Cn,e2,e3,hV]
  exact⟨hm.dp.v,(zz419 hm.sg.sp.ok).2 hm.sg.sp,zz445.2 hm.sg.mo.acc,hm.ids,bU.2 (by have:=hm.dc;omega),bU.2 (by have:=hm.sc;have:=hsc.ce;omega),eqB_t.2 hm.si,zz407.2 hm.sg.mo⟩
 have hf:=h.fs f hf
 exact⟨by have:=hf.d;omega,bU.2 (by have:=hf.c;omega)⟩
open Go.Proofs
theorem zz168(x:Int)(m:Nat)(hm:m<9223372036854775808):0<=AC .i64 x (m:Int)/\AC .i64 x (m:Int)<=m:=by
 unfold AC
 have h1:(BitVec.ofInt IntKind.i64.bits x&&& BitVec.ofInt IntKind.i64.bits (m:Int)).toNat<=m:=by
  rw[BitVec.toNat_and]
  refine Nat.le_trans Nat.and_le_right ?_
  show(BitVec.ofInt 64 (m:Int)).toNat<=m
  rw[BitVec.toNat_ofInt]
  omega
 rw[K3 oaa]
 omega
structure bP(c:av):Prop where
 l:c.fb.length<=1048576
 u:∀x∈c.fb,yx x
 a:0<=c.fi
 b:c.fi<=c.fb.length
theorem BU{c:av}(h:bP c):∃v c',uZ c=ς (v,c')/\0<=v/\v<=255/\bP c':=by
 unfold uZ
 have:=h.l
 have ha:=h.a
 have hb:=h.b
 by_cases hi:c.fi<c.fb.length
 .obtain⟨x,hx,e⟩:=zz271 h.a hi
  rw[show ltB c.fi (c.fb.length:Int)=ζ from by simp_all]
  simp only[e,au]
  refine⟨_,_,rfl,(zz168 _ 255 oaa).1,(zz168 _ 255 oaa).2,⟨h.l,h.u,?_,?_⟩⟩
  .show 0<=WR (c.fi+1);rw[bJ oaa];omega
  show WR (c.fi+1)<=(c.fb.length:Int);rw[bJ oaa];omega
 rw[show ltB c.fi (c.fb.length:Int)=η from by simp_all]
 simp only[au]
 exact⟨_,_,rfl,(zz168 _ 255 oaa).1,(zz168 _ 255 oaa).2,⟨h.l,h.u,h.a,h.b⟩⟩
theorem zz35{v n:Int}(hv:0<=v)(hn:0<n):0<=acF v n/\acF v n<n:=by
 rw[acK hv]
 exact⟨Int.emod_nonneg _ oaa,Int.emod_lt_of_pos _ hn⟩
theorem zz187{c:av}(h:bP c){n:Int}(hn:1<=n):∃v c',bC c n=ς (v,c')/\0<=v/\v<n/\bP c':=by
 unfold bC
 rw[show leB n 0=η from by simp[leB];omega]
 have hz:(!eqB n 0)=true:=by simp[eqB];omega
 simp only[hz,au]
 by_cases h2:n<=256
 .rw[show leB n 256=ζ from by simp_all]
  obtain⟨v,c',e,h0,h1,hc⟩:=BU h
  have:=zz35 h0 (show 0<n by omega)
  grind
 rw[show leB n 256=η from by simp_all]
 obtain⟨v,c1,e,h0,h1,hc⟩:=BU h
 obtain⟨v2,c2,e2,h02,h12,hc2⟩:=BU hc
 obtain⟨v3,c3,e3,h03,h13,hc3⟩:=BU hc2
 simp only[e,e2,e3,au]
 rw[bJ (n:=v*65536) oaa,bJ (n:=v2*256) oaa,bJ (n:=v*65536+v2*256) oaa,bJ (n:=v*65536+v2*256+v3) oaa]
 have:=zz35 (v:=v*65536+v2*256+v3) oaa (show 0<n by omega)
 grind
theorem zz345{c:av}(h:bP c){n:Int}(hn:1<=n):∃v c',gq c n=ς (v,c')/\bP c':=by
 obtain⟨v,c',e,_,_,hc⟩:=zz187 h hn
 exact⟨_,_,by rw[gq,e];rfl,hc⟩
theorem new_ok{xs:List Int}(hl:xs.length<=1048576)(hu:∀x∈xs,yx x):∃c,KN xs=ς c/\bP c/\c.fb=xs:=by
 have key:∀(m n k:Nat) (v:Int),m=xs.length-k->k<=xs.length->m<n->∃r,iter (wD xs) n (v,(k:Int))=ς r:=by
  intro m
  induction m with
  |zero=>
   intro n k v hm hk hn
   cases n with
   |zero=>omega
   |succ n=>
    have:k=xs.length:=by omega
    subst this
    exact⟨v,by rw[iter];simp[wD]⟩
  |succ m ih=>
   intro n k v hm hk hn
   cases n with
   |zero=>omega
   |succ n=>
    have hlt:k<xs.length:=by omega
    rw[iter]
    simp only[wD,ct hlt,bm,zz386 hlt,WRs (k:=k),au]
    cases ltB (k:Int) 4000
    .simp_all
    exact ih n (k+1) _ oaa oaa oaa
 obtain⟨r,hr⟩:=key xs.length FU 0 (WR (193017+(xs.length:Int))) oaa oaa (by have:=ie;omega)
 refine⟨⟨xs,0,r⟩,?_,⟨hl,hu,adv 0,Int.natCast_nonneg _⟩,rfl⟩
 rw[KN,show iter (wD xs) FU (WR (193017+(xs.length:Int)),0)=ς r from hr]
 rfl
theorem zz464{c:av}(h:bP c){n:Int}(hn:1<=n):Wp (bC c n) (λr=>bP r.2/\0<=r.1/\r.1<n):=by
 obtain⟨v,c',e,h0,h1,hc⟩:=zz187 h hn
 exact Wp.of e ⟨hc,h0,h1⟩
theorem p5{c:av}(h:bP c){n:Int}(hn:1<=n):Wp (gq c n) (λr=>bP r.2):=by
 obtain⟨v,c',e,hc⟩:=zz345 h hn
 exact Wp.of e hc
theorem zz497{c:av}(h:bP c){xs:List Int}(hx:xs≠[]):Wp (g4 c xs) (λr=>bP r.2/\r.1∈xs):=by
 have hl:0<xs.length:=List.length_pos_iff.2 hx
 unfold g4
 refine Wp.call (zz464 h oaa) λr hr=>?_
 exact Wp.ix hr.2.1 hr.2.2 λx hm _=>Wp.some ⟨hr.1,hm⟩
theorem zz180{c:av}(h:bP c){n:Int}(h0:0<=n)(hn:n<=4000):Wp (tX c n) (λr=>bP r.2/\okB r.1/\(r.1.length:Int)=n):=by
 unfold tX
 refine Wp.call (P:=λx=>bP x.2/\okB x.1/\(x.1.length:Int)=n) ?_ λx hx=>Wp.some hx
 refine Wp.iterF (λx=>(0<=x.1/\x.1<=n)/\bP x.2.2/\okB x.2.1/\(x.2.1.length:Int)=x.1) (λx=>(n-x.1).toNat) ⟨⟨by omega,by omega⟩,h,λx hx=>by simp at hx,by simp⟩ oaa ?_
 rintro⟨v1,v5,v6⟩ ⟨⟨i0,i1⟩,i2,i3,i4⟩
 simp only at i0 i1 i2 i3 i4
 simp only[D4]
 refine Wp.cond (λhb=>?_) (λhb=>Wp.some ⟨i2,i3,by have:=zz412 hb;grind⟩)
 have hb:=zz369 hb
 obtain⟨b,c',e,b0,b1,hc⟩:=BU i2
 refine Wp.call (Wp.of (Q:=λr=>bP r.2/\0<=r.1/\r.1<=255) e ⟨hc,b0,b1⟩) λr hr=>?_
 refine Wp.ok (ew (by simp;omega) (by simp;omega)) (Wp.some ⟨⟨⟨?_,?_⟩,hr.1,?_,?_⟩,?_⟩)
 all_goals simp only[bJ (show-9223372036854775808<=v1+1/\v1+1<=9223372036854775807 by omega)]
 .omega
 .omega
 .intro x hx
  rcases aaH.1 hx with hx|hx
  .exact i3 x hx
  simp at hx;subst hx
  have e1:IntKind.u8.wrap r.1=r.1:=by rw[zz103];omega
  rw[e1];exact hr.2
 .simp;omega
 omega
theorem wHas{l:List Int}(h:l.length<=1048576)(v:Int):Wp (Ap l v) (λ_=>True):=by rw[zz207 h v];exact Wp.some trivial
theorem zz16{P:α->Prop}{xs:List α}{a:α}(h:∀x∈xs,P x)(ha:P a):∀x∈xs.set i a,P x:=λx hx=>by
 grind
theorem wJoin{v:List (Int×List Int)}{a b:Int}{B:Nat}(hB:B<=1000)(hv:∀e∈v,e.2.length<=B)(a0:0<=a)(a1:a<v.length)(b0:0<=b)(b1:b<v.length):Wp (pN v a b) (λr=>r.length=v.length/\∀e∈r,e.2.length<=B+2):=by
 unfold pN
 refine Wp.ix a0 a1 λx hx _=>?_
 have h1:=hv x hx
 refine Wp.ok (ew (by simp;omega) (by simp;omega)) ?_
 have hs:∀e∈v.set a.toNat (x.1,x.2++[b]),e.2.length<=B+1:=zz16 (λe he=>by grind) (by simp;omega)
 refine Wp.ix b0 (by simp_all) λy hy _=>?_
 have h2:=hs y hy
 refine Wp.ok (ew (by simp;omega) (by simp;omega)) (Wp.some ⟨by simp,zz16 (λe he=>by grind) (by simp;omega)⟩)
theorem wDrawX{c:av}(h:bP c):Wp (oB c) (λr=>bP r.2/\(2<=r.1.length/\r.1.length<=5)/\∀e∈r.1,e.2.length<=200):=by
 unfold oB
 refine Wp.call (zz464 h oaa) λr1 h1=>?_
 obtain⟨n,hn⟩:∃n:Int,n=WR (2+r1.1):=⟨_,rfl⟩
 have hn1:n=2+r1.1:=by rw[hn,bJ oaa]
 refine Wp.call (P:=λx=>bP ⟨x.1,x.2.1,x.2.2.1⟩/\(x.2.2.2.length:Int)=n) ?_ ?_
 .refine Wp.iterF (λx=>(0<=x.1/\x.1<=n)/\bP ⟨x.2.1,x.2.2.1,x.2.2.2.1⟩/\(x.2.2.2.2.length:Int)=x.1) (λx=>(n-x.1).toNat) ⟨⟨by omega,by omega⟩,h1.1,by simp⟩ oaa ?_
  rintro⟨v2,v3,v4,v5,v6⟩ ⟨⟨i0,i1⟩,i2,i3⟩
  simp only at i0 i1 i2 i3
  simp only[zr,<-hn]
  refine Wp.cond (λhb=>?_) (λhb=>Wp.some ⟨i2,by have:=zz412 hb;grind⟩)
  have hb:=zz369 hb
  refine Wp.call (zz464 i2 oaa) λr12 h12=>Wp.ok (ew (by simp;omega) (by simp;omega)) (Wp.some ⟨⟨⟨?_,?_⟩,h12.1,?_⟩,?_⟩)
  all_goals simp only[bJ (show-9223372036854775808<=v2+1/\v2+1<=9223372036854775807 by omega)]
  .omega
  .omega
  .simp;omega
  omega
 rintro⟨v8,v9,v10,v11⟩ ⟨hc,hl⟩
 simp only at hc hl
 refine Wp.call (P:=λx=>bP ⟨x.1,x.2.1,x.2.2.1⟩/\(x.2.2.2.length:Int)=n/\∀e∈x.2.2.2,e.2.length<=200) ?_ ?_
 .refine Wp.iterF (λx=>(1<=x.1/\x.1<=n)/\bP ⟨x.2.1,x.2.2.1,x.2.2.2.1⟩/\(x.2.2.2.2.length:Int)=n/\∀e∈x.2.2.2.2,e.2.length<=20*x.1.toNat) (λx=>(n-x.1).toNat) ⟨⟨by omega,by omega⟩,hc,by grind,by simp⟩ oaa ?_
  rintro⟨v13,v14,v15,v16,v17⟩ ⟨⟨i0,i1⟩,i2,i3,i4⟩
  simp only at i0 i1 i2 i3 i4
  simp only[zt,<-hn]
  refine Wp.cond (λhb=>?_) (λhb=>Wp.some ⟨i2,i3,λe he=>by grind⟩)
  have hb:=zz369 hb
  refine Wp.call (P:=λx=>bP ⟨x.1,x.2.1,x.2.2.1⟩/\(x.2.2.2.length:Int)=n/\∀e∈x.2.2.2,e.2.length<=20*v13.toNat+2*v13.toNat) ?_ ?_
  .refine Wp.iterF (λx=>(0<=x.1/\x.1<=v13)/\bP ⟨x.2.1,x.2.2.1,x.2.2.2.1⟩/\(x.2.2.2.2.length:Int)=n/\∀e∈x.2.2.2.2,e.2.length<=20*v13.toNat+2*x.1.toNat) (λx=>(v13-x.1).toNat) ⟨⟨by omega,by omega⟩,i2,i3,by grind⟩ oaa ?_
   rintro⟨v43,v44,v45,v46,v47⟩ ⟨⟨j0,j1⟩,j2,j3,j4⟩
   simp only at j0 j1 j2 j3 j4
   simp only[zu]
   refine Wp.cond (λhc=>?_) (λhc=>Wp.some ⟨j2,j3,λe he=>by grind⟩)
   have hc:=zz369 hc
   refine Wp.call (P:=λx=>bP ⟨x.2.1,x.2.2.1,x.2.2.2⟩) ?_ ?_
   .refine Wp.cond (λ_=>Wp.call (p5 j2 oaa) λr62 h62=>?_) (λ_=>Wp.call (p5 j2 oaa) λr64 h64=>Wp.some h64)
    exact Wp.cond (λ_=>Wp.some h62) (λ_=>Wp.call (p5 h62 oaa) λr63 h63=>Wp.some h63)
   rintro⟨v58,v59,v60,v61⟩ hc2
   refine Wp.call (P:=λx=>(x.length:Int)=n/\∀e∈x,e.2.length<=20*v13.toNat+2*v43.toNat+2) ?_ ?_
   .refine Wp.cond (λ_=>Wp.call (wJoin (B:=20*v13.toNat+2*v43.toNat) oaa j4 oaa oaa oaa oaa) λr65 h65=>Wp.some ⟨by omega,h65.2⟩) (λ_=>Wp.some ⟨j3,λe he=>by grind⟩)
   intro v62 h62
   refine Wp.some ⟨⟨⟨?_,?_⟩,hc2,h62.1,λe he=>?_⟩,?_⟩
   all_goals simp only[bJ (show-9223372036854775808<=v43+1/\v43+1<=9223372036854775807 by omega)]
   .omega
   .omega
   .grind
   omega
  rintro⟨v55,v56,v57,v58⟩ ⟨k1,k2,k3⟩
  simp only at k1 k2 k3
  refine Wp.some ⟨⟨⟨?_,?_⟩,k1,k2,λe he=>?_⟩,?_⟩
  all_goals simp only[bJ (show-9223372036854775808<=v13+1/\v13+1<=9223372036854775807 by omega)]
  .omega
  .omega
  .grind
  omega
 rintro⟨v40,v41,v42,v43⟩ ⟨hc,hl,hb⟩
 simp only at hc hl hb
 refine Wp.call (P:=λx=>(x.length:Int)=n/\∀e∈x,e.2.length<=200) ?_ λv78 h78=>Wp.some ⟨hc,by grind,h78.2⟩
 refine Wp.iterF (λx=>(0<=x.1/\x.1<=n)/\(x.2.length:Int)=n/\∀e∈x.2,e.2.length<=200) (λx=>(n-x.1).toNat) ⟨⟨by omega,by omega⟩,hl,hb⟩ oaa ?_
 rintro⟨v66,v67⟩ ⟨⟨i0,i1⟩,i3,i4⟩
 simp only at i0 i1 i3 i4
 simp only[zv,<-hn]
 refine Wp.cond (λhb=>?_) (λhb=>Wp.some ⟨i3,i4⟩)
 have hb:=zz369 hb
 refine Wp.call (P:=λx=>(x.length:Int)<=n) ?_ ?_
 .refine Wp.iterF (λx=>(0<=x.1/\x.1<=n)/\(x.2.length:Int)<=x.1) (λx=>(n-x.1).toNat) ⟨⟨by omega,by omega⟩,by simp⟩ oaa ?_
  rintro⟨v79,v80⟩ ⟨⟨j0,j1⟩,j2⟩
  simp only at j0 j1 j2
  simp only[zw,<-hn]
  refine Wp.cond (λhc=>?_) (λhc=>Wp.some oaa)
  have hc:=zz369 hc
  refine Wp.ix oaa oaa λx hx _=>?_
  refine Wp.call (wHas (by grind) _) λr86 _=>?_
  refine Wp.call (P:=λx=>(x.length:Int)<=v79+1) ?_ λx hx=>Wp.some ⟨⟨⟨?_,?_⟩,?_⟩,?_⟩
  .exact Wp.cond (λ_=>Wp.ok (ew (by simp;omega) (by simp;omega)) (Wp.some (by simp;omega))) (λ_=>Wp.some oaa)
  all_goals simp only[bJ (show-9223372036854775808<=v79+1/\v79+1<=9223372036854775807 by omega)]
  all_goals omega
 intro v84 h84
 refine Wp.ix oaa oaa λx hx _=>Wp.some ⟨⟨⟨?_,?_⟩,by grind,zz16 i4 (by grind)⟩,?_⟩
 all_goals simp only[bJ (show-9223372036854775808<=v66+1/\v66+1<=9223372036854775807 by omega)]
 all_goals omega
theorem Gs{v:List (Int×List Int)}(h1:v.length<=5)(h2:∀e∈v,e.2.length<=1000):eZ (⟨v.map λe=>(⟨e.1,e.2⟩:dY)⟩:aZ):=by
 refine⟨by grind,λx hx=>?_⟩
 obtain⟨e,he,rfl⟩:=abN.1 hx
 exact⟨by grind,λ_ _=>trivial⟩
theorem wKey{c:av}(h:bP c):Wp (vL c) (λr=>bP r.2):=by
 unfold vL
 exact Wp.call (zz464 h oaa) λr1 h1=>Wp.some h1.1
structure JM(v:List (Int×List Int)):Prop where
 ar:∀e∈v,0<=e.1/\e.1<=1
 rg:∀(i:Nat) e,v[i]?=ς e->∀x∈e.2,0<=x/\x<v.length/\x≠i
 sy:∀(i j:Nat) e f,v[i]?=ς e->v[j]?=ς f->(j:Int)∈e.2->(i:Int)∈f.2
def zz228(v:List (Int×List Int))(a b:Nat)(x y:Int×List Int):List (Int×List Int):=(v.set a (x.1,x.2++[(b:Int)])).set b (y.1,y.2++[(a:Int)])
theorem zz48{v:List (Int×List Int)}{a b:Nat}{x y:Int×List Int}(hx:v[a]?=ς x)(hy:v[b]?=ς y)(hab:a≠b){e':Int×List Int}(h:(zz228 v a b x y)[i]?=ς e'):
 ∃e,v[i]?=ς e/\e'.1=e.1/\∀z,z∈e'.2↔z∈e.2\/(i=a/\z=b)\/(i=b/\z=a):=by
 rcases zz57 h with⟨e1,e2⟩|⟨e1,e2⟩
 .grind
 grind
theorem zz316{v:List (Int×List Int)}(h:JM v){a b:Nat}{x y:Int×List Int}(hx:v[a]?=ς x)(hy:v[b]?=ς y)(hab:a≠b):JM (zz228 v a b x y):=by
 have ha:=(aat.1 hx).1
 have hb:=(aat.1 hy).1
 have hl:(zz228 v a b x y).length=v.length:=by simp[zz228]
 refine⟨λe he=>?_,λi e he z hz=>?_,λi j e f he hf hj=>?_⟩
 .obtain⟨i,hi⟩:=aaP he
  obtain⟨e0,h0,h1,_⟩:=zz48 hx hy hab hi
  rw[h1];exact h.ar e0 (zz370 h0)
 .obtain⟨e0,h0,h1,h2⟩:=zz48 hx hy hab he
  rw[hl]
  rcases(h2 z).1 hz with hz|hz|hz
  .exact h.rg i e0 h0 z hz
  .omega
  omega
 obtain⟨e0,h0,h1,h2⟩:=zz48 hx hy hab he
 obtain⟨f0,g0,g1,g2⟩:=zz48 hx hy hab hf
 rw[g2]
 rcases(h2 j).1 hj with hz|hz|hz
 .exact .inl (h.sy i j e0 f0 h0 g0 hz)
 .omega
 omega
theorem wJoinJ{v:List (Int×List Int)}{a b:Int}{B:Nat}(hB:B<=1000)(hv:∀e∈v,e.2.length<=B)(hj:JM v)(a0:0<=a)(a1:a<v.length)(b0:0<=b)(b1:b<v.length)(hab:a≠b):Wp (pN v a b) (λr=>(r.length=v.length/\∀e∈r,e.2.length<=B+2)/\JM r):=by
 obtain⟨i,rfl⟩:∃i:Nat,a=i:=⟨a.toNat,by omega⟩
 obtain⟨j,rfl⟩:∃j:Nat,b=j:=⟨b.toNat,by omega⟩
 obtain⟨x,hx⟩:∃x,v[i]?=ς x:=⟨_,zz386 oaa⟩
 obtain⟨y,hy⟩:∃y,v[j]?=ς y:=⟨_,zz386 oaa⟩
 have h1:=hv x (zz370 hx)
 have h2:=hv y (zz370 hy)
 have hy':(v.set i (x.1,x.2++[(j:Int)]))[j]?=ς y:=by rw[List.getElem?_set,if_neg oaa];exact hy
 unfold pN
 rw[bm,hx]
 simp only[acH,acI]
 refine Wp.ok (ew (by simp;omega) (by simp;omega)) ?_
 rw[bm,hy']
 simp only[acH]
 refine Wp.ok (ew (by simp;omega) (by simp;omega)) (Wp.some ⟨⟨by simp,zz16 (zz16 (λe he=>by grind) (by simp;omega)) (by simp;omega)⟩,?_⟩)
 exact zz316 hj hx hy oaa
structure RW(n:Int)(e e':Int×List Int):Prop where
 a:e'.1=e.1
 m:∀z,z∈e'.2↔z∈e.2/\(0<=z/\z<n)
 o:e'.2.Pairwise λx y=>x<y
 l:(e'.2.length:Int)<=n
theorem OB{v w:List (Int×List Int)}(h:JM v)(hl:w.length=v.length)(h2:2<=v.length/\v.length<=5)(hw:∀(i:Nat) e,v[i]?=ς e->∃e',w[i]?=ς e'/\RW v.length e e'):zz410 (⟨w.map λe=>(⟨e.1,e.2⟩:dY)⟩:aZ)=true:=by
 have hlen:(w.map λe=>(⟨e.1,e.2⟩:dY)).length=v.length:=by simp[hl]
 have get:∀(i:Nat) c,(w.map λe=>(⟨e.1,e.2⟩:dY))[i]?=ς c->∃e e',v[i]?=ς e/\w[i]?=ς e'/\RW v.length e e'/\c=⟨e'.1,e'.2⟩:=by
  intro i c hc
  have hi:=(aat.1 hc).1
  obtain⟨e,he⟩:∃e,v[i]?=ς e:=⟨_,zz386 oaa⟩
  obtain⟨e',he',hr⟩:=hw i e he
  rw[abw,he'] at hc
  cases hc;exact⟨e,e',he,he',hr,rfl⟩
 simp only[zz410,hV,bU,eO,hlen]
 refine⟨by omega,λi c hc=>?_⟩
 obtain⟨e,e',he,he',hr,rfl⟩:=get i c hc
 have har:=h.ar e (zz370 he)
 simp only[C5,hV,bU,eO,nbB,eV,hlen]
 refine⟨by rw[hr.a];omega,λk x hx=>?_⟩
 have hm:=zz370 hx
 have hme:=(hr.m x).1 hm
 have hrg:=h.rg i e he x hme.1
 obtain⟨j,rfl⟩:∃j:Nat,x=j:=⟨x.toNat,by omega⟩
 refine⟨by omega,by have:=hrg.2.2;simpa [eqB] using this,EH (key:=id) (by simpa using hr.o) hx,?_⟩
 obtain⟨f,hf⟩:∃f,v[j]?=ς f:=⟨_,zz386 oaa⟩
 obtain⟨f',hf',hrf⟩:=hw j f hf
 have hi:=(aat.1 he).1
 have hs:=h.sy i j e f he hf hme.1
 simp only[BR,acI,abw,hf',Option.map_some,abc]
 exact⟨i,(hrf.m i).2 ⟨hs,by omega,by omega⟩,bv _⟩
theorem wDrawJ{c:av}(h:bP c):Wp (oB c) (λr=>bP r.2/\((2<=r.1.length/\r.1.length<=5)/\∀e∈r.1,e.2.length<=200)/\zz410 (⟨r.1.map λe=>(⟨e.1,e.2⟩:dY)⟩:aZ)=ζ):=by
 unfold oB
 refine Wp.call (zz464 h oaa) λr1 h1=>?_
 obtain⟨n,hn⟩:∃n:Int,n=WR (2+r1.1):=⟨_,rfl⟩
 have hn1:n=2+r1.1:=by rw[hn,bJ oaa]
 refine Wp.call (P:=λx=>bP ⟨x.1,x.2.1,x.2.2.1⟩/\(x.2.2.2.length:Int)=n/\∀a∈x.2.2.2,0<=a/\a<=1) ?_ ?_
 .refine Wp.iterF (λx=>(0<=x.1/\x.1<=n)/\bP ⟨x.2.1,x.2.2.1,x.2.2.2.1⟩/\(x.2.2.2.2.length:Int)=x.1/\∀a∈x.2.2.2.2,0<=a/\a<=1) (λx=>(n-x.1).toNat) ⟨⟨by omega,by omega⟩,h1.1,by simp,by simp⟩ oaa ?_
  rintro⟨v2,v3,v4,v5,v6⟩ ⟨⟨i0,i1⟩,i2,i3,i4⟩
  simp only at i0 i1 i2 i3 i4
  simp only[zr,<-hn]
  refine Wp.cond (λhb=>?_) (λhb=>Wp.some ⟨i2,by have:=zz412 hb;grind,i4⟩)
  have hb:=zz369 hb
  refine Wp.call (zz464 i2 oaa) λr12 h12=>Wp.ok (ew (by simp;omega) (by simp;omega)) (Wp.some ⟨⟨⟨?_,?_⟩,h12.1,?_,?_⟩,?_⟩)
  all_goals simp only[bJ (show-9223372036854775808<=v2+1/\v2+1<=9223372036854775807 by omega)]
  .omega
  .omega
  .simp;omega
  .grind
  omega
 rintro⟨v8,v9,v10,v11⟩ ⟨hc,hl,har⟩
 simp only at hc hl har
 refine Wp.call (P:=λx=>bP ⟨x.1,x.2.1,x.2.2.1⟩/\((x.2.2.2.length:Int)=n/\∀e∈x.2.2.2,e.2.length<=200)/\JM x.2.2.2) ?_ ?_
 .refine Wp.iterF (λx=>(1<=x.1/\x.1<=n)/\bP ⟨x.2.1,x.2.2.1,x.2.2.2.1⟩/\((x.2.2.2.2.length:Int)=n/\∀e∈x.2.2.2.2,e.2.length<=20*x.1.toNat)/\JM x.2.2.2.2) (λx=>(n-x.1).toNat) ⟨⟨by omega,by omega⟩,hc,⟨by grind,by simp⟩,⟨by grind,λi e he x hx=>?_,λi j e f he hf hj=>?_⟩⟩ oaa ?_
  .grind
  .grind
  rintro⟨v13,v14,v15,v16,v17⟩ ⟨⟨i0,i1⟩,i2,⟨i3,i4⟩,i5⟩
  simp only at i0 i1 i2 i3 i4 i5
  simp only[zt,<-hn]
  refine Wp.cond (λhb=>?_) (λhb=>Wp.some ⟨i2,⟨i3,λe he=>by grind⟩,i5⟩)
  have hb:=zz369 hb
  refine Wp.call (P:=λx=>bP ⟨x.1,x.2.1,x.2.2.1⟩/\((x.2.2.2.length:Int)=n/\∀e∈x.2.2.2,e.2.length<=20*v13.toNat+2*v13.toNat)/\JM x.2.2.2) ?_ ?_
  .refine Wp.iterF (λx=>(0<=x.1/\x.1<=v13)/\bP ⟨x.2.1,x.2.2.1,x.2.2.2.1⟩/\((x.2.2.2.2.length:Int)=n/\∀e∈x.2.2.2.2,e.2.length<=20*v13.toNat+2*x.1.toNat)/\JM x.2.2.2.2) (λx=>(v13-x.1).toNat) ⟨⟨by omega,by omega⟩,i2,⟨i3,by grind⟩,i5⟩ oaa ?_
   rintro⟨v43,v44,v45,v46,v47⟩ ⟨⟨j0,j1⟩,j2,⟨j3,j4⟩,j5⟩
   simp only at j0 j1 j2 j3 j4 j5
   simp only[zu]
   refine Wp.cond (λhc=>?_) (λhc=>Wp.some ⟨j2,⟨j3,λe he=>by grind⟩,j5⟩)
   have hc:=zz369 hc
   refine Wp.call (P:=λx=>bP ⟨x.2.1,x.2.2.1,x.2.2.2⟩) ?_ ?_
   .refine Wp.cond (λ_=>Wp.call (p5 j2 oaa) λr62 h62=>?_) (λ_=>Wp.call (p5 j2 oaa) λr64 h64=>Wp.some h64)
    exact Wp.cond (λ_=>Wp.some h62) (λ_=>Wp.call (p5 h62 oaa) λr63 h63=>Wp.some h63)
   rintro⟨v58,v59,v60,v61⟩ hc2
   refine Wp.call (P:=λx=>((x.length:Int)=n/\∀e∈x,e.2.length<=20*v13.toNat+2*v43.toNat+2)/\JM x) ?_ ?_
   .refine Wp.cond (λ_=>Wp.call (wJoinJ (B:=20*v13.toNat+2*v43.toNat) oaa j4 j5 oaa oaa oaa oaa oaa) λr65 h65=>Wp.some ⟨⟨by omega,h65.1.2⟩,h65.2⟩) (λ_=>Wp.some ⟨⟨j3,λe he=>by grind⟩,j5⟩)
   intro v62 h62
   refine Wp.some ⟨⟨⟨?_,?_⟩,hc2,⟨h62.1.1,λe he=>?_⟩,h62.2⟩,?_⟩
   all_goals simp only[bJ (show-9223372036854775808<=v43+1/\v43+1<=9223372036854775807 by omega)]
   .omega
   .omega
   .grind
   omega
  rintro⟨v55,v56,v57,v58⟩ ⟨k1,⟨k2,k3⟩,k4⟩
  simp only at k1 k2 k3 k4
  refine Wp.some ⟨⟨⟨?_,?_⟩,k1,⟨k2,λe he=>?_⟩,k4⟩,?_⟩
  all_goals simp only[bJ (show-9223372036854775808<=v13+1/\v13+1<=9223372036854775807 by omega)]
  .omega
  .omega
  .grind
  omega
 rintro⟨v40,v41,v42,v43⟩ ⟨hc,⟨hl,hb⟩,hj⟩
 simp only at hc hl hb hj
 have hn5:2<=v43.length/\v43.length<=5:=by omega
 refine Wp.call (P:=λx=>((x.length:Int)=n/\∀e∈x,e.2.length<=200)/\∀(i:Nat) e,v43[i]?=ς e->∃e',x[i]?=ς e'/\RW n e e') ?_ λv78 h78=>Wp.some ⟨hc,⟨by grind,h78.1.2⟩,OB hj (by grind) hn5 (by grind)⟩
 refine Wp.iterF (λx=>(0<=x.1/\x.1<=n)/\((x.2.length:Int)=n/\∀e∈x.2,e.2.length<=200)/\∀(i:Nat) e,v43[i]?=ς e->∃e',x.2[i]?=ς e'/\((i:Int)<x.1->RW n e e')/\(x.1<=(i:Int)->e'=e)) (λx=>(n-x.1).toNat) ⟨⟨by omega,by omega⟩,⟨hl,hb⟩,λi e he=>⟨e,he,λhi=>by omega,λ_=>rfl⟩⟩ oaa ?_
 rintro⟨v66,v67⟩ ⟨⟨i0,i1⟩,⟨i3,i4⟩,i5⟩
 simp only at i0 i1 i3 i4 i5
 simp only[zv,<-hn]
 refine Wp.cond (λhb=>?_) (λhb=>Wp.some ⟨⟨i3,i4⟩,λi e he=>?_⟩)
 rotate_left
 .obtain⟨e',h1,h2,h3⟩:=i5 i e he
  have hi:=(aat.1 he).1
  have:=zz412 hb
  grind
 have hb:=zz369 hb
 obtain⟨q,rfl⟩:∃q:Nat,v66=q:=⟨v66.toNat,by omega⟩
 obtain⟨e0,he0⟩:∃e0,v43[q]?=ς e0:=⟨_,zz386 oaa⟩
 obtain⟨eq',hq1,_,hq3⟩:=i5 q e0 he0
 have hq3:=hq3 (adv _)
 subst hq3
 have hl0:=i4 eq' (zz370 hq1)
 refine Wp.call (P:=λx=>(x.length:Int)<=n/\(∀z,z∈x↔z∈eq'.2/\(0<=z/\z<n))/\x.Pairwise λx y=>x<y) ?_ ?_
 .refine Wp.iterF (λx=>(0<=x.1/\x.1<=n)/\(x.2.length:Int)<=x.1/\(∀z,z∈x.2↔z∈eq'.2/\(0<=z/\z<x.1))/\x.2.Pairwise λx y=>x<y) (λx=>(n-x.1).toNat) ⟨⟨by omega,by omega⟩,by simp,λz=>by simp,by simp⟩ oaa ?_
  rintro⟨v79,v80⟩ ⟨⟨j0,j1⟩,j2,j3,j4⟩
  simp only at j0 j1 j2 j3 j4
  simp only[zw,<-hn]
  refine Wp.cond (λhc=>?_) (λhc=>?_)
  rotate_left
  .have:=zz412 hc
   have e:v79=n:=by omega
   subst e
   exact Wp.some ⟨j2,j3,j4⟩
  have hc:=zz369 hc
  simp only[bm,hq1,acH,zz207 (show eq'.2.length<=1048576 by omega)]
  have key:(eq'.2.any λx=>eqB x v79)=ζ↔v79∈eq'.2:=by
   rw[abc];exact⟨λ⟨x,h1,h2⟩=>by rw[<-zz424 h2];exact h1,λh=>⟨v79,h,bv _⟩⟩
  refine Wp.call (P:=λx=>(x.length:Int)<=v79+1/\(∀z,z∈x↔z∈eq'.2/\(0<=z/\z<v79+1))/\x.Pairwise λx y=>x<y) ?_ λx hx=>Wp.some ⟨⟨⟨?_,?_⟩,?_,?_,hx.2.2⟩,?_⟩
  .refine Wp.cond (λhh=>Wp.ok (ew (by simp;omega) (by simp;omega)) (Wp.some ⟨by simp;omega,λz=>?_,?_⟩)) (λhh=>Wp.some ⟨by omega,λz=>?_,j4⟩)
   .grind
   .grind
   grind
  all_goals simp only[bJ (show-9223372036854775808<=v79+1/\v79+1<=9223372036854775807 by omega)]
  .omega
  .omega
  .exact hx.1
  .exact hx.2.1
  omega
 intro v84 h84
 simp only[bm,hq1,acH,acI]
 refine Wp.some ⟨⟨⟨?_,?_⟩,⟨by grind,zz16 i4 (by grind)⟩,λi e he=>?_⟩,?_⟩
 all_goals simp only[bJ (show-9223372036854775808<=(q:Int)+1/\(q:Int)+1<=9223372036854775807 by omega)]
 .omega
 .omega
 .obtain⟨e',h1,h2,h3⟩:=i5 i e he
  by_cases hi:q=i
  .subst hi
   rw[he0] at he;cases he
   exact⟨(eq'.1,v84),by grind,λ_=>⟨rfl,h84.2.1,h84.2.2,h84.1⟩,λh=>by omega⟩
  grind
 omega
theorem X2{c:av}(h:bP c):Wp (CJ c) (λr=>bP r.2/\eZ r.1/\zz410 r.1=ζ):=by
 unfold CJ
 exact Wp.call (wDrawJ h) λr hr=>Wp.some ⟨hr.1,Gs hr.2.1.1.2 (λe he=>by grind),hr.2.2⟩
theorem zz89{τ ρ:Type}{L:τ->Option (ci τ ρ)}(mk:Nat->τ)(xs:List α)(p:Nat->α->Bool)(f:ρ)(c:Option ρ)(hl:xs.length<=9223372036854775806)(hs:∀(k:Nat) (x:α),xs[k]?=ς x->k<xs.length->L (mk k)=bif p k x then ς (.next (mk (k+1))) else ς (.done f))(he:L (mk xs.length)=dn c):
 iter L FU (mk 0)=bif ig p xs then c else ς f:=by
 have:=eG (step:=L) xs.zipIdx (λk (_:Unit)=>mk k) (λ_ y=>bif p y.2 y.1 then ς (.next ()) else ς (.done f)) (λ_=>c) (by simp_all)
  (λk y s hy hk=>by
   have hk':k<xs.length:=by simpa using hk
   have:y=(xs[k],k):=by rw[zz386 hk] at hy;simpa using hy.symm
   simp_all) (λs=>by simp_all) ()
 refine Eq.trans (show iter L FU (mk 0)=_ from this) ?_
 have key:∀ys:List (α×Nat),lU (λ(_:Unit) y=>bif p y.2 y.1 then ς (.next ()) else ς (ci.done f)) (λ_=>c) ys ()=bif ys.all (λy=>p y.2 y.1) then c else ς f:=by
  intro ys
  induction ys with
  |nil=>rfl
  |cons x xs ih=>rw[lU];grind
 exact key _
theorem zz65(xs:List α):ig (λ_ _=>ζ) xs=true:=eO.2 λ_ _ _=>rfl
theorem MS{m:aZ}(h:eZ m):ry m=ς m:=by
 have hl:=h.1
 have:=zz89 (L:=kv m) (λk=>((k:Int),m.bp.take k)) m.bp (λ_ _=>ζ) m.bp (ς m.bp) oaa (λk x hx hk=>by
  have hm:=zz370 hx
  have h1:=(h.2 x hm).1
  have e:m.bp.take (k+1)=m.bp.take k++[x]:=by rw[List.take_add_one,hx];rfl
  simp only[kv,ct hk,bm,hx,abO,e,WRs (k:=k),
   ew (b:=8) (n:=x.cM.length) oaa oaa,
   ew (b:=32) (n:=(m.bp.take k++[(⟨x.fF,x.cM⟩:dY)]).length) (by simp;omega) (by simp;omega),au]) (by simp[kv])
 rw[zz65] at this
 have this:iter (kv m) FU (0,[])=ς m.bp:=by simpa using this
 rw[ry,this];rfl
def zz30(x y:aU):Bool:=eqB x.ID.d4 y.ID.d4&&(eqB x.ID.bZ y.ID.bZ&&ζ)
theorem zz291(x y:aU):zz30 x y=(eqB x.ID.d4 y.ID.d4&&(eqB x.ID.bZ y.ID.bZ&&ζ)):=rfl
def IW(rs:List aU)(k:Nat)(x:aU):Bool:=zz429 x&&ig (λ_ y=>!zz30 y x) (rs.take k)
def yq(rs:List aU):Bool:=ig (IW rs) rs&&leB (rs.length:Int) 4
theorem M8{xs:List α}(h:(xs.take k)[i]?=ς x):xs[i]?=ς x/\i<k:=by
 grind
theorem zz227{rs:List aU}(hl:rs.length<=1000):vd rs=ς (yq rs):=by
 have h2:∀(i:Nat) (x:aU),rs[i]?=ς x->iter (pS rs (i:Int)) FU 0=bif ig (λ_ y=>!zz30 y x) (rs.take i) then ς (.next ((i+1:Nat):Int)) else ς (.done η):=by
  intro i x hx
  have hi:=(aat.1 hx).1
  have hlt:(rs.take i).length=i:=by simp;omega
  refine zz377 (rs.take i) (λ_ y=>!zz30 y x) (ci.done η) _ oaa (λk y hy hk=>?_) (by simp[pS,hlt,WRs (k:=i)])
  obtain⟨hy',hki⟩:=M8 hy
  simp only[pS,ct hki,bm,hx,hy',WRs (k:=k),<-zz291,au]
  cases zz30 y x<;>rfl
 have hL:iter (pR rs) FU 0=bif ig (IW rs) rs then ς (leB (rs.length:Int) 4) else ς false:=by
  refine zz377 rs (IW rs) η _ oaa (λk x hx hk=>?_) (by simp[pR])
  simp only[pR,ct hk,bm,hx,zz283,h2 k x hx,IW,au]
  cases zz429 x<;>cases ig (λ_ y=>!zz30 y x) (rs.take k)<;>rfl
 simp only[vd,hL,yq]
 grind
def zz32(c:Nat)(rs:List aU)(j:Nat):aC:=⟨⟨(rs.getD j default).ID,(rs.getD j default).fA,(rs.getD j default).cX⟩,0,acF (j:Int) (c:Int),0,0,0,η,0,⟨1,[],[]⟩⟩
def ur(p:bO)(rs:List aU)(j:Nat):ag:=⟨rs.getD j default,p,0,⟨0,0,0,0,0⟩,0,0,0,0,0,0,⟨0,0,0⟩,[],⟨1,[]⟩,0,⟨(j:Int),0,0⟩⟩
def BT(b:Int):Int:=bif inR b 0 100000 then b else 0
def uq(b:Int):aj:=⟨BT b,BT b,0,[]⟩
def zz491(m:aZ)(rs:List aU)(p:bO)(b:Int)(n:Nat):ae:=
 ⟨m,(v0 n).map (zz32 m.bp.length rs),(v0 n).map (ur p rs),(v0 n).map (λ_=>uq b),[],0,⟨2,3⟩,0,0⟩
def zeroN:ae:=⟨⟨[]⟩,[],[],[],[],0,⟨0,0⟩,0,0⟩
theorem acc_s(b:Int):rp b=ς (uq b):=by
 simp only[rp,zz355,acH,uq,BT];cases inR b 0 100000<;>rfl
theorem ses_s{p:bO}(h:eA p)(x:aU)(k:Int):rr x p k=ς (⟨x,p,0,⟨0,0,0,0,0⟩,0,0,0,0,0,0,⟨0,0,0⟩,[],⟨1,[]⟩,0,⟨k,0,0⟩⟩:ag):=by
 have h1:=h.1
 simp only[rr,wL,abO,ew (b:=8) (n:=p.bQ.length) oaa oaa,au];rfl
theorem zz233(c:jG)(k:Int):xC c k=ς (⟨c,0,k,0,0,0,η,0,⟨1,[],[]⟩⟩:aC):=by rfl
theorem SN(f:Nat->α)(k:Nat):(v0 (k+1)).map f=(v0 k).map f++[f k]:=by rw[List.range_succ,List.map_append];rfl
theorem Zk[Inhabited α]{xs:List α}(h:xs[k]?=ς x):xs.getD k default=x:=by simp_all
def mkN(m:aZ)(rs:List aU)(p:bO)(b:Int)(k:Nat):Int×List aj×List ag×List aC:=((k:Int),(zz491 m rs p b k).bD,(zz491 m rs p b k).aJ,(zz491 m rs p b k).ax)
theorem new_s{m:aZ}(hm:eZ m){rs:List aU}(hl:rs.length<=1000){p:bO}(hp:eA p)(b:Int):
 uR m rs p b=ς (bif zz410 m&&(zz400 p&&yq rs) then zz491 m rs p b rs.length else zeroN):=by
 simp only[uR,map_s hm,zz296 hp,zz227 hl,acH]
 cases hv:zz410 m with
 |false=>rfl
 |true=>
  cases zz400 p with
  |false=>rfl
  |true=>
   cases yq rs with
   |false=>rfl
   |true=>
    have hc:1<=m.bp.length:=by
     simp only[zz410,hV] at hv
     have:=bU.1 hv.1;omega
    have hz:eqB (m.bp.length:Int) 0=false:=eqB_f.2 oaa
    have:=zz89 (L:=pD m rs p b) (mkN m rs p b) rs (λ_ _=>ζ) ((zz491 m rs p b rs.length).bD,(zz491 m rs p b rs.length).aJ,(zz491 m rs p b rs.length).ax) (ς ((zz491 m rs p b rs.length).bD,(zz491 m rs p b rs.length).aJ,(zz491 m rs p b rs.length).ax)) oaa (λk x hx hk=>by
     simp only[mkN,zz491,pD,ct hk,bm,hx,hz,zz233,cS,ses_s hp,acc_s,WRs (k:=k),SN,
      ew (b:=144) (n:=((v0 k).map (zz32 m.bp.length rs)++[(⟨⟨x.ID,x.fA,x.cX⟩,0,acF (k:Int) (m.bp.length:Int),0,0,0,η,0,⟨1,[],[]⟩⟩:aC)]).length) (by simp;omega) (by simp;omega),
      ew (b:=288) (n:=((v0 k).map (ur p rs)++[(⟨x,p,0,⟨0,0,0,0,0⟩,0,0,0,0,0,0,⟨0,0,0⟩,[],⟨1,[]⟩,0,⟨(k:Int),0,0⟩⟩:ag)]).length) (by simp;omega) (by simp;omega),
      ew (b:=48) (n:=((v0 k).map (λ_=>uq b)++[(⟨(uq b).gm,(uq b).bK,(uq b).eR,[]⟩:aj)]).length) (by simp;omega) (by simp;omega),zz32,ur,Zk hx,au]
     rfl) (by simp[mkN,pD])
    rw[zz65] at this
    simp only[adp,MS hm,au]
    rw[show((0:Int),([]:List aj),([]:List ag),([]:List aC))=mkN m rs p b 0 from rfl,this]
    rfl
section
variable{m:aZ}{rs:List aU}{p:bO}{b:Int}
theorem w0:WR 0=0:=bJ oaa
theorem w1:WR 1=1:=bJ oaa
theorem okN(hm:eZ m)(hp:eA p)(hl:rs.length<=1000):zz364 (zz491 m rs p b rs.length):=by
 refine⟨hm,⟨by simp[zz491];omega,λx hx=>?_⟩,⟨by simp[zz491];omega,λx hx=>?_⟩,⟨by simp[zz491];omega,λx hx=>?_⟩,⟨by simp[zz491],λx hx=>by simp[zz491] at hx⟩⟩
 .obtain⟨k,_,rfl⟩:=abN.1 hx
  exact⟨⟨by simp[zz32],by simp[zz32]⟩,⟨by simp[zz32],by simp[zz32]⟩⟩
 .obtain⟨k,_,rfl⟩:=abN.1 hx
  exact⟨hp,⟨by simp[ur],by simp[ur]⟩,⟨by simp[ur],by simp[ur]⟩⟩
 obtain⟨k,_,rfl⟩:=abN.1 hx
 exact⟨by simp[uq],λ_ _=>trivial⟩
theorem IQ(f:Nat->α){n:Nat}(hk:k<n):((v0 n).map f)[k]?=ς (f k):=by simp[hk]
theorem zz323{f:Nat->α}{n:Nat}(h:((v0 n).map f)[k]?=ς x):k<n/\x=f k:=by
 grind
theorem zz311(b:Int):0<=BT b/\BT b<=100000:=by
 unfold BT
 cases h:inR b 0 100000 with
 |false=>simp
 |true=>simpa using bU.1 h
variable(H:zz410 m=ζ/\zz400 p=ζ/\yq rs=ζ)
include H
theorem Fs:1<=m.bp.length/\m.bp.length<=6:=by
 obtain⟨hv,hs,hr⟩:=id H
 simp only[zz410,hV] at hv
 have:=bU.1 hv.1;omega
theorem zz239(hk:k<rs.length):zz429 (rs.getD k default)=true:=by
 obtain⟨hv,hs,hr⟩:=id H
 simp only[yq,hV] at hr
 have:=eO.1 hr.1 k _ (zz386 hk)
 simp only[IW,hV] at this
 simp_all
theorem zz319:rs.length<=4:=by
 obtain⟨hv,hs,hr⟩:=id H
 simp only[yq,hV] at hr
 have:=y3 hr.2;omega
theorem dev_in(hk:k<rs.length):zz380 (zz32 m.bp.length rs k)=true:=by
 obtain⟨hv,hs,hr⟩:=id H
 have h1:=zz239 H hk
 obtain⟨c1,c2⟩:=Fs H
 have h2:=zz35 (v:=(k:Int)) (n:=(m.bp.length:Int)) oaa oaa
 simp only[zz429,hV] at h1
 simp only[zz380,zz32,ui,h1.1,h1.2.1,h1.2.2,bU.2 (show(0:Int)<=acF (k:Int) (m.bp.length:Int)/\acF (k:Int) (m.bp.length:Int)<=5 from⟨h2.1,by omega⟩),acL,ace]
 simp[inR,leB,p6,zz379,AO,ig,eqB,w1]
theorem ses_in(hk:k<rs.length):zz373 (ur p rs k)=true:=by
 obtain⟨hv,hs,hr⟩:=id H
 have h1:=zz239 H hk
 have hq:kS (⟨(k:Int),0,0⟩:cY)=true:=by simp[kS,leB]
 simp only[zz373,ur,h1,hs,hq,acL]
 have hp:zz417 (ur p rs k)=true:=by
  simp[zz417,ur,zz148,hq,xz,w0,leB]
 simp only[ur] at hp
 rw[hp]
 simp[inR,leB,ltB,p6,jO,jw,D0,AO,ig,eqB,w1]
theorem zz314:lu (uq b)=true:=by
 obtain⟨hv,hs,hr⟩:=id H
 obtain⟨b1,b2⟩:=zz311 b
 simp only[lu,uq,Ty,zz254,List.foldl_nil,Int.add_zero,bJ (show-9223372036854775808<=BT b/\BT b<=9223372036854775807 by omega),bU.2 (show(0:Int)<=BT b/\BT b<=100000 from⟨b1,b2⟩),bU.2 (show(0:Int)<=BT b/\BT b<=BT b from⟨b1,by omega⟩),bU.2 (show(0:Int)<=0/\(0:Int)<=BT b from⟨by omega,b1⟩),bv,acL,ace]
 simp[leB,ig]
theorem mem_in(hk:k<rs.length):Cn (zz491 m rs p b rs.length) k (zz32 m.bp.length rs k)=true:=by
 obtain⟨hv,hs,hr⟩:=id H
 obtain⟨c1,c2⟩:=Fs H
 have h2:=zz35 (v:=(k:Int)) (n:=(m.bp.length:Int)) oaa oaa
 have hq:kS (⟨(k:Int),0,0⟩:cY)=true:=by simp[kS,leB]
 have e1:(zz491 m rs p b rs.length).aJ[k]?=ς (ur p rs k):=IQ _ hk
 have e2:(zz491 m rs p b rs.length).bD[k]?=ς (uq b):=IQ _ hk
 have i1:zz96 (zz32 m.bp.length rs k) (ur p rs k)=true:=by simp[zz96,zz32,ur]
 have i2:eV (zz491 m rs p b rs.length).d7 (zz32 m.bp.length rs k).bh=true:=bU.2 (show(0:Int)<=acF (k:Int) (m.bp.length:Int)/\acF (k:Int) (m.bp.length:Int)<=(m.bp.length:Int)-1 from⟨h2.1,by omega⟩)
 have i3:eV (zz491 m rs p b rs.length).d7 (ur p rs k).bh=true:=bU.2 (show(0:Int)<=0/\(0:Int)<=(m.bp.length:Int)-1 from⟨by omega,by omega⟩)
 have i4:zz440 (uq b) (ur p rs k).bX=true:=by
  have ha:=zz314 (b:=b) H
  simp only[uq] at ha
  simp[zz440,ha,ur,hq,zz361,uq,eqB]
 have i5:eqB (ur p rs k).bX.aO (k:Int)=true:=by simp[ur]
 simp only[Cn,e1,e2,dev_in H hk,ses_in H hk,zz314 (b:=b) H,i1,i2,i3,i4,i5,ace]
theorem net_in:zz378 (zz491 m rs p b rs.length)=true:=by
 obtain⟨hv,hs,hr⟩:=id H
 obtain⟨c1,c2⟩:=Fs H
 have hl:=zz319 H
 have he:Bj (zz491 m rs p b rs.length)=true:=by
  have:∀c:Nat,1<=c->c<=6->inR 0 0 (WR ((mD .i64 1 (c:Int))-1))=true:=by
   intro c h1 h2
   rcases(show c=1\/c=2\/c=3\/c=4\/c=5\/c=6 by omega) with rfl|rfl|rfl|rfl|rfl|rfl<;>kernel_rfl
  simp only[Bj,zz491,this _ c1 c2,acL];simp[inR,leB]
 have hp:kw (zz491 m rs p b rs.length).fP=true:=by show kw ⟨2,3⟩=ζ;kernel_rfl
 have ha:ig (Cn (zz491 m rs p b rs.length)) (zz491 m rs p b rs.length).ax=true:=eO.2 λk d hd=>by
  obtain⟨hk,rfl⟩:=zz323 hd
  exact mem_in H hk
 have hd:(zz491 m rs p b rs.length).ax.length=rs.length:=by simp[zz491]
 have hse:(zz491 m rs p b rs.length).aJ.length=rs.length:=by simp[zz491]
 have hac:(zz491 m rs p b rs.length).bD.length=rs.length:=by simp[zz491]
 simp only[zz378,show zz410 (zz491 m rs p b rs.length).d7=ζ from hv,hp,ha,he,hd,hse,hac,bv,leB_t.2 (show(rs.length:Int)<=4 by omega),acL,ace]
 simp[zz491,leB,eqB]
end
theorem zz68:∀(l:List Int) (r:ByteArray),(l.foldl (λr n=>r.push (UInt8.ofNat n.toNat)) r).data.toList=r.data.toList++l.map λn=>UInt8.ofNat n.toNat
 |[],r=>by simp
 |x::l,r=>by
  rw[List.foldl_cons,zz68 l,zz366]
  simp_all
theorem zz312{a b:List Int}(ha:okB a)(hb:okB b)(h:rD a=rD b):a=b:=by
 have h1:=zz68 a ByteArray.empty
 have h2:=zz68 b ByteArray.empty
 have e:(a.foldl (λr n=>r.push (UInt8.ofNat n.toNat)) ByteArray.empty).data.toList=(b.foldl (λr n=>r.push (UInt8.ofNat n.toNat)) ByteArray.empty).data.toList:=by
  have:rD a=rD b:=h
  unfold rD at this;rw[this]
 rw[h1,h2] at e
 replace e:=List.append_cancel_left e
 clear h h1 h2
 induction a generalizing b with
 |nil=>simp_all
 |cons x a ih=>cases b with
  |nil=>simp at e
  |cons y b=>
   simp only[zz366,List.cons.injEq] at e
   have hx:=ha x (by simp)
   have hy:=hb y (by simp)
   have e1:=congrArg UInt8.toNat e.1
   simp only[yx] at hx hy
   rw[UInt8.toNat_ofNat',UInt8.toNat_ofNat'] at e1
   rw[ih (λz hz=>ha z (by simp[hz])) (λz hz=>hb z (by simp[hz])) e.2,show x=y by omega]
theorem zz389{a:List Int}(ha:okB a)(hb:okB b):strB (rD a) (rD b)=decide (a=b):=by
 rw[acJ,strB_t,decide_eq_true_eq]
 exact⟨zz312 ha hb,λh=>by rw[h]⟩
theorem zz346{x y:aD}(hx:okB x.bL.bk)(hy:okB y.bL.bk):uP x y=ς (decide (x=y)):=by
 have key:(bif eqB x.ah y.ah then bif eqB x.aY y.aY then bif eqB x.bL.dt y.bL.dt then bif eqB x.bL.gk y.bL.gk then bif eqB x.bL.i7 y.bL.i7 then decide (x.bL.bk=y.bL.bk) else η else η else η else η else η)=decide (x=y):=by
  rw[acJ]
  obtain⟨g,e,⟨a,b,c,d⟩⟩:=x
  obtain⟨g',e',⟨a',b',c',d'⟩⟩:=y
  simp only[eqB,cond_eq_ite]
  simp only[decide_eq_true_eq,aD.mk.injEq,bw.mk.injEq]
  constructor
  .simp_all
  simp_all
 rw[<-key]
 simp only[uP,vI,rf,zz389 hx hy]
 grind
def sigB(a b:aG):Bool:=(eqB a.bu b.bu&&(eqB a.bh b.bh&&(eqB a.ah b.ah&&(eqB a.aY b.aY&&(eqB a.bZ b.bZ&&(eqB a.b8.ez b.b8.ez&&(eqB a.b8.f7 b.b8.f7&&(eqB a.b8.i7 b.b8.i7&&(eqB a.b8.vP b.b8.vP&&(eqB a.b8.fA b.b8.fA&&(eqB a.i7 b.i7&&ζ)))))))))))
theorem aal(a b:aG):sigB a b=decide (a=b):=by
 rw[acJ]
 obtain⟨a1,a2,a3,a4,a5,⟨v1,v2,v3,v4,v5⟩,a6⟩:=a
 obtain⟨b1,b2,b3,b4,b5,⟨w1,w2,w3,w4,w5⟩,b6⟩:=b
 simp only[sigB,hV,eqB_t,decide_eq_true_eq,aG.mk.injEq,cy.mk.injEq]
 grind
theorem same_s{x y:bA}(hx:okB x.ct.bL.bk)(hy:okB y.ct.bL.bk):pT x y=ς (decide (x=y)):=by
 have key:(eqB x.bj y.bj&&(booB x.ey y.ey&&(booB x.dB y.dB&&(eqB x.bh y.bh&&(sigB x.a8 y.a8&&decide (x.ct=y.ct))))))=decide (x=y):=by
  rw[acJ]
  obtain⟨a1,a2,a3,a4,a5,a6⟩:=x
  obtain⟨b1,b2,b3,b4,b5,b6⟩:=y
  simp only[aal,hV,eqB_t,booB_t,decide_eq_true_eq,bA.mk.injEq]
 rw[<-key]
 simp only[pT,zz346 hx hy,acH]
 rw[show(eqB x.a8.bu y.a8.bu&&(eqB x.a8.bh y.a8.bh&&(eqB x.a8.ah y.a8.ah&&(eqB x.a8.aY y.a8.aY&&(eqB x.a8.bZ y.a8.bZ&&(eqB x.a8.b8.ez y.a8.b8.ez&&(eqB x.a8.b8.f7 y.a8.b8.f7&&(eqB x.a8.b8.i7 y.a8.b8.i7&&(eqB x.a8.b8.vP y.a8.b8.vP&&(eqB x.a8.b8.fA y.a8.b8.fA&&(eqB x.a8.i7 y.a8.i7&&ζ)))))))))))=sigB x.a8 y.a8 from rfl]
 grind
def hUp(s:ag)(m:aG):Bool:=
 bif eqB m.bu 3 then leB m.ah s.bT.cX&&(!eqB m.ah s.bG||!eqB m.bZ s.aA.vP) else
 bif eqB m.bu 5||eqB m.bu 8 then ltB m.ah s.ah||(eqB m.ah s.ah&&!zz414 s.bg m) else ζ
def zz231(d:aC)(m:aG):Bool:=
 bif eqB m.bu 2 then eqB (zz418 d.dO.fA d.dO.c8 m.b8) 1||eqB (zz418 d.dO.fA d.dO.c8 m.b8) 2 else
 bif eqB m.bu 4||eqB m.bu 6 then ltB m.ah d.ah||(eqB m.ah d.ah&&!zz414 d.bg m) else ζ
def zz272(d:aC)(x:aD):Bool:=ltB x.ah d.ah||(eqB x.ah d.ah&&!zz5 d.bg x)
def zz348(n:ae)(f:bA):Bool:=match n.ax[f.bj.toNat]?,n.aJ[f.bj.toNat]? with
 |some d,ς s=>bif f.dB then f.ey||zz272 d f.ct else bif f.ey then hUp s f.a8 else zz231 d f.a8
 |_,_=>ζ
def zz499(n:ae)(e:dJ):Bool:=!eqB e.bu 13||(!zz55 n e.b7||(n.aT.any (λf=>decide (f=e.b7))||zz348 n e.b7))
theorem hUp_s(s:ag)(m:aG):pU s m=ς (hUp s m):=by
 simp only[pU,zz134,acH,hUp]
 grind
theorem zz347{d:aC}(m:aG):mL d m=ς (zz231 d m):=by
 simp only[mL,zz134,zz237,acH,zz231]
 grind
theorem poss_s(h:NP B n)(f:bA):kR n f=ς (zz55 n f):=by
 have hm6:=zz401 h.map
 have hl:=h.ld
 simp only[kR,zz55,zz355,bJ (n:=(n.d7.bp.length:Int)-1) oaa,bJ (n:=(n.ax.length:Int)-1) oaa,acH]
 rw[show inR f.bh 0 ((n.d7.bp.length:Int)-1)=eV n.d7 f.bh from rfl]
 grind
theorem zz352(h:NP B n)(he:EP e):uQ n e=ς (zz499 n e):=by
 have hfl:=h.fl
 simp only[uQ,IH h.okN,h.vn,poss_s h,acH,zz499]
 cases eqB e.bu 13
 .rfl
 cases hp:zz55 n e.b7
 .rfl
 simp only[Bool.false_or,au]
 simp only[zz55,hV,bU] at hp
 obtain⟨d,s,a,e1,e2,e3,hm⟩:=h.at_ (show e.b7.bj.toNat<n.ax.length by omega)
 have hdev:=NN e.b7.bj hp.2.1.1
 have i1:ix n.ax e.b7.bj=ς d:=by rw[hdev,bm];exact e1
 have i2:ix n.aJ e.b7.bj=ς s:=by rw[hdev,bm];exact e2
 have:=zz377 (L:=px n e) n.aT (λ_ f=>!decide (f=e.b7)) ζ (ς (zz348 n e.b7)) oaa (λk x hx hk=>by
  have hx':=h.fs x (zz370 hx)
  simp only[px,ct hk,bm,hx,same_s hx'.b he.r,WRs (k:=k),dn,au]
  grind) (by
  simp only[px,zz337,i1,i2,hUp_s,zz347,zz470 he.r,zz348,e1,e2,zz272,au]
  grind)
 rw[this,zz423]
 grind
theorem yB(x:Int): -9223372036854775808<=WR x/\WR x<=9223372036854775807:=by
 have e:WR x=if x%18446744073709551616 >= 9223372036854775808 then x%18446744073709551616-18446744073709551616 else x%18446744073709551616:=by
  show IntKind.wrap .i64 x=_
  unfold IntKind.wrap
  simp[IntKind.bits,IntKind.signed]
 rw[e]
 split<;>omega
abbrev R64(x:Int):Prop:= -9223372036854775808<=x/\x<=9223372036854775807
theorem R64.z:R64 0:=by decide
def SgR(m:aG):Prop:=R64 m.ah/\R64 m.aY
def SgC(m:aG):Prop:=R64 m.bh/\SgR m
def RaR(x:aD):Prop:=R64 x.bL.gk/\R64 x.aY
structure RgF(f:bA):Prop where
 d:R64 f.bj
 c:R64 f.bh
 k:R64 f.a8.bh
 s:SgR f.a8
 r:RaR f.ct
theorem zz333{c:av}(h:bP c):Wp (zx c) (λr=>bP r.2/\r.1.bQ.length<=4/\zz400 r.1=ζ):=by
 unfold zx
 refine Wp.call (zz464 h oaa) λr1 h1=>Wp.call (zz464 h1.1 oaa) λr2 h2=>Wp.call (zz464 h2.1 oaa) λr3 h3=>?_
 refine Wp.call (P:=λx=>bP x.2/\x.1.length<=4/\(∀a∈x.1,0<=a/\a<=3)/\x.1.Pairwise λa b=>a<b) ?_ ?_
 .refine Wp.iterF (λx=>(0<=x.1/\x.1<=4)/\bP x.2.2/\(x.2.1.length:Int)<=x.1/\(∀a∈x.2.1,0<=a/\a<x.1)/\x.2.1.Pairwise λa b=>a<b) (λx=>(4-x.1).toNat) ⟨⟨by omega,by omega⟩,h3.1,by simp,by simp,by simp⟩ (by simp) ?_
  rintro⟨v4,v8,v9⟩ ⟨⟨i0,i1⟩,i2,i3,i4,i5⟩
  simp only at i0 i1 i2 i3 i4 i5
  simp only[D5]
  refine Wp.cond (λhb=>?_) (λhb=>Wp.some ⟨i2,by grind,λa ha=>by grind,i5⟩)
  have hb:=zz369 hb
  refine Wp.call (p5 i2 oaa) λr15 h15=>?_
  refine Wp.call (P:=λx=>(x.length:Int)<=v4+1/\(∀a∈x,0<=a/\a<v4+1)/\x.Pairwise λa b=>a<b) ?_ λx hx=>Wp.some ⟨⟨⟨?_,?_⟩,h15,?_,?_,hx.2.2⟩,?_⟩
  .refine Wp.cond (λ_=>Wp.ok (ew (by simp;omega) (by simp;omega)) (Wp.some ⟨by simp;omega,λa ha=>?_,?_⟩)) (λ_=>Wp.some ⟨by omega,λa ha=>by grind,i5⟩)
   .grind
   grind
  all_goals simp only[bJ (show-9223372036854775808<=v4+1/\v4+1<=9223372036854775807 by omega)]
  .omega
  .omega
  .exact hx.1
  .exact hx.2.1
  omega
 rintro⟨x,c2⟩ ⟨k1,k2,k3,k4⟩
 simp only at k1 k2 k3 k4
 refine Wp.some ⟨k1,k2,?_⟩
 simp only[zz400,Gx,hV,bU,eO]
 rw[bJ (show-9223372036854775808<=1+r1.1/\1+r1.1<=9223372036854775807 by omega),bJ (show-9223372036854775808<=1+r2.1/\1+r2.1<=9223372036854775807 by omega),bJ (show-9223372036854775808<=1+r3.1/\1+r3.1<=9223372036854775807 by omega)]
 refine⟨⟨by omega,by omega,by omega⟩,λk a ha=>⟨k3 a (zz370 ha),EH (key:=id) (by simp_all) ha⟩⟩
theorem zz325{c:av}(h:bP c):Wp (nP c) (λr=>bP r.2/\(1<=r.1.length/\r.1.length<=3)/\yq r.1=ζ/\∀y∈r.1,y.cX<=20):=by
 unfold nP
 refine Wp.call (zz464 h oaa) λr1 h1=>?_
 have hw:WR (1+r1.1)=1+r1.1:=bJ oaa
 refine Wp.call (P:=λx=>bP x.2/\(x.1.length:Int)=1+r1.1/\∀(k:Nat) y,x.1[k]?=ς y->zz429 y=ζ/\y.ID.bZ=1+r1.1-k/\y.cX<=20) ?_ ?_
 .refine Wp.iterF (λx=>0<=x.1/\bP x.2.2/\(x.2.1.length:Int)+x.1=1+r1.1/\∀(k:Nat) y,x.2.1[k]?=ς y->zz429 y=ζ/\y.ID.bZ=1+r1.1-k/\y.cX<=20) (λx=>x.1.toNat) ⟨by omega,h1.1,by rw[hw];simp,by simp⟩ oaa ?_
  rintro⟨v2,v6,v7⟩ ⟨i0,i2,i3,i4⟩
  simp only at i0 i2 i3 i4
  simp only[t9]
  refine Wp.cond (λhb=>?_) (λhb=>Wp.some ⟨i2,by have:=zz412 hb;grind,i4⟩)
  have hb:=zz369 hb
  have hkey:Wp (vL v7) (λr=>bP r.2/\p6 r.1=ζ):=by
   unfold vL
   exact Wp.call (zz464 i2 oaa) λr1 h1=>Wp.some ⟨h1.1,bU.2 (by rw[bJ oaa];omega)⟩
  refine Wp.call hkey λr13 h13=>Wp.call (zz464 h13.1 oaa) λr14 h14=>Wp.ok (ew (by simp;omega) (by simp;omega)) (Wp.some ⟨⟨?_,h14.1,?_,λk y hy=>?_⟩,?_⟩)
  rotate_left 2
  .rw[List.getElem?_append] at hy
   split at hy
   .grind
   rename_i hk
   have hk0:k-v6.length=0:=by
    have:=(aat.1 hy).1
    simp at this;omega
   rw[hk0] at hy
   simp at hy;subst hy
   simp only[zz429,zz101,hV,bU]
   grind
  all_goals simp only[bJ (show-9223372036854775808<=v2-1/\v2-1<=9223372036854775807 by omega)]
  .omega
  .omega
  grind
 rintro⟨x,c2⟩ ⟨k1,k2,k3⟩
 simp only at k1 k2 k3
 refine Wp.some ⟨k1,by grind,?_,λy hy=>by obtain⟨k,hk⟩:=aaP hy;grind⟩
 simp only[yq,hV,eO,IW]
 refine⟨λk y hy=>⟨(k3 k y hy).1,λi z hz=>?_⟩,leB_t.2 oaa⟩
 obtain⟨hz1,hz2⟩:=M8 hz
 have e1:=(k3 k y hy).2.1
 have e2:=(k3 i z hz1).2.1
 have:eqB z.ID.bZ y.ID.bZ=false:=eqB_f.2 oaa
 simp[zz30,this]
inductive Reach:Nat->ae->Prop
 |new {m:aZ} {rs:List aU} {p:bO} {b:Int} (h:zz410 m=ζ/\zz400 p=ζ/\yq rs=ζ) (hm:eZ m) (hp:eA p) (hl:1<=rs.length/\rs.length<=3) (hq:∀y∈rs,y.cX<=20):Reach 0 (zz491 m rs p b rs.length)
 |step {k:Nat} {n:ae} {e:dJ}:Reach k n->EP e->zz499 n e=ζ->Reach (k+1) (zz493 n e).2
def FS(n:ae)(e:dJ):Prop:=e.bu=13->RgF e.b7/\(e.b7.dB=ζ->e.b7.ey=η/\∃d,n.ax[e.b7.bj.toNat]?=ς d/\e.b7.ct.ah=d.ah/\zz5 d.bg e.b7.ct=η)
theorem FV(n:ae)(h:e.bu≠13):FS n e:=λh1=>absurd h1 h
inductive zz73:Nat->ae->Prop
 |new {m:aZ} {rs:List aU} {p:bO} {b:Int} (h:zz410 m=ζ/\zz400 p=ζ/\yq rs=ζ) (hm:eZ m) (hp:eA p) (hl:1<=rs.length/\rs.length<=3) (hq:∀y∈rs,y.cX<=20):zz73 0 (zz491 m rs p b rs.length)
 |step {k:Nat} {n:ae} {e:dJ}:zz73 k n->EP e->zz499 n e=ζ->FS n e->zz73 (k+1) (zz493 n e).2
theorem zz73.re:∀{k:Nat} {n:ae},zz73 k n->Reach k n
 |_,_,.new h hm hp hl hq=>.new h hm hp hl hq
 |_,_,.step h he hh _=>.step h.re he hh
theorem Reach.np:∀{k:Nat} {n:ae},Reach k n->k<=1000000->NP (10000*(k:Int)) n
 |_,_,.new (m:=m) (rs:=rs) (p:=p) (b:=b) h hm hp hl _,_=>by
  have ok:zz364 (zz491 m rs p b rs.length):=okN hm hp oaa
  have v:=net_in (b:=b) h
  have by':BY (zz491 m rs p b rs.length):=by
   refine⟨λd hd=>?_,λd hd=>?_,λs hs=>?_,λs hs=>?_,by simp[zz491]⟩
   .simp only[zz491,abN] at hd;obtain⟨j,_,rfl⟩:=hd;simp[zz32]
   .simp only[zz491,abN] at hd;obtain⟨j,_,rfl⟩:=hd;simp[zz32]
   .simp only[zz491,abN] at hs;obtain⟨j,_,rfl⟩:=hs;simp[ur]
   simp only[zz491,abN] at hs;obtain⟨j,_,rfl⟩:=hs;simp[ur]
  exact(NP.of ok v by').mono (by show(0:Int)<=_;omega)
 |_,_,.step (k:=k) h he _,hk=>by
  have:=(zz91 (h.np oaa) he oaa).2.2
  grind
theorem zz81{k i c:Int}(hb:okB b):EP ⟨k,i,c,b,fE⟩:=⟨hb,zz56,λx hx=>by simp[fE,fg,kq] at hx⟩
theorem zz503(n:ae)(h:e.bu≠13):zz499 n e=true:=by
 rw[zz499,eqB_f.2 h];rfl
theorem ZQ(h:NP B n)(hs:n.aJ[i]?=ς s)(b:List Int):(zz493 n ⟨8,i,0,b,fE⟩).2={n with aJ:=n.aJ.set i (yy s b).1}:=by
 have hi:=(aat.1 hs).1
 have hls:=h.ls
 obtain⟨d,s',a,e1,e2,e3,hm⟩:=h.at_ (show i<n.ax.length by omega)
 have hr:inR (i:Int) 0 ((n.ax.length:Int)-1)=true:=bU.2 oaa
 simp only[zz493]
 rw[if_neg (show ¬(8:Int)=1 by omega),if_neg (show ¬((8:Int)=2\/(8:Int)=3\/(8:Int)=4) by omega),if_pos (show(8:Int)=5\/(8:Int)=6\/(8:Int)=7\/True by simp)]
 simp only[zz182,hr,acI,e1,hs,zz192,zz193,Mv,au]
 cases hb:(yy s b).2
 .have hs':(yy s b).1=s:=by
   revert hb;rw[yy];cases leB 24 (s.aS.length:Int)||ltB 60 (b.length:Int)
   .simp_all
   intro _;rfl
  simp only[cond_false,hs',zz411 hs]
 rfl
theorem own_on(h:NP B n){d:aC}(hd:n.ax[i]?=ς d):(zz493 n ⟨5,i,0,[],fE⟩).2=fP n i (dOn d):=by
 have hi:=(aat.1 hd).1
 obtain⟨d',s,a,e1,e2,e3,hm⟩:=h.at_ hi
 have hr:inR (i:Int) 0 ((n.ax.length:Int)-1)=true:=bU.2 oaa
 simp only[zz493]
 rw[if_neg (show ¬(5:Int)=1 by omega),if_neg (show ¬((5:Int)=2\/(5:Int)=3\/(5:Int)=4) by omega),if_pos (show True\/(5:Int)=6\/(5:Int)=7\/(5:Int)=8 by simp)]
 simp only[zz182,hr,acI,hd,e2,bv,au]
 cases hb:eqB d.bz 0
 .simp only[fP,dOn,hb,zz411 hd,List.map_nil,au];rfl
 rfl
def RN(B:Nat)(l:Nat)(n:ae):Prop:=∃k,zz73 k n/\k<=B/\n.ax.length=l
theorem RN.np{B:Nat}(h:RN B l n)(hB:B<=1000000):∃b:Int,NP b n/\b<=10000000000:=by
 obtain⟨k,h1,h2,_⟩:=h
 exact⟨_,h1.re.np oaa,by omega⟩
theorem RN.sub{B:Nat}(h:RN B l n)(hB:B<=1000000)(hs:n.aJ[i]?=ς s)(hb:okB b):RN (B+1) l {n with aJ:=n.aJ.set i (yy s b).1}:=by
 obtain⟨b',hn,_⟩:=h.np hB
 obtain⟨k,h1,h2,h3⟩:=h
 have:=zz73.step h1 (zz81 (k:=8) (i:=(i:Int)) (c:=0) hb) (zz503 n (by simp)) (FV n (by simp))
 rw[ZQ hn hs b] at this
 exact⟨_,this,by omega,h3⟩
theorem RN.on{B:Nat}(h:RN B l n)(hB:B<=1000000){d:aC}(hd:n.ax[i]?=ς d):RN (B+1) l (fP n i (dOn d)):=by
 obtain⟨b',hn,_⟩:=h.np hB
 obtain⟨k,h1,h2,h3⟩:=h
 have:=zz73.step h1 (zz81 (k:=5) (i:=(i:Int)) (c:=0) (b:=[]) (λx hx=>by simp at hx)) (zz503 n (by simp)) (FV n (by simp))
 rw[own_on hn hd] at this
 exact⟨_,this,by omega,by rw[(zz385 n i (dOn d)).1];exact h3⟩
def RZ(B:Nat)(l:Nat)(n:ae):Prop:=∃k,zz73 k n/\k<=B/\n.ax.length=l/\n.cF=0
theorem RZ.rn{B:Nat}(h:RZ B l n):RN B l n:=by
 obtain⟨k,h1,h2,h3,_⟩:=h;exact⟨k,h1,h2,h3⟩
theorem RZ.np{B:Nat}(h:RZ B l n)(hB:B<=1000000):∃b:Int,NP b n/\b<=10000000000:=h.rn.np hB
theorem RZ.sub{B:Nat}(h:RZ B l n)(hB:B<=1000000)(hs:n.aJ[i]?=ς s)(hb:okB b):RZ (B+1) l {n with aJ:=n.aJ.set i (yy s b).1}:=by
 obtain⟨k,h1,h2,h3⟩:=h.rn.sub hB hs hb
 exact⟨k,h1,h2,h3,h.choose_spec.2.2.2⟩
theorem RZ.on{B:Nat}(h:RZ B l n)(hB:B<=1000000){d:aC}(hd:n.ax[i]?=ς d):RZ (B+1) l (fP n i (dOn d)):=by
 obtain⟨k,h1,h2,h3⟩:=h.rn.on hB hd
 exact⟨k,h1,h2,h3,(it ((dOn d).c9.map (zz358 i ζ)) {n with ax:=n.ax.set i (dOn d).bj}).2.2.2.2.1.trans h.choose_spec.2.2.2⟩
theorem zz376{c:av}(h:bP c):Wp (CP c) (λr=>bP r.2/\∃l,(1<=l/\l<=3)/\RZ 40 l r.1):=by
 unfold CP
 refine Wp.call (zz333 h) λr1 h1=>?_
 have hp:eA r1.1:=⟨by omega,λ_ _=>trivial⟩
 refine Wp.call (P:=λx=>bP x.2.2.2.2.2.2.2.1/\∃l,(1<=l/\l<=3)/\RZ 0 l ⟨⟨x.2.2.2.2.2.2.1⟩,x.2.2.2.2.2.1,x.2.2.2.2.1,x.2.2.2.1,[],x.1,x.2.2.2.2.2.2.2.2,x.2.1,x.2.2.1⟩) ?_ ?_
 .refine Wp.call (X2 h1.1) λr16 h16=>Wp.call (zz325 h16.1) λr17 h17=>Wp.call (zz464 h17.1 oaa) λr18 h18=>?_
  have hv:zz410 r16.1=ζ/\zz400 r1.1=ζ/\yq r17.1=true:=⟨h16.2.2,h1.2.2,h17.2.2.1⟩
  have hl:=h17.2.1
  rw[new_s h16.2.1 oaa hp,hv.1,hv.2.1,hv.2.2]
  refine Wp.some ⟨h18.1,r17.1.length,hl,0,?_,Nat.le_refl _,by simp[zz491]⟩
  exact zz73.new (b:=WR (30+r18.1)) hv h16.2.1 hp hl h17.2.2.2
 rintro⟨v5,v8,v9,v10,v11,v12,v13,v14,v15⟩ ⟨hc,l,hl,hr⟩
 simp only at hc hr
 refine Wp.call (P:=λx=>bP x.1/\RZ 40 l x.2) ?_ λx hx=>Wp.some ⟨hx.1,l,hl,hx.2⟩
 refine Wp.iterF (λx=>(0<=x.1/\x.1<=(l:Int))/\bP x.2.1/\RZ (7*x.1.toNat) l x.2.2) (λx=>((l:Int)-x.1).toNat) ⟨⟨by omega,by omega⟩,hc,hr⟩ oaa ?_
 rintro⟨v20,v34,n⟩ ⟨⟨i0,i1⟩,i2,i3⟩
 simp only at i0 i1 i2 i3
 obtain⟨b,hn,hb⟩:=i3.np oaa
 have hdl:n.ax.length=l:=i3.choose_spec.2.2.1
 simp only[G9]
 refine Wp.cond (λhb=>?_) (λhb=>Wp.some ⟨i2,?_⟩)
 rotate_left
 .obtain⟨k,g1,g2,g3⟩:=i3;exact⟨k,g1,by omega,g3⟩
 have hb:=zz369 hb
 obtain⟨q,rfl⟩:∃q:Nat,v20=q:=⟨v20.toNat,by omega⟩
 refine Wp.call (zz464 i2 oaa) λr117 h117=>?_
 refine Wp.call (P:=λx=>bP x.2/\RZ (7*q+6) l {n with aJ:=x.1}) ?_ ?_
 .refine Wp.iterF (λx=>(0<=x.1/\x.1<=6)/\bP x.2.2/\RZ (7*q+(6-x.1.toNat)) l {n with aJ:=x.2.1}) (λx=>x.1.toNat) ⟨⟨by omega,by omega⟩,h117.1,?_⟩ oaa ?_
  .obtain⟨k,g1,g2,g3⟩:=i3;exact⟨k,g1,by omega,g3⟩
  rintro⟨v118,v122,v123⟩ ⟨⟨j0,j1⟩,j2,j3⟩
  simp only at j0 j1 j2 j3
  simp only[Ha]
  refine Wp.cond (λhc=>?_) (λhc=>Wp.some ⟨j2,?_⟩)
  rotate_left
  .obtain⟨k,g1,g2,g3⟩:=j3;exact⟨k,g1,by omega,g3⟩
  have hc:=zz369 hc
  obtain⟨b',hn',_⟩:=j3.np oaa
  have hls:=hn'.ls
  simp only at hls
  obtain⟨s,hs⟩:∃s,v122[q]?=ς s:=⟨_,zz386 oaa⟩
  obtain⟨d',s',a',e1,e2,e3,hm⟩:=hn'.at_ (i:=q) (by simp_all)
  simp only at e1 e2 e3
  rw[hs] at e2;cases e2
  simp only[bm,hs,acH]
  refine Wp.call (zz464 j2 oaa) λr135 h135=>Wp.call (zz180 h135.1 h135.2.1 oaa) λr136 h136=>?_
  rw[zz295 hm.sg.sp.ok]
  simp only[acH,acI]
  refine Wp.some ⟨⟨⟨?_,?_⟩,h136.1,?_⟩,?_⟩
  all_goals simp only[bJ (show-9223372036854775808<=v118-1/\v118-1<=9223372036854775807 by omega)]
  .omega
  .omega
  .have:=j3.sub oaa (i:=q) hs h136.2.1
   grind
  omega
 rintro⟨v132,v133⟩ ⟨k1,k2⟩
 simp only at k1 k2
 obtain⟨b',hn',_⟩:=k2.np oaa
 obtain⟨d,hd⟩:∃d,n.ax[q]?=ς d:=⟨_,zz386 oaa⟩
 obtain⟨d',s',a',e1,e2,e3,hm⟩:=hn'.at_ (i:=q) (by simp_all)
 simp only at e1
 rw[hd] at e1;cases e1
 refine Wp.call (p5 k1 oaa) λr139 h139=>?_
 refine Wp.call (P:=λx=>RZ (7*q+7) l x) ?_ λx hx=>Wp.some ⟨⟨⟨?_,?_⟩,h139,?_⟩,?_⟩
 .refine Wp.cond (λ_=>?_) (λ_=>Wp.some ?_)
  .simp only[bm,hd,on_s hm.dp.ok,acH,acI]
   have hlen:=(zz184 d).len
   have:=eG (step:=t8 (q:Int) (dOn d)) (dOn d).c9 (λk n=>((k:Int),n)) (λn x=>acE (iU n (zz358 (q:Int) ζ x)) λr=>ς (.next r)) ς oaa
    (λk x n hx hk=>by
     simp only[t8,ct hk,bm,hx,WRs (k:=k),zz358,au]
     simp_all) (λn=>by simp[t8]) {n with ax:=n.ax.set q (dOn d).bj,aJ:=v132}
   rw[zz447 iU (zz358 (q:Int) ζ) (λn x=>zz37 (zz34 (q:Int) ζ x))] at this
   rw[show iter (t8 (q:Int) (dOn d)) FU (0,{n with ax:=n.ax.set q (dOn d).bj,aJ:=v132})=_ from this]
   exact Wp.some (k2.on oaa (i:=q) hd)
  obtain⟨k,g1,g2,g3⟩:=k2;exact⟨k,g1,by omega,g3⟩
 all_goals simp only[bJ (show-9223372036854775808<=(q:Int)+1/\(q:Int)+1<=9223372036854775807 by omega)]
 .omega
 .omega
 .grind
 omega
theorem w32New{c:av}(h:bP c):Wp (CP c) (λr=>bP r.2/\∃l,(1<=l/\l<=3)/\RN 40 l r.1):=
 Wp.mono (zz376 h) λr ⟨h1,l,h2,h3⟩=>⟨h1,l,h2,h3.rn⟩
abbrev C2{α:Type}(r:α×av):Prop:=bP r.2
abbrev C1{α:Type}(r:av×α):Prop:=bP r.1
theorem zz215{c:av}(h:bP c):Wp (Au c) C2:=by
 unfold Au
 refine Wp.call (p5 h oaa) λr1 h1=>Wp.cond (λ_=>Wp.call (zz497 h1 (by simp)) λr2 h2=>Wp.some h2.1) (λ_=>?_)
 refine Wp.call (p5 h1 oaa) λr3 h3=>Wp.cond (λ_=>Wp.call (zz497 h3 (by simp)) λr2 h2=>Wp.some h2.1) (λ_=>?_)
 exact Wp.call (zz464 h3 oaa) λr5 h5=>Wp.call (zz464 h5.1 oaa) λr6 h6=>Wp.some h6.1
theorem w5Seq{c:av}(h:bP c):Wp (KR c) C2:=by
 unfold KR
 refine Wp.call (p5 h oaa) λr1 h1=>Wp.cond (λ_=>Wp.call (zz497 h1 (by simp)) λr2 h2=>Wp.some h2.1) (λ_=>?_)
 exact Wp.call (zz464 h1 oaa) λr5 h5=>Wp.some h5.1
theorem w5Vec{c:av}(h:bP c):Wp (Av c) C2:=by
 unfold Av
 refine Wp.call (wKey h) λr1 h1=>Wp.call (zz464 h1 oaa) λr2 h2=>Wp.call (w5Seq h2.1) λr3 h3=>?_
 rw[zz189]
 simp only[acH]
 refine Wp.call (zz464 h3 oaa) λr5 h5=>?_
 refine Wp.call (P:=C1) ?_ λx hx=>Wp.some hx
 refine Wp.cond (λ_=>Wp.call (zz215 h5.1) λr h=>Wp.some h) (λ_=>?_)
 refine Wp.call (P:=C1) ?_ λx hx=>Wp.some hx
 refine Wp.cond (λ_=>Wp.call (zz497 h5.1 (by simp)) λr h=>Wp.some h.1) (λ_=>?_)
 refine Wp.call (P:=λ_=>True) (Wp.cond (λ_=>Wp.some trivial) (λ_=>Wp.some trivial)) λx _=>Wp.some h5.1
theorem w30{c:av}(h:bP c)(hs:SP s):Wp (xM c s) (λr=>bP r.2/\SgC r.1):=by
 have g1:=hs.gn
 have g2:=hs.ps
 unfold xM
 refine Wp.call (zz464 h oaa) λr1 h1=>Wp.call (zz464 h1.1 oaa) λr2 h2=>Wp.call (zz464 h2.1 oaa) λr3 h3=>Wp.call (zz464 h3.1 oaa) λr4 h4=>?_
 refine Wp.call (P:=λx=>bP x.1/\SgC x.2) ?_ λx hx=>?_
 .refine Wp.cond (λ_=>Wp.some ⟨h4.1,by simp only[];omega,by simp only[];omega,yB _⟩) (λ_=>?_)
  refine Wp.call (P:=C2) ?_ λx hx=>Wp.some ⟨hx,by simp only[];omega,by simp only[];omega,yB _⟩
  refine Wp.cond (λ_=>?_) (λ_=>Wp.some h4.1)
  refine Wp.call (zz464 h4.1 oaa) λr17 h17=>Wp.call (zz464 h17.1 oaa) λr18 h18=>?_
  rw[zz177];exact Wp.some h18.1
 obtain⟨v10,v11⟩:=x
 obtain⟨hx,hg⟩:=hx
 simp only[BD,acH]
 replace hx:bP _:=hx
 replace hg:SgC (zz439 s.bg v11):=hg
 refine Wp.call (zz464 hx oaa) λr21 h21=>?_
 refine Wp.call (P:=λx=>bP x.1/\SgC x.2) ?_ λx hx=>Wp.some hx
 refine Wp.cond (λ_=>Wp.call (zz215 h21.1) λr h=>Wp.some ⟨h,hg⟩) (λ_=>?_)
 refine Wp.call (P:=SgC) ?_ λx hx=>Wp.some ⟨h21.1,hx⟩
 refine Wp.cond (λ_=>Wp.some hg) (λ_=>?_)
 exact Wp.call (P:=R64) (Wp.cond (λ_=>Wp.some (yB _)) (λ_=>Wp.some hg.2.1)) λx hx=>Wp.some ⟨hg.1,hx,hg.2.2⟩
theorem w29{c:av}(h:bP c){d:aC}(hd:DP d):Wp (ER c d) (λr=>bP r.2/\SgC r.1):=by
 have g1:=hd.gn
 have g2:=hd.ep
 have g3:=hd.ce
 unfold ER
 refine Wp.call (zz464 h oaa) λr1 h1=>?_
 refine Wp.call (P:=λx=>bP x.1/\SgC x.2) ?_ λx hx=>?_
 .refine Wp.cond (λ_=>?_) (λ_=>?_)
  .rw[NF]
   simp only[acH]
   rw[zz189]
   simp only[acH]
   refine Wp.call (p5 h1.1 oaa) λr20 h20=>?_
   refine Wp.call (P:=λx=>bP x.1/\SgC x.2) ?_ λx hx=>Wp.some hx
   exact Wp.cond (λ_=>Wp.call (w5Vec h20) λr h=>Wp.some ⟨h,by simp only[];omega,yB _,by simp only[];omega⟩) (λ_=>Wp.some ⟨h20,by simp only[];omega,yB _,by simp only[];omega⟩)
  refine Wp.call (P:=λx=>bP x.2/\R64 x.1) ?_ λx hx=>Wp.some ⟨hx.1,by simp only[];omega,by simp only[];omega,hx.2⟩
  exact Wp.cond (λ_=>Wp.call (zz464 h1.1 oaa) λr h=>Wp.some ⟨h.1,by simp only[];omega⟩) (λ_=>Wp.some ⟨h1.1,by simp only[];omega⟩)
 obtain⟨v16,v17⟩:=x
 obtain⟨hx,hg⟩:=hx
 simp only[BD,acH]
 replace hx:bP _:=hx
 replace hg:SgC (zz439 d.bg v17):=hg
 refine Wp.call (zz464 hx oaa) λr39 h39=>?_
 refine Wp.call (P:=λx=>bP x.1/\SgC x.2) ?_ λx hx=>Wp.some hx
 refine Wp.cond (λ_=>Wp.call (zz215 h39.1) λr h=>Wp.some ⟨h,hg⟩) (λ_=>?_)
 refine Wp.call (P:=λx=>bP x.1/\SgC x.2) ?_ λx hx=>Wp.some hx
 refine Wp.cond (λ_=>Wp.call (zz464 h39.1 oaa) λr h=>Wp.some ⟨h.1,yB _,hg.2⟩) (λ_=>?_)
 exact Wp.call (P:=R64) (Wp.cond (λ_=>Wp.some (yB _)) (λ_=>Wp.some hg.2.1)) λx hx=>Wp.some ⟨h39.1,hg.1,hx,hg.2.2⟩
theorem rad_fr{y:aD}(h:zz469 y)(i c:Int)(k:Int):ke ⟨i,η,ζ,c,fc,{y with bL:={y.bL with i7:=k}}⟩/\okB y.bL.bk:=⟨⟨Nat.le_trans h.2 (by decide),λ_ _=>trivial⟩,h.1⟩
abbrev FR(f:bA):Prop:=ke f/\okB f.ct.bL.bk
abbrev FP2(d:aC)(i:Int)(x:av×bA):Prop:=bP x.1/\(FR x.2/\RgF x.2)/\(x.2.bj=i)/\((x.2.dB=ζ/\x.2.ey=η/\zz272 d x.2.ct=ζ/\x.2.ct.ah=d.ah/\zz5 d.bg x.2.ct=η)\/x.2.dB=η)
theorem zz341{d:aC}{y:aD}{k i cell:Int}{c:av}(hc:bP c)(h:zz469 y)(hh:zz272 d {y with bL:={y.bL with i7:=k}}=ζ)(hg:y.ah=d.ah)(hv:zz5 d.bg {y with bL:={y.bL with i7:=k}}=η)(hr:RaR y)(hi:R64 i)(hce:R64 cell):
 Wp (ς (c,(⟨i,η,ζ,cell,fc,{y with bL:={y.bL with i7:=k}}⟩:bA))) (FP2 d i):=
 Wp.some ⟨hc,⟨rad_fr h _ _ _,hi,hce,R64.z,⟨R64.z,R64.z⟩,hr⟩,rfl,.inl ⟨rfl,rfl,hh,hg,hv⟩⟩
theorem zz167(d:aC)(x:ab):zz5 d.bg {zz375 d.bg d.ah d.aY x with bL:={(zz375 d.bg d.ah d.aY x).bL with i7:=acF (WR ((zz375 d.bg d.ah d.aY x).bL.i7+1)) 2147483647}}=false:=by
 have hin:∀k (m:bw),0<=mac k m/\mac k m<2147483647:=λk m=>zz390 _ _
 have key:∀a:Int,0<=a->a<2147483647->acF (WR (a+1)) 2147483647≠a:=by
  intro a h0 h1 h
  rw[bJ oaa,acK oaa] at h
  omega
 simp only[zz375,Xt,zz5]
 rw[adt];right
 rw[adt];right
 refine eqB_f.2 ?_
 simp only[mac]
 exact key _ (hin _ ⟨1,x.cX,vX (dk (zz169 d.bg d.aY) (2*x.cX+1)) x.bk,0⟩).1 (hin _ ⟨1,x.cX,vX (dk (zz169 d.bg d.aY) (2*x.cX+1)) x.bk,0⟩).2
theorem zz273(d:aC)(x:ab):zz272 d {zz375 d.bg d.ah d.aY x with bL:={(zz375 d.bg d.ah d.aY x).bL with i7:=acF (WR ((zz375 d.bg d.ah d.aY x).bL.i7+1)) 2147483647}}=true:=by
 rw[zz272,zz167 d x]
 simp[zz375,bv]
theorem wForge(h:NP B n)(hd:1<=n.ax.length){c:av}(hc:bP c):Wp (As c n) (λr=>bP r.2/\EP r.1/\zz499 n r.1=ζ/\RgF r.1.b7/\(r.1.b7.dB=ζ->r.1.b7.ey=η/\∃d,n.ax[r.1.b7.bj.toNat]?=ς d/\r.1.b7.ct.ah=d.ah/\zz5 d.bg r.1.b7.ct=η)):=by
 have hm6:=zz401 h.map
 have hls:=h.ls
 have hld:=h.ld
 unfold As
 refine Wp.call (zz464 hc oaa) λr1 h1=>?_
 obtain⟨i,hi⟩:∃i:Nat,r1.1=i:=⟨r1.1.toNat,by omega⟩
 obtain⟨d,s,a,e1,e2,e3,hm⟩:=h.at_ (i:=i) oaa
 simp only[hi,bm,e1,e2,acH]
 refine Wp.call (zz464 h1.1 oaa) λr3 h3=>Wp.call (p5 h3.1 oaa) λr4 h4=>Wp.call (zz464 h4 oaa) λr5 h5=>?_
 refine Wp.call (P:=FP2 d (i:Int)) ?_ ?_
 .refine Wp.cond (λ_=>?_) (λ_=>?_)
  .refine Wp.call (zz464 h5.1 oaa) λr30 h30=>?_
   have hs:=zz139 (x:=⟨WR (1+r30.1),[9]⟩) (by show 0<=WR (1+r30.1);rw[bJ oaa];omega) (by show WR (1+r30.1)<=1000000;rw[bJ oaa];omega) (λx hx=>by simp at hx;subst hx;simp[yx]) (by simp) d.bg d.ah d.aY
   have hr:=zz454 d.bg d.ah d.aY (x:=⟨WR (1+r30.1),[9]⟩) (by simp)
   have hh:=zz273 d ⟨WR (1+r30.1),[9]⟩
   have hv:=zz167 d ⟨WR (1+r30.1),[9]⟩
   have hg:(zz375 d.bg d.ah d.aY ⟨WR (1+r30.1),[9]⟩).ah=d.ah:=rfl
   have hq:RaR (zz375 d.bg d.ah d.aY ⟨WR (1+r30.1),[9]⟩):=⟨yB _,by have:=hm.dp.ep;simp only[zz375];omega⟩
   generalize zz375 d.bg d.ah d.aY ⟨WR (1+r30.1),[9]⟩=y at hs hr hh hv hg hq
   rw[hs]
   exact zz341 h30.1 hr hh hg hv hq oaa oaa
  refine Wp.call (P:=λx=>bP x.2.1/\SgC x.2.2) ?_ λx hx=>Wp.some ⟨hx.1,⟨⟨zz56,λx hx=>by simp[fg,kq] at hx⟩,by simp only[];omega,by simp only[];omega,hx.2.1,hx.2.2,R64.z,R64.z⟩,rfl,.inr rfl⟩
  exact Wp.cond (λ_=>Wp.call (w29 h5.1 hm.dp) λr h=>Wp.some h) (λ_=>Wp.call (w30 h5.1 hm.sg.sp) λr h=>Wp.some h)
 rintro⟨c2,f⟩ ⟨k1,k2,k3,k4⟩
 simp only at k1 k2 k3 k4
 have he:EP {ec with bu:=13,b7:=f}:=⟨λx hx=>by simp[ec] at hx,k2.1.1,k2.1.2⟩
 rw[zz352 h he]
 simp only[acH]
 refine Wp.call (P:=λk=>k=bif zz499 n {ec with bu:=13,b7:=f} then f.a8.bu else 7) ?_ ?_
 .cases zz499 n {ec with bu:=13,b7:=f}<;>exact Wp.some rfl
 rintro k rfl
 refine Wp.some ⟨k1,⟨λx hx=>by simp[ec] at hx,k2.1.1,k2.1.2⟩,?_,⟨k2.2.d,k2.2.c,k2.2.k,k2.2.s,k2.2.r⟩,λhr=>by
  simp_all⟩
 cases hh:zz499 n {ec with bu:=13,b7:=f}
 .simp only[cond_false,zz499]
  rw[zz365,zz365,zz365];right;right;right
  simp only[zz348,k3,acI,e1,e2]
  rcases k4 with⟨q1,q2,q3,_,_⟩|q1
  .simp_all
  rw[q1]
  have z:∀k:Int,k≠7->eqB 7 k=false:=λk hk=>eqB_f.2 (Ne.symm hk)
  cases f.ey<;>simp only[hUp,zz231,z _ (show(2:Int)≠7 by omega),z _ (show(3:Int)≠7 by omega),z _ (show(4:Int)≠7 by omega),z _ (show(5:Int)≠7 by omega),z _ (show(6:Int)≠7 by omega),z _ (show(8:Int)≠7 by omega),Bool.or_self,au]
 simp only[cond_true]
 omega
theorem zz116(n:ae)(f:bA):(fK n f).ax.length=n.ax.length:=by rw[(pw n f).1]
theorem zz191:∀(c i:Nat) (n:ae),(zz399 c i n).ax.length=n.ax.length
 |0,_,_=>rfl
 |c+1,i,n=>by
  rw[zz399]
  cases n.ax[i]? with
  |none=>rfl
  |some d=>simp only;rw[zz191,(zz385 _ _ _).1]
theorem zz206:∀(c i:Nat) (n:ae),(uf c i n).ax.length=n.ax.length
 |0,_,_=>rfl
 |c+1,i,n=>by
  rw[uf]
  cases n.aJ[i]? with
  |none=>rfl
  |some s=>cases n.bD[i]? with
   |none=>rfl
   |some a=>simp only;rw[zz206,(zz110 _ _ _).1]
theorem zz203(n:ae)(k:Nat):(zz363 n k).ax.length=n.ax.length:=by
 rw[zz363]
 cases n.aT[k]? with
 |none=>rfl
 |some f=>
  simp only
  cases zz87 (zz368 n k) f.bh
  .rfl
  simp only[au]
  cases f.ey
  .simp only[cond_false]
   cases hd:(zz368 n k).ax[f.bj.toNat]? with
   |none=>rfl
   |some d=>
    simp only
    cases eqB d.bh f.bh
    .rfl
    simp only[au];rw[(zz385 _ _ _).1];rfl
  simp only[cond_true]
  cases f.dB||!eqB f.a8.bh f.bh
  .simp only[cond_false]
   cases hs:(zz368 n k).aJ[f.bj.toNat]? with
   |none=>rfl
   |some s=>simp only[Bw];rw[(it _ _).1];rfl
  rfl
theorem zz315(n:ae)(e:dJ):(zz493 n e).2.ax.length=n.ax.length:=by
 rw[zz493]
 split
 .rw[zz449]
  cases leB 100000 n.lV
  .simp only[cond_false];rw[zz206,zz191]
  rfl
 split
 .rw[zz500]
  cases inR e.da 0 ((n.aT.length:Int)-1)
  .rfl
  simp only[au]
  cases eqB e.bu 2
  .simp only[cond_false]
   cases eqB e.bu 3
   .simp only[cond_false]
    cases leB 200 (n.aT.length:Int)
    .simp only[cond_false]
     cases n.aT[e.da.toNat]? with
     |none=>rfl
     |some f=>exact zz116 n f
    rfl
   rfl
  exact zz203 n _
 split
 .rw[zz182]
  cases inR e.da 0 ((n.ax.length:Int)-1)
  .rfl
  simp only[au]
  cases n.ax[e.da.toNat]? with
  |none=>rfl
  |some d=>cases n.aJ[e.da.toNat]? with
   |none=>rfl
   |some s=>
    simp only
    cases eqB e.bu 5
    .simp only[cond_false]
     cases eqB e.bu 6
     .grind
     simp only[cond_true]
     cases eqB e.bh d.bh||!eV n.d7 e.bh
     .exact(zz385 _ _ _).1
     rfl
    simp only[cond_true]
    cases eqB d.bz 0
    .rfl
    exact(zz385 _ _ _).1
 split
 .rw[zz111];grind
 split
 .rw[zz416]
  grind
 split
 .rw[Bt];cases zz55 n e.b7
  .rfl
  exact zz116 n _
 rfl
abbrev NQ(n:ae)(r:dJ×av):Prop:=bP r.2/\EP r.1/\zz499 n r.1=ζ/\FS n r.1
theorem wPl{c:av}(h:bP c){k i cell:Int}(hb:okB b)(hk:k≠13):Wp (ς ((⟨k,i,cell,b,fE⟩:dJ),c)) (NQ n):=
 Wp.some ⟨h,zz81 hb,zz503 n hk,FV n hk⟩
theorem zz494:okB []:=λx hx=>by simp at hx
theorem wNo{b:Bool}{y:α}{β:Type}{f:α->Option β}{Q:β->Prop}(h:∀z,Wp (f z) Q):Wp (acE (bif b then ς x else ς y) f) Q:=by
 grind
theorem wTail{c':av}(hc:bP c'):Wp (acE (bif ltB 0 (n.aT.length:Int) then(acE (gq c' 4) λr21=>ς (!r21.1,r21.2)) else(ς (η,c'))) λ((v16,v20):Bool×av)=>bif v16 then(acE (GM (n.aT.length:Int) 3) λr22=>acE (bC v20 r22) λr23=>acE (bC r23.2 12) λr24=>bif eqB r24.1 0 then(ς ({ec with bu:=3,da:=r23.1},r24.2)) else(bif eqB r24.1 1 then(ς ({ec with bu:=4,da:=r23.1},r24.2)) else(ς ({ec with bu:=2,da:=r23.1},r24.2)))) else(ς ({ec with bu:=1},v20))) (NQ n):=by
 refine Wp.call (P:=λx=>bP x.2/\(x.1=ζ->0<n.aT.length)) ?_ ?_
 .refine Wp.cond (λhb=>?_) (λ_=>Wp.some ⟨hc,λh=>by simp at h⟩)
  have hb:=zz369 hb
  exact Wp.call (p5 hc oaa) λr21 h21=>Wp.some ⟨h21,λ_=>by omega⟩
 rintro⟨v16,v20⟩ ⟨k1,k2⟩
 simp only at k1 k2
 refine Wp.cond (λhb=>?_) (λ_=>wPl k1 zz494 oaa)
 have:=k2 hb
 rw[zz178]
 simp only[acH]
 have hm:1<=lV (n.aT.length:Int) 3:=by unfold lV;split<;>omega
 refine Wp.call (zz464 k1 hm) λr23 h23=>Wp.call (zz464 h23.1 oaa) λr24 h24=>?_
 exact Wp.cond (λ_=>wPl h24.1 zz494 oaa) (λ_=>Wp.cond (λ_=>wPl h24.1 zz494 oaa) (λ_=>wPl h24.1 zz494 oaa))
theorem wNext(h:NP B n)(hd:1<=n.ax.length){c:av}(hc:bP c):Wp (CR c n) (NQ n):=by
 have hm6:=zz401 h.map
 have hl:=h.ld
 unfold CR
 rw[zz177]
 simp only[acH]
 have hmx:1<=zz98 1 (n.ax.length:Int):=by unfold zz98;split<;>omega
 have hw:WR ((n.d7.bp.length:Int)+1)=(n.d7.bp.length:Int)+1:=bJ oaa
 refine Wp.call (zz464 hc hmx) λr2 h2=>Wp.call (zz464 h2.1 oaa) λr3 h3=>?_
 refine Wp.cond (λ_=>wPl h3.1 zz494 oaa) (λ_=>wNo λ_=>?_)
 refine Wp.cond (λ_=>Wp.call (zz464 h3.1 oaa) λr5 h5=>wPl h5.1 zz494 oaa) (λ_=>?_)
 refine Wp.cond (λ_=>wPl h3.1 zz494 oaa) (λ_=>wNo λ_=>?_)
 refine Wp.cond (λ_=>Wp.call (zz464 h3.1 oaa) λr7 h7=>Wp.call (zz180 h7.1 h7.2.1 oaa) λr8 h8=>wPl h8.1 h8.2.1 oaa) (λ_=>?_)
 refine Wp.cond (λ_=>Wp.call (zz464 h3.1 oaa) λr9 h9=>wPl h9.1 zz494 oaa) (λ_=>wNo λ_=>?_)
 refine Wp.cond (λ_=>Wp.call (zz464 h3.1 oaa) λr9 h9=>wPl h9.1 zz494 oaa) (λ_=>?_)
 refine Wp.cond (λ_=>Wp.call (zz464 h3.1 oaa) λr9 h9=>wPl h9.1 zz494 oaa) (λ_=>?_)
 refine Wp.cond (λ_=>Wp.call (zz464 h3.1 oaa) λr9 h9=>wPl h9.1 zz494 oaa) (λ_=>wNo λ_=>?_)
 refine Wp.cond (λ_=>Wp.cond (λ_=>?_) (λ_=>wTail h3.1)) (λ_=>wTail h3.1)
 refine Wp.call (wForge h hd h3.1) λr15 h15=>Wp.some ⟨h15.1,⟨zz494,h15.2.1.f,h15.2.1.r⟩,?_,λ_=>h15.2.2.2⟩
 exact h15.2.2.1
theorem RN.apply{B:Nat}(h:RN B l n)(he:EP e)(hh:zz499 n e=ζ)(hf:FS n e):RN (B+1) l (zz493 n e).2:=by
 obtain⟨k,h1,h2,h3⟩:=h
 exact⟨k+1,h1.step he hh hf,by omega,by rw[zz315];exact h3⟩
theorem RN.mono{B B':Nat}(h:RN B l n)(hb:B<=B'):RN B' l n:=by
 obtain⟨k,h1,h2,h3⟩:=h;exact⟨k,h1,by omega,h3⟩
theorem w33Run{c:av}(h:bP c){most:Int}(hm:1<=most/\most<=150):Wp (EY c most) (λr=>bP r.2.2.2/\∃l,(1<=l/\l<=3)/\RN 40 l r.1/\RN (42+most.toNat) l r.2.2.1/\(r.2.1.length<=160/\∀e∈r.2.1,EP e)):=by
 unfold EY
 refine Wp.call (w32New h) λr1 h1=>?_
 obtain⟨h11,l,hl,hr⟩:=h1
 obtain⟨b,hn,hb⟩:=hr.np oaa
 rw[net_c hn.okN]
 simp only[acH]
 refine Wp.call (zz464 h11 hm.1) λr3 h3=>?_
 have hw:WR (3+r3.1)=3+r3.1:=bJ oaa
 refine Wp.call (P:=λx=>bP x.2.1/\RN (42+most.toNat) l x.2.2/\(x.1.length<=160/\∀e∈x.1,EP e)) ?_ λx hx=>Wp.some ⟨hx.1,l,hl,hr,hx.2.1,hx.2.2⟩
 refine Wp.iterF (λx=>(0<=x.1/\x.1<=2+most)/\bP x.2.2.1/\RN (40+(2+most-x.1).toNat) l x.2.2.2/\((x.2.1.length:Int)<=160-x.1/\∀e∈x.2.1,EP e)) (λx=>x.1.toNat) ⟨⟨by omega,by omega⟩,h3.1,hr.mono oaa,by grind,by simp⟩ oaa ?_
 rintro⟨v4,v8,v19,n⟩ ⟨⟨i0,i1⟩,i2,i3,i4,i5⟩
 simp only at i0 i1 i2 i3 i4 i5
 simp only[Hh]
 refine Wp.cond (λhb=>?_) (λhb=>Wp.some ⟨i2,i3.mono oaa,by grind,i5⟩)
 have hb:=zz369 hb
 obtain⟨b',hn',hb'⟩:=i3.np oaa
 have hdl:n.ax.length=l:=i3.choose_spec.2.2
 refine Wp.call (wNext hn' oaa i2) λr51 h51=>?_
 refine Wp.ok (ew (by simp;omega) (by simp;omega)) ?_
 have ha:=zz91 hn' h51.2.1 oaa
 rw[net_c hn'.okN]
 simp only[acH]
 rw[ha.1]
 simp only[acH]
 have hst:=i3.apply h51.2.1 h51.2.2.1 h51.2.2.2
 have hst:RN (40+(2+most-v4).toNat+1) l (zz493 n r51.1).2:=hst
 have hnn:RN (40+(2+most-v4).toNat+1) l n:=i3.mono oaa
 cases(zz493 n r51.1).1
 all_goals
  simp only[au]
  refine Wp.some ⟨⟨⟨?_,?_⟩,h51.1,?_,?_,?_⟩,?_⟩
  all_goals simp only[bJ (show-9223372036854775808<=v4-1/\v4-1<=9223372036854775807 by omega)]
 any_goals omega
 any_goals grind
def zz229(r:aU)(g:Int):Int:=(vec r.fA (zz93 r.ID g) g).fA
def zz99(l:List bI)(k:Nat):Int:=((l.take k).map λp=>(p.bk.length:Int)).sum
def DO(w:aV):Int:=w.bB-1-w.aF.length
structure SI(d:aC)(s:ag)(a:aj):Prop where
 cl:d.dO.c8<=s.bT.cX
 pq:s.bG<=s.bT.cX
 pg:0<s.bG->s.ah<s.bG
 pv:0<s.bG->s.aA=vec s.bT.fA (zz93 s.bT.ID s.bG) s.bG
 sg:s.ah<=s.bT.cX
 s1:s.bz=1->0<s.ah
 sk:0<s.ah->s.bg=zz229 s.bT s.ah
 dg:d.ah<=d.dO.c8
 dk:0<d.ah->d.bg=zz229 s.bT d.ah
 pr:d.bW.bi<+:s.aS
 pe:∀x∈d.bW.aA,s.aS[(x.cX-1).toNat]?=ς ⟨x.bk⟩/\x.cX<s.aK.bB
 nx:d.bW.bB<=s.aK.bB
 wn:∀x∈s.aK.aF,s.aS[(x.cX-1).toNat]?=ς ⟨x.bk⟩
 ak:DO s.aK<d.bW.bB
 ch:a.eR+s.bX.eH=zz99 s.aS (DO s.aK).toNat
def RadG(s:ag)(x:aD):Prop:=∃(k g e:Int) (b:List Int),0<g/\(1<=k/\k<s.aK.bB)/\s.aS[(k-1).toNat]?=ς ⟨b⟩/\x=zz375 (zz229 s.bT g) g e ⟨k,b⟩
def RadB(d:aC)(x:aD):Prop:=x.ah<d.ah\/(x.ah=d.ah/\zz5 d.bg x=η)
def AskG(s:ag)(m:aG):Prop:=∃q,(1<=q/\q<=s.bT.cX)/\m.ah=q/\m.b8=vec s.bT.fA (zz93 s.bT.ID q) q
def AskB(d:aC)(m:aG):Prop:=zz418 d.dO.fA d.dO.c8 m.b8=1\/zz418 d.dO.fA d.dO.c8 m.b8=2
def AckB(s:ag)(m:aG):Prop:=m.ah<s.ah\/(m.ah=s.ah/\zz414 s.bg m=η)
structure FI(d:aC)(s:ag)(f:bA):Prop where
 up:f.ey=ζ->f.dB=η->f.a8.bu=8->f.a8.bZ<=d.bW.bB\/AckB s f.a8
 rd:f.ey=η->f.dB=ζ->RadG s f.ct\/RadB d f.ct
 dn:f.ey=η->f.dB=η->f.a8.bu=2->AskG s f.a8\/AskB d f.a8
structure YR(d:aC)(s:ag)(d':aC)(s':ag):Prop where
 ck:d'.dO.fA=d.dO.fA
 cl:d.dO.c8<=d'.dO.c8
 dg:d.ah<d'.ah\/(d'.ah=d.ah/\d'.bg=d.bg)
 rn:d.bW.bB<=d'.bW.bB
 ri:s'.bT.ID=s.bT.ID
 rk:s'.bT.fA=s.bT.fA
 rs:s.bT.cX<=s'.bT.cX
 sg:s.ah<s'.ah\/(s'.ah=s.ah/\s'.bg=s.bg)
 su:s.aS<+:s'.aS
 wn:s.aK.bB<=s'.aK.bB
structure PI(n:ae):Prop where
 si:∀(i:Nat) d s a,n.ax[i]?=ς d->n.aJ[i]?=ς s->n.bD[i]?=ς a->SI d s a
 fi:∀f∈n.aT,∀d s,n.ax[f.bj.toNat]?=ς d->n.aJ[f.bj.toNat]?=ς s->FI d s f
structure DevS(d:aC)(s:ag)(a:aj)(r:a9):Prop where
 mo:YR d s r.bj s
 si:SI r.bj s a
 sg:∀m∈r.c9,m.bu=8->m.bZ<=r.bj.bW.bB
section
variable{d:aC}{s:ag}{a:aj}(h:SI d s a)
include h
end
structure SesS(d:aC)(s:ag)(a:aj)(r:bN):Prop where
 mo:YR d s d r.bb
 si:SI d r.bb a
 sg:∀m∈r.c9,m.bu=2->AskG r.bb m
section
variable{d:aC}{s:ag}{a:aj}(h:SI d s a)(g:SG s a)
include h
include g
end
structure TrS(d:aC)(s:ag)(a:aj)(s':ag)(a':aj)(r:List aD):Prop where
 rc:s'.bT=s.bT
 gn:s'.ah=s.ah
 rk:s'.bg=s.bg
 su:s'.aS=s.aS
 st:s'.bz=s.bz
 wn:s.aK.bB<=s'.aK.bB
 si:SI d s' a'
 rd:∀x∈r,RadG s' x
section
variable{B:Int}{n:ae}(h:NP B n){i:Nat}{d:aC}{s:ag}{a:aj}(hd:n.ax[i]?=ς d)(hs:n.aJ[i]?=ς s)(ha:n.bD[i]?=ς a)
include h hd hs ha
end
def kt(k:Int):Nat:=if k=1 then 4 else if k=2\/k=7 then 3 else if k=3\/k=5 then 2 else 1
def wfl(f:bA):Nat:=if f.dB then 2 else kt f.a8.bu
def oI(l:List bA):Nat:=(l.map wfl).sum
theorem wk_in(k:Int):1<=kt k/\kt k<=4:=by unfold kt;grind
theorem zz339(f:bA):1<=wfl f/\wfl f<=4:=by
 unfold wfl;split
 .omega
 exact wk_in _
theorem zz135(a b:List bA):oI (a++b)=oI a+oI b:=by simp[oI]
theorem SF(n:ae)(f:bA):oI (fK n f).aT<=oI n.aT+wfl f:=by
 rw[fK]
 cases leB 200 (n.aT.length:Int)
 .simp only[cond_false];rw[zz135];simp[oI]
 simp_all
theorem zz70:∀(l:List bA) (n:ae),oI (i7 n l).aT<=oI n.aT+oI l
 |[],n=>by simp[i7,oI]
 |f::l,n=>by
  have h1:=SF n f
  have h2:=zz70 l (fK n f)
  have e:oI (f::l)=wfl f+oI l:=by simp[oI]
  rw[show i7 n (f::l)=i7 (fK n f) l from rfl,e];omega
theorem cut_w{f:bA}(hf:n.aT[k]?=ς f):oI (zz368 n k).aT+wfl f=oI n.aT:=by
 obtain⟨hk,e⟩:=aat.1 hf
 have h:n.aT=n.aT.take k++f::n.aT.drop (k+1):=by
  rw[<-e,<-aby hk,List.take_append_drop]
 have h2:oI n.aT=oI (n.aT.take k)+(wfl f+oI (n.aT.drop (k+1))):=by
  conv=>lhs;rw[h]
  rw[zz135];simp[oI]
 simp only[zz368];rw[zz135,h2];omega
theorem zz320{l:List aG}{i:Int}{up:Bool}{b:Nat}(hl:l.length<=1)(h:∀m∈l,kt m.bu<=b):oI (l.map (zz358 i up))<=b:=by
 rcases l with _|⟨m,_|⟨x,l⟩⟩
 .exact Nat.zero_le _
 .have h1:=h m (by simp)
  have h2:oI (List.map (zz358 i up) [m])=kt m.bu:=by
   show wfl (zz358 i up m)+0=_
   rw[Nat.add_zero,wfl,if_neg (by simp[zz358])];rfl
  omega
 simp at hl
theorem UR{d:aC}:∀x∈(yr d).c9,kt x.bu<=2:=by simp[yr,yg,zz439,kt]
theorem dSig_w(d:aC)(m:aG):∀x∈(zz435 d m).c9,kt x.bu+1<=kt m.bu:=by
 rw[zz435]
 cases !zz391 m||(!eqB m.bh d.bh||eqB d.bz 0)
 .simp only[cond_false]
  cases h2:eqB m.bu 2&&eqB d.bz 1
  .simp only[cond_false]
   cases eqB m.bu 4&&(eqB d.bz 1&&(p6 d.bg&&(eqB m.ah d.ah&&zz414 d.bg m)))
   .simp only[cond_false]
    cases eqB m.bu 6&&(eqB d.bz 2&&(eqB m.ah d.ah&&(eqB m.aY d.aY&&zz414 d.bg m)))
    .simp only[cond_false]
     cases h7:eqB m.bu 7&&(eqB d.bz 3&&ltB d.aY 999999)
     .simp only[cond_false]
      cases h8:eqB m.bu 7&&eqB d.bz 2
      .simp
      rw[hV] at h8
      intro x hx
      have:=UR x hx
      have e:=zz424 h8.1
      rw[e,show kt 7=3 from by simp[kt]];omega
     rw[hV] at h7
     intro x hx
     have:=UR x hx
     have e:=zz424 h7.1
     rw[e,show kt 7=3 from by simp[kt]];omega
    simp
   simp
  rw[hV] at h2
  have e:=zz424 h2.1
  simp only[cond_true,JF]
  cases eqB (zz418 d.dO.fA d.dO.c8 m.b8) 0
  .simp
  simp[kt,e]
 simp
theorem dRad_w(d:aC)(x:aD):∀m∈(zz434 d x).c9,kt m.bu<=1:=by
 simp only[zz434]
 cases eqB d.bz 2&&(yl d.bg d.ah d.aY x).2
 .simp
 simp[Y3,zz439,kt]
theorem sUp_w(s:ag)(m:aG):∀x∈(sUp s m).c9,kt x.bu+1<=kt m.bu:=by
 rw[sUp]
 cases zz391 m
 .simp
 simp only[au]
 cases h1:eqB m.bu 1
 .cases h3:eqB m.bu 3
  .cases h5:eqB m.bu 5
   .cases h8:eqB m.bu 8
    .simp
    simp only[zz137,au]
    grind
   have e:=zz424 h5
   simp only[CF,au]
   cases !wj s m||(ltB m.aY s.aY||(eqB m.aY s.aY&&!eqB m.bh s.bh))
   .simp[Ao,zz439,kt,e]
   simp
  have e:=zz424 h3
  simp only[zo,au]
  cases leB s.bG 0||(!eqB m.ah s.bG||(!eqB m.bZ s.aA.vP||leB 999999 s.aY))
  .simp[Ao,zz439,kt,e]
  simp
 have e:=zz424 h1
 simp only[cond_true,zz83]
 cases eqB s.bT.cX 999999
 .simp[kt,e]
 simp
theorem zz264(hk:k<n.aT.length):oI (zz363 n k).aT+1<=oI n.aT:=by
 obtain⟨f,hf⟩:∃f,n.aT[k]?=ς f:=⟨_,zz386 hk⟩
 have hc:=cut_w hf
 have hw:=zz339 f
 rw[zz363,hf]
 simp only
 cases zz87 (zz368 n k) f.bh
 .simp only[zz97,au];omega
 simp only[au]
 cases hu:f.ey
 .simp only[cond_false]
  cases hd:(zz368 n k).ax[f.bj.toNat]? with
  |none=>grind
  |some d=>
   simp only
   cases eqB d.bh f.bh
   .simp only[zz97,au];omega
   simp only[au]
   cases hr:f.dB
   .have hwf:wfl f=kt f.a8.bu:=by simp[wfl,hr]
    simp only[cond_false,fP]
    have h1:=zz70 ((zz435 d f.a8).c9.map (zz358 (f.bj.toNat:Nat) ζ)) {zz368 n k with ax:=(zz368 n k).ax.set f.bj.toNat (zz435 d f.a8).bj}
    have h2:=zz320 (i:=(f.bj.toNat:Int)) (up:=ζ) (Ez d f.a8).len (b:=kt f.a8.bu-1) (λm hm=>by have:=dSig_w d f.a8 m hm;omega)
    grind
   have hwf:wfl f=2:=by simp[wfl,hr]
   simp only[cond_true,fP]
   have h1:=zz70 ((zz434 d f.ct).c9.map (zz358 (f.bj.toNat:Nat) ζ)) {zz368 n k with ax:=(zz368 n k).ax.set f.bj.toNat (zz434 d f.ct).bj}
   have h2:=zz320 (i:=(f.bj.toNat:Int)) (up:=ζ) (zz67 d f.ct).len (b:=1) (dRad_w d f.ct)
   grind
 simp only[cond_true]
 cases hr:f.dB||!eqB f.a8.bh f.bh
 .simp only[cond_false]
  simp only[aaQ] at hr
  have hwf:wfl f=kt f.a8.bu:=by simp[wfl,hr.1]
  cases hs:(zz368 n k).aJ[f.bj.toNat]? with
  |none=>grind
  |some s=>
   simp only[Bw]
   have h1:=zz70 ((sUp s f.a8).c9.map (zz358 (f.bj.toNat:Nat) η)) {zz368 n k with aJ:=(zz368 n k).aJ.set f.bj.toNat (sUp s f.a8).bb}
   have h2:=zz320 (i:=(f.bj.toNat:Int)) (up:=η) (KM s f.a8).len (b:=kt f.a8.bu-1) (λm hm=>by have:=sUp_w s f.a8 m hm;omega)
   grind
 grind
theorem zz383(l:List bA):oI l<=4*l.length:=by
 induction l with
 |nil=>simp[oI]
 |cons f l ih=>have:=(zz339 f).2;simp only[oI,zz366,adu,List.length_cons] at ih ⊢;omega
structure Paid(d:aC)(s:ag)(a:aj):Prop where
 le:d.bW.bi.length<=s.aS.length
 eq:s.aS.take d.bW.bi.length=d.bW.bi
 ch:a.eR+s.bX.eH<=zz99 s.aS d.bW.bi.length
 to:a.eR+s.bX.eH<=a.gm
structure Good(n:ae):Prop where
 np:∃B:Int,NP B n/\B<=100000000
 pi:PI n
 dl:1<=n.ax.length/\n.ax.length<=3
 re:∃k,Reach k n/\k<=200
 ru:∃k,zz73 k n/\k<=200
def zz502:Nat->ae->ae
 |0,n=>n
 |c+1,n=>bif eqB (n.aT.length:Int) 0 then n else zz502 c (zz363 n 0)
theorem zz340{l:List bA}(h:l≠[]):1<=oI l:=by
 cases l with
 |nil=>simp_all
 |cons f l=>have:=(zz339 f).1;simp only[oI,zz366,adu];omega
theorem zz100:∀(c:Nat) (n:ae),oI n.aT<=c->(zz502 c n).aT=[]
 |0,n,h=>by
  by_cases e:n.aT=[]
  .exact e
  have:=zz340 e;omega
 |c+1,n,h=>by
  rw[zz502]
  cases hb:eqB (n.aT.length:Int) 0
  .have hb:=zz186 hb
   have:=zz264 (n:=n) (k:=0) oaa
   exact zz100 c _ oaa
  simp_all
theorem zz232:∀(c:Nat) {B:Int} {n:ae},NP B n->B+c<4611686018427387904->NP (B+c) (zz502 c n)
 |0,B,n,h,_=>by simpa [zz502] using h
 |c+1,B,n,h,hB=>by
  rw[zz502]
  cases eqB (n.aT.length:Int) 0
  .have:=zz232 c (zz24 h 0 oaa) oaa
   grind
  exact h.mono oaa
theorem Mw(h:NP B n){c:Nat}(hc:800<=c):(zz502 c n).aT=[]:=
 zz100 c n (by have:=zz383 n.aT;have:=h.fl;omega)
theorem zz138:∀(c k fu:Nat) (m:Nat) {B:Int} {n:ae},NP B n->B+c<4611686018427387904->k+c=m->m<=4000->c<fu->iter (jX (m:Int)) fu ((k:Int),n)=ς (zz502 c n)
 |0,k,fu,m,B,n,h,hB,h1,h2,h3=>by
  cases fu with
  |zero=>omega
  |succ fu=>rw[iter];simp only[jX,ltB_f.2 (show(m:Int)<=(k:Int) by omega),zz502,au]
 |c+1,k,fu,m,B,n,h,hB,h1,h2,h3=>by
  cases fu with
  |zero=>omega
  |succ fu=>
   rw[iter,zz502]
   simp only[jX,ltB_t.2 (show(k:Int)<(m:Int) by omega),au]
   by_cases e:n.aT.length=0
   .simp_all
   rw[ltB_t.2 (show(0:Int)<(n.aT.length:Int) by omega),eqB_f.2 (show(n.aT.length:Int)≠0 by omega)]
   have hd:=Iq h (k:=0) oaa
   simp only[au]
   rw[show(0:Int)=((0:Nat):Int) from rfl,hd]
   simp only[acH,WRs (k:=k)]
   exact zz138 c (k+1) fu m (zz24 h 0 oaa) oaa oaa h2 oaa
theorem ZR(h:NP B n)(hB:B+4000<4611686018427387904):qE n 4000=ς (zz502 4000 n):=by
 have:=zz138 4000 0 FU 4000 h oaa oaa oaa (by have:=ie;omega)
 rw[qE,show iter (jX 4000) FU (0,n)=_ from this];rfl
def zz501(n:ae):ae:=zz502 4000 (zz449 n).2
def i6:Nat->ae->ae
 |0,n=>n
 |c+1,n=>i6 c (zz501 n)
theorem Ds(h:NP B n)(hB:B+14000<4611686018427387904):NP (B+14000) (zz501 n):=
 (zz232 4000 (zz3 h oaa).2.2 oaa).mono oaa
theorem zz105:∀(c k fu:Nat) (m:Nat) {B:Int} {n:ae},NP B n->B+14000*c<4611686018427387904->k+c=m->m<=200->c<fu->iter (xf (m:Int)) fu ((k:Int),n)=ς (i6 c n)
 |0,k,fu,m,B,n,h,hB,h1,h2,h3=>by
  cases fu with
  |zero=>omega
  |succ fu=>rw[iter];simp only[xf,ltB_f.2 (show(m:Int)<=(k:Int) by omega),cond_false,i6]
 |c+1,k,fu,m,B,n,h,hB,h1,h2,h3=>by
  cases fu with
  |zero=>omega
  |succ fu=>
   have ht:=zz3 h oaa
   rw[iter,i6]
   simp only[xf,ltB_t.2 (show(k:Int)<(m:Int) by omega),ht.2.1,ZR ht.2.2 oaa,WRs (k:=k),au]
   exact zz105 c (k+1) fu m (Ds h oaa) oaa oaa h2 oaa
theorem zz504(h:NP B n){m:Nat}(hm:m<=200)(hB:B+14000*m<4611686018427387904):jj n (m:Int)=ς (i6 m n):=by
 have:=zz105 m 0 FU m h hB oaa hm (by have:=ie;omega)
 simp only[jj,Oi h.okN,Ai h.okN,h.vn,zz360,bU.2 (show(0:Int)<=(m:Int)/\(m:Int)<=200 by omega),au]
 simp_all
def rootAt(r:aU)(g:Int):Int:=if g=0 then 0 else zz229 r g
def RadS(s:ag)(x:aD):Prop:=RadG s x\/zz5 (rootAt s.bT x.ah) x=η
structure PR(n:ae):Prop where
 dz:∀d∈n.ax,d.ah=0->d.bg=0
 sz:∀s∈n.aJ,s.ah=0->s.bg=0
 rd:∀f∈n.aT,f.dB=ζ->f.ey=η/\∀s,n.aJ[f.bj.toNat]?=ς s->RadS s f.ct
section
variable{B:Int}{n:ae}(hn:NP B n)(h:PR n){i:Nat}{d:aC}{s:ag}{a:aj}(hd:n.ax[i]?=ς d)(hs:n.aJ[i]?=ς s)(ha:n.bD[i]?=ς a)
include hn h hd hs ha
end
section
variable{B:Int}{n:ae}(hn:NP B n)(p:PI n)(h:PR n){i:Nat}{s:ag}(hs:n.aJ[i]?=ς s)
include hn p h hs
end
theorem zz495{ρ:Type}{L:Int->Option (ci Int ρ)}(xs:List α)(f:ρ){c:Option ρ}(hl:xs.length<=9223372036854775806)(hs:∀(k:Nat) (x:α),xs[k]?=ς x->k<xs.length->L (k:Int)=ς (.next ((k+1:Nat):Int)))(he:L (xs.length:Int)=dn c):iter L FU 0=c:=by
 have:=zz377 (L:=L) xs (λ_ _=>ζ) f c hl (λk x hx hk=>by rw[hs k x hx hk];rfl) he
 rw[this,zz65];rfl
theorem zz505{xs:List Int}(hl:xs.length<=1048576):nW xs xs=ς true:=by
 simp only[nW,bv,au]
 exact zz495 xs η oaa (λk x hx hk=>by
  simp only[vG,ct hk,bm,hx,bv,WRs (k:=k),au]) (by simp only[vG,zz337,cond_false])
theorem zz40{xs:List bI}(hl:xs.length<=1048576)(hd:∀p∈xs,p.bk.length<=1048576):lB xs xs=ς true:=by
 simp only[lB,bv,au]
 exact zz495 xs η oaa (λk x hx hk=>by
  simp only[qh,ct hk,bm,hx,zz505 (hd x (zz370 hx)),WRs (k:=k),au]) (by simp only[qh,zz337,cond_false])
structure LI(K:Int)(d:aC)(s:ag):Prop where
 de:d.aY<=K
 se:s.aY<=K
 sd:s.ah<=d.ah
 cn:2<=d.bz->s.bz=1/\s.ah=d.ah/\0<d.ah/\s.aY<=d.aY
 cc:d.bz=2->s.aY=d.aY->s.bh=d.bh
 pc:d.bz=2->d.cj=ζ->s.aY=d.aY
def PathG(K:Int)(d:aC)(m:aG):Prop:=m.aY<=K/\(m.ah<d.ah\/(m.ah=d.ah/\2<=d.bz/\m.aY<=d.aY/\(d.bz=2->m.aY=d.aY->m.bh=d.bh)))
def AccB(d:aC)(m:aG):Prop:=m.ah<d.ah\/(m.ah=d.ah/\zz414 d.bg m=η)
def AccG(K:Int)(d:aC)(s:ag)(m:aG):Prop:=
 m.aY<=K/\0<m.ah/\(m.ah<s.ah\/(m.ah=s.ah/\s.bz=1/\(d.bz<=1->d.ah=s.ah->s.aY=m.aY/\s.bh=m.bh)))
def PakG(s:ag)(m:aG):Prop:=m.ah<s.ah\/(m.ah=s.ah/\m.aY<=s.aY)
def RespB(s:ag)(m:aG):Prop:=m.ah<=s.bT.cX/\(0<s.bG->m.ah≠s.bG\/m.bZ≠s.aA.vP)
structure LF(K:Int)(d:aC)(s:ag)(f:bA):Prop where
 pa:f.ey=ζ->f.dB=η->f.a8.bu=5->AckB s f.a8\/PathG K d f.a8
 re:f.ey=ζ->f.dB=η->f.a8.bu=3->RespB s f.a8\/f.a8.ah<=d.ah
 ac:f.ey=η->f.dB=η->f.a8.bu=4->AccB d f.a8\/AccG K d s f.a8
 ka:f.ey=η->f.dB=η->f.a8.bu=6->AccB d f.a8\/PakG s f.a8
structure DevK(d d':aC)(s:ag):Prop where
 mo:YR d s d' s
 pa:d.ah<d'.ah\/(2<=d.bz->2<=d'.bz/\d.aY<=d'.aY/\(d'.bz=2->d'.aY=d.aY->d.bz=2/\d'.bh=d.bh))
 ac:d'.bz<=1->d'.ah=s.ah->d.bz<=1/\d.ah=s.ah
structure SesK(d:aC)(s s':ag):Prop where
 mo:YR d s d s'
 ac:s.ah<s'.ah\/(s'.ah=s.ah/\(s.bz=1->s'.bz=1)/\s.aY<=s'.aY/\(d.bz<=1->d.ah=s.ah->s'.aY=s.aY/\s'.bh=s.bh))
 rb:0<s'.bG->s.bT.cX<s'.bG\/(s'.bG=s.bG/\s'.aA=s.aA)
structure DevL(K:Int)(d:aC)(s:ag)(r:a9):Prop where
 li:LI (K+1) r.bj s
 k:DevK d r.bj s
 sg:∀m∈r.c9,(m.bu=5->PathG (K+1) r.bj m)/\(m.bu=3->m.ah<=r.bj.ah)
section
variable{K:Int}{d:aC}{s:ag}{a:aj}
variable(h:LI K d s)(si:SI d s a)
include h si
end
structure SesL(K:Int)(d:aC)(s:ag)(r:bN):Prop where
 li:LI (K+1) d r.bb
 k:SesK d s r.bb
 sg:∀m∈r.c9,(m.bu=4->AccG (K+1) d r.bb m)/\(m.bu=6->PakG r.bb m)
section
variable{K:Int}{d:aC}{s:ag}{a:aj}(h:LI K d s)(si:SI d s a)(g:SG s a)
include h si
include g
end
structure LN(K:Int)(n:ae):Prop where
 li:∀(i:Nat) d s,n.ax[i]?=ς d->n.aJ[i]?=ς s->LI K d s
 lf:∀f∈n.aT,∀d s,n.ax[f.bj.toNat]?=ς d->n.aJ[f.bj.toNat]?=ς s->LF K d s f
section
variable{K:Int}{n:ae}(h:LN K n){i:Nat}{d:aC}{s:ag}(hd:n.ax[i]?=ς d)(hs:n.aJ[i]?=ς s)
include h hd hs
end
def attF(i:Nat)(f:bA):Bool:=f.ey&&(!f.dB&&(eqB f.a8.bu 1&&decide (f.bj.toNat=i)))
def natt(l:List bA)(i:Nat):Int:=(l.countP (attF i):Nat)
def GB(G:Int)(n:ae):Prop:=∀(i:Nat) s,n.aJ[i]?=ς s->s.bT.cX+natt n.aT i<=G
def outD(i:Nat)(d:aC):List bA:=(zz397 d).c9.map (zz358 i ζ)
def outS(i:Nat)(t:bR):List bA:=t.lW.map (zz358 i η)++t.ct.map (zz421 i t.bb.bh)
def zz226(i:Nat)(n:ae):List bA:=n.aT.filter λf=>decide (f.bj.toNat=i)
structure TickAt(i:Nat)(n:ae)(d0:aC)(s0:ag)(a0:aj)(n':ae):Prop where
 d:n'.ax[i]?=ς (zz397 d0).bj
 s:n'.aJ[i]?=ς (kn s0 a0 n.d7).bb
 a:n'.bD[i]?=ς (kn s0 a0 n.d7).eN
 f:zz226 i n'=outD i d0++outS i (kn s0 a0 n.d7)
 m:n'.d7=n.d7
 w:n'.cF=n.cF
def zz336(u:Int->Bool)(i:Nat)(f:bA)(d:aC)(s:ag):aC×ag×List bA:=
 bif !u f.bh then(d,s,[]) else
 bif f.ey then(bif f.dB||!eqB f.a8.bh f.bh then(d,s,[]) else(d,(sUp s f.a8).bb,(sUp s f.a8).c9.map (zz358 i η)))
 else bif !eqB d.bh f.bh then(d,s,[]) else
  ((bif f.dB then zz434 d f.ct else zz435 d f.a8).bj,s,(bif f.dB then zz434 d f.ct else zz435 d f.a8).c9.map (zz358 i ζ))
def upF(m:aZ)(w:Int)(c:Int):Bool:=eV m c&&eqB (AC .i64 (Eb .i64 w c) 1) 0
structure DelAt(i:Nat)(n:ae)(d:aC)(s:ag)(f:bA)(n':ae):Prop where
 own:f.bj.toNat=i->n'.ax[i]?=ς (zz336 (upF n.d7 n.cF) i f d s).1/\n'.aJ[i]?=ς (zz336 (upF n.d7 n.cF) i f d s).2.1/\zz226 i n'=(zz226 i n).tail++(zz336 (upF n.d7 n.cF) i f d s).2.2/\zz226 i n=f::(zz226 i n).tail
 oth:f.bj.toNat≠i->n'.ax[i]?=ς d/\n'.aJ[i]?=ς s/\zz226 i n'=zz226 i n
 a:n'.bD=n.bD
 m:n'.d7=n.d7
 w:n'.cF=n.cF
 t:n'.lV=n.lV
structure EnvS(K G:Int)(nc i:Nat)(d:aC)(s:ag)(a:aj)(F:List bA):Prop where
 mp:MP nc i d s a
 si:SI d s a
 li:LI K d s
 sq:s.bT.cX<=G
 fi:∀f∈F,FI d s f
 lf:∀f∈F,LF K d s f
def OwnR(i:Int)(l:List aH):Prop:=∀x∈l,x.aO=i
def totS(s:ag)(a:aj):Int:=a.eR+a.bK+s.bX.cP
def RA(n:ae):Prop:=∀(i:Nat) a,n.bD[i]?=ς a->OwnR i a.an
structure EQ(r:Nat)(n:ae):Prop where
 np:∃B:Int,NP B n/\B+14000*r<=1000000000000
 pi:PI n
 ln:∃K:Int,LN K n/\K+4100*r<=900000
 gb:∃G:Int,GB G n/\G+r<=900
 ra:RA n
 nw:n.lV+r<=100000
theorem zz21(n:ae)(k:Nat):(zz363 n k).d7=n.d7/\(zz363 n k).cF=n.cF/\(zz363 n k).lV=n.lV/\(zz363 n k).ax.length=n.ax.length:=by
 rw[zz363]
 cases n.aT[k]? with
 |none=>simp_all
 |some f=>
  simp only
  cases zz87 (zz368 n k) f.bh
  .exact⟨rfl,rfl,rfl,rfl⟩
  simp only[au]
  cases f.ey
  .simp only[cond_false]
   cases(zz368 n k).ax[f.bj.toNat]? with
   |none=>exact⟨rfl,rfl,rfl,rfl⟩
   |some d=>
    simp only
    cases eqB d.bh f.bh
    .exact⟨rfl,rfl,rfl,rfl⟩
    simp only[au]
    have hk:=it ((bif f.dB then zz434 d f.ct else zz435 d f.a8).c9.map (zz358 (f.bj.toNat:Int) ζ)) {zz368 n k with ax:=(zz368 n k).ax.set f.bj.toNat (bif f.dB then zz434 d f.ct else zz435 d f.a8).bj}
    exact⟨hk.2.2.2.1,hk.2.2.2.2.1,hk.2.2.2.2.2.2,by rw[fP,hk.1];simp[zz368]⟩
  simp only[cond_true]
  cases f.dB||!eqB f.a8.bh f.bh
  .simp only[cond_false]
   cases(zz368 n k).aJ[f.bj.toNat]? with
   |none=>exact⟨rfl,rfl,rfl,rfl⟩
   |some s=>
    have hk:=it ((sUp s f.a8).c9.map (zz358 (f.bj.toNat:Int) η)) {zz368 n k with aJ:=(zz368 n k).aJ.set f.bj.toNat (sUp s f.a8).bb}
    exact⟨hk.2.2.2.1,hk.2.2.2.2.1,hk.2.2.2.2.2.2,by simp only[Bw];rw[hk.1];rfl⟩
  exact⟨rfl,rfl,rfl,rfl⟩
theorem zz161:∀(c:Nat) (n:ae),(zz502 c n).d7=n.d7/\(zz502 c n).cF=n.cF/\(zz502 c n).lV=n.lV/\(zz502 c n).ax.length=n.ax.length
 |0,n=>⟨rfl,rfl,rfl,rfl⟩
 |c+1,n=>by
  rw[zz502]
  cases eqB (n.aT.length:Int) 0
  .have h1:=zz161 c (zz363 n 0)
   have h2:=zz21 n 0
   simp_all
  simp_all
theorem zz133:∀(c i:Nat) (n:ae),(uf c i n).d7=n.d7/\(uf c i n).cF=n.cF/\(uf c i n).lV=n.lV/\(uf c i n).ax.length=n.ax.length
 |0,_,n=>⟨rfl,rfl,rfl,rfl⟩
 |c+1,i,n=>by
  rw[uf]
  cases n.aJ[i]? with
  |none=>simp_all
  |some s=>cases n.bD[i]? with
   |none=>simp_all
   |some a=>
    have k1:=it ((kn s a n.d7).lW.map (zz358 i η)) {n with aJ:=n.aJ.set i (kn s a n.d7).bb,bD:=n.bD.set i (kn s a n.d7).eN}
    have k2:=it ((kn s a n.d7).ct.map (zz421 i (kn s a n.d7).bb.bh)) (i7 {n with aJ:=n.aJ.set i (kn s a n.d7).bb,bD:=n.bD.set i (kn s a n.d7).eN} ((kn s a n.d7).lW.map (zz358 i η)))
    have ih:=zz133 c (i+1) (zz451 n i (kn s a n.d7))
    simp only[zz451] at ih ⊢
    simp_all
theorem zz128:∀(c i:Nat) (n:ae),(zz399 c i n).d7=n.d7/\(zz399 c i n).cF=n.cF/\(zz399 c i n).lV=n.lV/\(zz399 c i n).ax.length=n.ax.length
 |0,_,n=>⟨rfl,rfl,rfl,rfl⟩
 |c+1,i,n=>by
  rw[zz399]
  cases n.ax[i]? with
  |none=>simp_all
  |some d=>
   have hk:=it ((zz397 d).c9.map (zz358 i ζ)) {n with ax:=n.ax.set i (zz397 d).bj}
   have ih:=zz128 c (i+1) (fP n i (zz397 d))
   simp only[fP] at ih ⊢
   simp_all
theorem zz136(hw:n.lV<100000):(zz449 n).2.d7=n.d7/\(zz449 n).2.cF=n.cF/\(zz449 n).2.lV=n.lV+1/\(zz449 n).2.ax.length=n.ax.length:=by
 rw[zz449,leB_f.2 hw]
 simp only[cond_false]
 have h1:=zz128 n.ax.length 0 {n with lV:=n.lV+1}
 have h2:=zz133 (zz399 n.ax.length 0 {n with lV:=n.lV+1}).aJ.length 0 (zz399 n.ax.length 0 {n with lV:=n.lV+1})
 simp_all
theorem zz224(hw:n.lV<100000):(zz501 n).d7=n.d7/\(zz501 n).cF=n.cF/\(zz501 n).lV=n.lV+1/\(zz501 n).ax.length=n.ax.length:=by
 have h1:=zz136 hw
 have h2:=zz161 4000 (zz449 n).2
 exact⟨h2.1.trans h1.1,h2.2.1.trans h1.2.1,h2.2.2.1.trans h1.2.2.1,h2.2.2.2.trans h1.2.2.2⟩
structure KP(d0:aC)(s0:ag)(d:aC)(s:ag):Prop where
 c:d.bh=d0.bh
 u:s.aS=s0.aS
 g:s.bX.cP=s0.bX.cP
 i:s.bX.aO=s0.bX.aO
structure Kept(n:ae)(i:Nat)(d:aC)(s:ag)(a:aj)(d':aC)(s':ag)(a':aj):Prop where
 c:d'.bh=d.bh
 u:s'.aS=s.aS
 t:totS s' a'=totS s a
def noise(f:bA):Prop:=f.ey=η/\(f.dB=ζ\/f.a8.bu=7)
structure Match(d:aC)(s:ag):Prop where
 st:d.bz=2
 ep:s.aY=d.aY
def okM(f:bA):Prop:=(f.ey=ζ/\f.dB=η/\(f.a8.bu=5\/f.a8.bu=8))\/(f.ey=η/\(f.dB=ζ\/f.a8.bu=6\/f.a8.bu=7))
structure Conn(d d':aC):Prop where
 st:d'.bz=2
 ep:d'.aY=d.aY
 ce:d'.bh=d.bh
 gn:d'.ah=d.ah
 rk:d'.bg=d.bg
structure Link(d0:aC)(i:Nat)(w:Int)(d:aC)(s:ag)(F:List bA):Prop where
 cn:Conn d0 d
 ok:∀f∈F,okM f
 st:Match d s\/zz358 i ζ (yg d)∈F\/d.eU<=w
structure Idle(d1:aC)(s1:ag)(i:Nat)(b:Prop)(d:aC)(s:ag)(F:List bA):Prop where
 st:(d=d1/\s=s1/\(∀f∈F,noise f/\(f.dB=η->f=zz358 i η (zz42 f.bh)/\0<=f.bh/\f.bh<=5))/\(b->zz358 i η (zz42 d1.bh)∈F))\/(d.bh=d1.bh/\Link d i (-1) d s F)
structure Aff(s:ag)(a:aj):Prop where
 ch:a.eR+s.bX.eH=zz99 s.aS (DO s.aK).toNat
 co:zz99 s.aS s.aS.length<=totS s a
 ow:OwnR s.bX.aO a.an
 wn:∀x∈s.aK.aF,s.aS[(x.cX-1).toNat]?=ς ⟨x.bk⟩
def zz342(r:aM)(k:Int):Prop:=k<r.bB\/∃y∈r.aA,y.cX=k
def radS(i:Nat)(d:aC)(x:ab):bA:=zz421 i d.bh (zz375 d.bg d.ah d.aY x)
structure MR(i:Nat)(d1:aC)(s1:ag)(S:List ab)(pg:Prop)(d:aC)(s:ag)(F:List bA):Prop where
 cn:Conn d1 d
 ok:∀f∈F,okM f
 rd:∀f∈F,f.dB=ζ->∃x∈S,f=radS i d1 x
 ep:s.aY=d.aY
 nx:s.aK.bB=s1.aK.bB
 got:∀x∈S,zz342 d.bW x.cX\/radS i d1 x∈F
 mo:∀k,k<=24->zz342 d1.bW k->zz342 d.bW k
 ack:((∀x∈S,radS i d1 x∈F)/\∀f∈F,f.ey=ζ->f.a8.bu=5)\/DO s.aK=d.bW.bB-1\/zz358 i ζ (Y3 d d.bW)∈F
 am:DO s1.aK<=DO s.aK
 tm:(s.dQ=s1.dQ/\s.dL=s1.dL/\s.f6=s1.f6)\/(s.dQ=0/\s.dL=0)\/(S≠[]/\s.dQ=0/\s.dL=s1.dL/\s.f6=s1.f6)
 na:S=[]->∀f∈F,f.ey=ζ->f.a8.bu=5
 pd:pg->zz358 i η (zz42 d1.bh)∈F\/zz358 i ζ (yg d1)∈F\/(s.dQ=0/\s.dL=0)
structure Served(d:aC)(s:ag):Prop where
 d:d.bW.bi.length=s.aS.length
 a:DO s.aK=s.aS.length
structure At(R:Nat)(n:ae)(i:Nat)(d0:aC)(s0:ag)(a0:aj):Prop where
 q:EQ R n
 f:n.aT=[]
 d:n.ax[i]?=ς d0
 s:n.aJ[i]?=ς s0
 a:n.bD[i]?=ς a0
 u:upF n.d7 n.cF d0.bh=ζ
 c:zz99 s0.aS s0.aS.length<=totS s0 a0
section
variable{R i:Nat}{n:ae}{d:aC}{s:ag}{a:aj}
end
def Lost(m:Int)(d:aC)(s:ag):Prop:=∃N0,(∀k,N0<=k->k<s.aK.bB->zz342 d.bW k)/\N0-1<=DO s.aK+m
theorem zz119(n:ae)(i:Nat)(r:a9):(fP n i r).lV=n.lV:=(zz385 n i r).2.2.2.2
theorem zz288(e:dJ)(h:n.lV<=99999):(zz493 n e).2.lV<=n.lV+1:=by
 rw[zz493]
 split
 .rw[(zz136 (n:=n) oaa).2.2.1];omega
 split
 .rw[zz500]
  cases inR e.da 0 ((n.aT.length:Int)-1)
  .grind
  simp only[au]
  cases eqB e.bu 2
  .simp only[cond_false]
   cases eqB e.bu 3
   .simp only[cond_false]
    cases leB 200 (n.aT.length:Int)
    .simp only[cond_false]
     cases n.aT[e.da.toNat]? with
     |none=>grind
     |some f=>simp only;rw[(pw n f).2.2.2.2.2.2];omega
    grind
   simp only[cond_true,zz97,zz368];omega
  simp only[cond_true];rw[(zz21 n _).2.2.1];omega
 split
 .rw[zz182]
  cases inR e.da 0 ((n.ax.length:Int)-1)
  .grind
  simp only[au]
  cases n.ax[e.da.toNat]? with
  |none=>grind
  |some d=>cases n.aJ[e.da.toNat]? with
   |none=>grind
   |some s=>
    simp only
    cases eqB e.bu 5
    .simp only[cond_false]
     cases eqB e.bu 6
     .grind
     simp only[cond_true]
     cases eqB e.bh d.bh||!eV n.d7 e.bh
     .simp only[cond_false];rw[zz119];omega
     grind
    simp only[cond_true]
    cases eqB d.bz 0
    .grind
    simp only[au];rw[zz119];omega
 split
 .rw[zz111];grind
 split
 .rw[zz416];grind
 split
 .rw[Bt];cases zz55 n e.b7
  .grind
  simp only[au];rw[(pw n _).2.2.2.2.2.2];omega
 grind
theorem Reach.now:∀{k:Nat} {n:ae},Reach k n->k<=90000->n.lV<=k
 |_,_,.new h hm hp hl hq,_=>by simp[zz491]
 |_,_,.step (k:=k) (e:=e) h he hh,hk=>by
  have h1:=h.now oaa
  have:=zz288 e (Int.le_trans h1 (show(_:Int)<=(99999:Int) by omega))
  omega
theorem CI{xs:List Int}(h:okL (λ_=>True) xs):nW xs xs=ς true:=zz505 h.1
theorem zz4{xs:List Int}(h:okL (λ_=>True) xs):we xs xs=ς true:=by
 have hl:=h.1
 simp only[we,bv,au]
 exact zz495 xs η oaa (λk x hx hk=>by
  simp only[xm,ct hk,bm,hx,bv,WRs (k:=k),au]) (by simp only[xm,zz337,cond_false])
theorem MJ{xs:List bI}(h:okL zz408 xs):lB xs xs=ς true:=zz40 h.1 λp hp=>(h.2 p hp).1
theorem zz498{xs:List ab}(h:okL eQ xs):pj xs xs=ς true:=by
 have hl:=h.1
 simp only[pj,bv,au]
 exact zz495 xs η oaa (λk x hx hk=>by
  simp only[rP,ct hk,bm,hx,bv,CI (h.2 x (zz370 hx)),WRs (k:=k),au]) (by simp only[rP,zz337,cond_false])
theorem zz77{x:aV}(h:zz353 x):uL x x=ς true:=by
 simp only[uL,bv,zz498 h,au]
theorem zz144{x:bO}(h:eA x):Ae x x=ς true:=by
 simp only[Ae,bv,zz4 h,au]
theorem zz64{x:ag}(h:dS x):sJ x x=ς true:=by
 simp only[sJ,bv,adp,zz144 h.1,MJ h.2.1,zz77 h.2.2,au]
theorem zz181{x:aZ}(h:eZ x):Ci x x=ς true:=by
 have hl:=h.1
 simp only[Ci,bv,au]
 exact zz495 x.bp η oaa (λk c hx hk=>by
  simp only[yV,ct hk,bm,hx,bv,zz4 (h.2 c (zz370 hx)),WRs (k:=k),au]) (by simp only[yV,zz337,cond_false])
theorem zz43{x:aM}(h:zz351 x):qG x x=ς true:=by
 simp only[qG,bv,zz498 h.1,MJ h.2,au]
theorem zz75{x:aC}(h:zz349 x):uJ x x=ς true:=by
 simp only[uJ,bv,Il,adp,zz43 h,au]
theorem zz63{x:aj}(h:zz357 x):sI x x=ς true:=by
 have hl:=h.1
 simp only[sI,bv,au]
 exact zz495 x.an η oaa (λk r hx hk=>by
  simp only[rJ,ct hk,bm,hx,bv,adp,WRs (k:=k),au]) (by simp only[rJ,zz337,cond_false])
theorem zz76{x:bA}(h:ke x):uK x x=ς true:=by
 simp only[uK,Bo,xn,bv,Il,adp,CI h,au]
theorem zz496(h:zz364 n):kN n n=ς true:=by
 obtain⟨h0,⟨l1,h1⟩,⟨l2,h2⟩,⟨l3,h3⟩,⟨l4,h4⟩⟩:=h
 simp only[kN,zz181 h0,bv,adp,au]
 refine zz495 n.ax η oaa (λk x hx hk=>by
  simp only[rK,ct hk,bm,hx,zz75 (h1 x (zz370 hx)),WRs (k:=k),au]) ?_
 simp only[rK,zz337,cond_false]
 congr 1
 refine zz495 n.aJ η oaa (λk x hx hk=>by
  simp only[rL,ct hk,bm,hx,zz64 (h2 x (zz370 hx)),WRs (k:=k),au]) ?_
 simp only[rL,zz337,cond_false]
 congr 1
 refine zz495 n.bD η oaa (λk x hx hk=>by
  simp only[rN,ct hk,bm,hx,zz63 (h3 x (zz370 hx)),WRs (k:=k),au]) ?_
 simp only[rN,zz337,cond_false]
 congr 1
 exact zz495 n.aT η oaa (λk x hx hk=>by
  simp only[rO,ct hk,bm,hx,zz76 (h4 x (zz370 hx)),WRs (k:=k),au]) (by simp only[rO,zz337,cond_false])
theorem lat_in{xs:List Int}(hl:xs.length<=1048576)(hu:∀x∈xs,yx x){i:Int}(h0:0<=i)(h1:i<=1000):∃r,lat xs i=ς r/\0<=r/\r<=255:=by
 rw[lat]
 cases hb:ltB i (xs.length:Int)
 .simp only[cond_false]
  rw[bJ (n:=i*31) oaa,bJ (n:=(xs.length:Int)*7) oaa,bJ oaa,acK oaa]
  exact⟨_,rfl,by omega,by omega⟩
 have hb:=zz369 hb
 obtain⟨k,rfl⟩:∃k:Nat,i=k:=⟨i.toNat,by omega⟩
 obtain⟨x,hx⟩:∃x,xs[k]?=ς x:=⟨_,zz386 oaa⟩
 have:=hu x (zz370 hx)
 unfold yx at this
 simp only[bm,hx,bJ (n:=x) oaa,au]
 exact⟨_,rfl,this.1,this.2⟩
theorem wFmt{n:Int}(h: -9223372036854775808<=n/\n<=9223372036854775807):Wp (xA n) (λr=>r.size<=25):=by
 unfold xA
 refine Wp.cond (λ_=>Wp.some (by decide)) (λ_=>?_)
 refine Wp.call (P:=λr=>r.size<=20) ?_ λr hr=>Wp.cond (λ_=>Wp.ok ?_ (Wp.some ?_)) (λ_=>Wp.some oaa)
 .refine Wp.iterF (λx=>(-9223372036854775808<=x.2/\x.2<=9223372036854775807)/\∃k,x.2.natAbs<10^k/\x.1.size+k<=20) (λx=>20-x.1.size) ⟨h,19,by simp only[Nat.reducePow];omega,by simp only[];decide⟩ (by simp only[];omega) ?_
  rintro⟨v1,v2⟩ ⟨i0,k,i1,i2⟩
  simp only at i0 i1 i2
  simp only[AY]
  refine Wp.cond (λhb=>?_) (λ_=>Wp.some oaa)
  have hb:v2≠0:=by simpa using hb
  have hk:k≠0:=by rintro rfl;simp at i1;omega
  obtain⟨k,rfl⟩:=Nat.exists_eq_succ_of_ne_zero hk
  have ht:(ads v2 10).natAbs=v2.natAbs/10:=Int.natAbs_tdiv v2 10
  have hw:WR (ads v2 10)=ads v2 10:=bJ oaa
  refine Wp.call (P:=λ_=>True) (Wp.cond (λ_=>Wp.some trivial) (λ_=>Wp.some trivial)) λv _=>?_
  have hs:(rD [IntKind.u8.wrap (WR (48+v))]).size=1:=rfl
  refine Wp.ok (by simp only[Td,hs,decide_eq_true_eq];omega) (Wp.some ⟨⟨by simp only[];rw[hw];omega,k,?_,?_⟩,?_⟩)
  .simp only[];rw[hw,ht];rw[Nat.pow_succ] at i1;omega
  .simp only[ByteArray.size_append,hs];omega
  simp only[ByteArray.size_append,hs];omega
 .have hs:(⟨#[45]⟩:ByteArray).size=1:=rfl
  simp only[Td,hs,decide_eq_true_eq];omega
 have hs:(⟨#[45]⟩:ByteArray).size=1:=rfl
 simp only[ByteArray.size_append,hs];omega
theorem zz281(n:Int):Wp (zy n) (λr=>okB r/\r.length<=25):=by
 unfold zy
 refine Wp.call (wFmt (yB _)) λr hr=>Wp.some ⟨λx hx=>?_,?_⟩
 .obtain⟨c,_,rfl⟩:=abN.1 hx
  have:=c.toNat_lt
  unfold yx;omega
 simp only[obS,abd,Array.length_toList]
 exact hr
theorem zz78(F:List ab)(hF:F.length<=1000):∀(m k:Nat) (n:Int) (dl:List bI) (fu:Nat),m=F.length-k->k<=F.length->dl.length<=24->0<=n->n+m<=2000000->m<fu->
 ∃k',iter (iS F) fu (n,k,dl)=ς ((zz382 (F.drop k) n dl).bB,k',(zz382 (F.drop k) n dl).bi)/\(zz382 (F.drop k) n dl).aA=F.drop k'
 |0,k,n,dl,fu,h1,h2,h3,h4,h5,h6=>by
  cases fu with
  |zero=>omega
  |succ fu=>
   have e:F.drop k=[]:=List.drop_eq_nil_of_le oaa
   refine⟨k,?_,by rw[e];rfl⟩
   rw[iter,e]
   simp[iS,<-h1,zz382]
 |m+1,k,n,dl,fu,h1,h2,h3,h4,h5,h6=>by
  cases fu with
  |zero=>omega
  |succ fu=>
   have e:F.drop k=F[k]::F.drop (k+1):=aby oaa
   have hx:ix (F.drop k) 0=ς F[k]:=by rw[e];exact bm _ 0
   have hl:ltB 0 ((F.length-k:Nat):Int)=true:=ltB_t.2 oaa
   have hd:(F.drop k).length=F.length-k:=by simp
   rw[iter,e,zz382,<-e]
   by_cases c:F[k].cX=n/\dl.length<24
   .rw[if_pos c]
    obtain⟨k',e1,e2⟩:=zz78 F hF m (k+1) (n+1) (dl++[⟨F[k].bk⟩]) fu oaa oaa (by simp;omega) oaa oaa oaa
    refine⟨k',?_,e2⟩
    have a1:cW 24 (dl++[(⟨F[k].bk⟩:bI)]).length=true:=zz343 oaa (by simp;omega)
    have a2:em (F.drop k) 1 ((F.drop k).length:Nat)=true:=by simp[em];omega
    have a3:ltB (dl.length:Int) 24=true:=ltB_t.2 oaa
    simp only[iS,hl,hx,c.1,bv,a1,a2,a3,bJ (show-9223372036854775808<=n+1/\n+1<=9223372036854775807 by omega),au]
    exact e1
   rw[if_neg c]
   refine⟨k,?_,by rw[e]⟩
   have:(bif eqB F[k].cX n then ς (ltB (dl.length:Int) 24) else ς η)=ς false:=by
    cases he:eqB F[k].cX n
    .rfl
    have:=zz424 he
    simp[ltB];omega
   simp only[iS,hl,hx,this,au]
theorem Z3{r:aM}(h:zz351 r){x:ab}:∃F k,nO r x=ς (zz395 r x,F,k)/\(zz395 r x).aA=F.drop k:=by
 obtain⟨q,hq,hq2⟩:=zz152 h.1.1 x.cX
 have hw:zz379 r=ζ->inR x.cX r.bB (WR (WR (r.bB+8)-1))=inR x.cX r.bB (r.bB+7):=λhv=>by
  have:=lG hv
  rw[bJ (n:=r.bB+8) oaa,bJ oaa,show r.bB+8-1=r.bB+7 by omega]
 have hl:(bif !zz379 r then ς ζ else(bif ltB 60 (x.bk.length:Int) then ς ζ else(bif !(inR x.cX r.bB (WR (WR (r.bB+8)-1))) then ς ζ else(bif leB 0 q then ς ζ else ς (leB 24 (r.bi.length:Int))))))=ς (zz437 r x):=by
  rw[hq2,J1]
  cases hv:zz379 r
  .simp[zz437,hv]
  rw[hw hv];simp[zz437,hv]
 simp only[nO,zz200 h,zz201 h.2.1 h.1.1,zz355,hq,acH,hl]
 rw[zz395]
 cases hlt:zz437 r x
 .simp only[zz437,aaQ,Bool.not_eq_false'] at hlt
  obtain⟨l1,l2,l3,l4,l5⟩:=hlt
  have hv:=lG l1
  have l2:=zz412 l2
  have l5:=zz472 l5
  have hw2:=zz29 (before x.cX) r.aA
  have hrun:=uk (L:=fw x r) r.aA (before x.cX) oaa (λk y hy=>by
   have hk:=(aat.1 hy).1
   simp[fw,ct hk,hy,before]) (by simp[fw])
  have hxs:([]:List ab)++r.aA.take ((((r.aA.takeWhile (before x.cX)).length:Nat):Int)).toNat++[(⟨x.cX,[]++x.bk⟩:ab)]++r.aA.drop ((((r.aA.takeWhile (before x.cX)).length:Nat):Int)).toNat=zz381 x r.aA:=by
   simp[zz18,zz17,zz381]
  have a1:em r.aA 0 (((r.aA.takeWhile (before x.cX)).length:Nat):Int)=true:=by simp[em];omega
  have a2:em r.aA (((r.aA.takeWhile (before x.cX)).length:Nat):Int) (r.aA.length:Int)=true:=by simp[em];omega
  have a3:cW 1 (([]:List Int)++x.bk).length=true:=zz343 oaa (by simp;omega)
  have a4:cW 32 (([]:List ab)++r.aA.take ((((r.aA.takeWhile (before x.cX)).length:Nat):Int)).toNat).length=true:=zz343 oaa (by simp;omega)
  have a5:cW 32 (([]:List ab)++r.aA.take ((((r.aA.takeWhile (before x.cX)).length:Nat):Int)).toNat++[(⟨x.cX,[]++x.bk⟩:ab)]).length=true:=zz343 oaa (by simp;omega)
  simp only[hrun,a1,a2,a3,a4,a5,au]
  obtain⟨k',e1,e2⟩:=zz78 (zz381 x r.aA) (by grind) (zz381 x r.aA).length 0 r.bB r.bi FU oaa oaa oaa oaa (by grind) (by have:=ie;grind)
  rw[List.drop_zero] at e1 e2
  rw[hxs,zz343 oaa (show(zz381 x r.aA).length<=1048577 by grind),e1]
  have hd:=zz50 (zz381 x r.aA) r.bB r.bi oaa
  simp only[z1,au]
  rw[show eqB (((zz382 (zz381 x r.aA) r.bB r.bi).bi.length:Nat):Int) 24=leB 24 (((zz382 (zz381 x r.aA) r.bB r.bi).bi.length:Nat):Int) from by rw[acJ];simp[eqB,leB];omega]
  cases leB 24 (((zz382 (zz381 x r.aA) r.bB r.bi).bi.length:Nat):Int)
  .exact⟨_,_,by simp only[cond_false];rw[<-e2],e2⟩
  exact⟨[],0,rfl,rfl⟩
 exact⟨_,0,rfl,rfl⟩
structure RB(r:aM):Prop where
 ok:zz351 r
 b1:∀x∈r.aA,okB x.bk
 b2:∀p∈r.bi,okB p.bk
theorem RP.rb{r:aM}(h:RP r):RB r:=⟨h.ok,h.b1,h.b2⟩
theorem RP.zero:RP ⟨1,[],[]⟩:=⟨⟨⟨by simp,by simp⟩,⟨by simp,by simp⟩⟩,by simp[zz379,AO,ig,eqB,leB,w1],by simp,by simp⟩
theorem RP.next{r:aM}(h:RP r):1<=r.bB/\r.bB<=25:=by
 have:=lG h.v
 omega
theorem zz324{c:av}(h:bP c):Wp (qL c) (λr=>bP r.2/\RP ⟨r.1.1,gP r.1.2.2,r.1.2.1⟩):=by
 unfold qL
 refine Wp.call (zz464 h oaa) λr1 h1=>?_
 refine Wp.call (P:=λx=>bP x.1/\RP ⟨x.2.1,gP x.2.2.2,x.2.2.1⟩) ?_ λx hx=>Wp.some hx
 refine Wp.iterF (λx=>x.1<=100/\bP x.2.1/\RP ⟨x.2.2.1,gP x.2.2.2.2,x.2.2.2.1⟩) (λx=>x.1.toNat) ⟨by have:=h1.2;simp only[];omega,h1.1,RP.zero⟩ (by have:=h1.2;simp only[];omega) ?_
 rintro⟨v2,v9,n,dl,g⟩ ⟨i1,i2,i3⟩
 simp only at i1 i2 i3
 simp only[wE]
 refine Wp.cond (λhb=>?_) (λhb=>Wp.some ⟨i2,i3⟩)
 have hb:=zz369 hb
 refine Wp.call (zz464 i2 oaa) λr22 h22=>?_
 refine Wp.call (zz281 _) λr23 h23=>?_
 obtain⟨F,k,e1,e2⟩:=Z3 i3.ok (x:=⟨WR (n+r22.1),r23⟩)
 have hw:WR (v2-1)=v2-1:=bJ oaa
 refine Wp.eq e1 (Wp.some ⟨⟨by simp only[];omega,h22.1,?_⟩,by simp only[];omega⟩)
 simp only[gP]
 rw[<-e2]
 exact M3 i3 h23.1
theorem zz212{c:av}(h:bP c):Wp (u5 c) (λr=>bP r.2/\RB r.1):=by
 unfold u5
 refine Wp.call (zz324 h) λr1 h1=>?_
 refine Wp.call (zz464 h1.1 oaa) λr2 h2=>?_
 have hb:=h1.2.rb
 have hl:=lG h1.2.v
 simp only at hl
 refine Wp.cond (λ_=>?_) (λ_=>Wp.cond (λ_=>?_) (λ_=>Wp.some ⟨h2.1,hb⟩))
 .exact Wp.call (zz497 h2.1 (by simp)) λr10 h10=>Wp.some ⟨h10.1,⟨hb.ok,hb.b1,hb.b2⟩⟩
 refine Wp.call (zz464 h2.1 oaa) λr16 h16=>Wp.ok (ew (by simp;omega) (by simp;omega)) (Wp.some ⟨h16.1,⟨⟨⟨by simp;omega,?_⟩,hb.ok.2⟩,?_,hb.b2⟩⟩)
 .intro x hx
  rcases aaH.1 hx with hx|hx
  .exact hb.ok.1.2 x hx
  rw[abQ.1 hx];exact⟨by simp,by simp⟩
 intro x hx
 rcases aaH.1 hx with hx|hx
 .exact hb.b1 x hx
 rw[abQ.1 hx];intro y hy;simp at hy
theorem wKeyV{c:av}(h:bP c):Wp (vL c) (λr=>bP r.2/\p6 r.1=ζ):=by
 unfold vL
 exact Wp.call (zz464 h oaa) λr1 h1=>Wp.some ⟨h1.1,bU.2 (by rw[bJ oaa];omega)⟩
theorem zz331{c:av}(h:bP c):Wp (CT c) (λr=>bP r.2/\(zz101 r.1.ID=ζ/\p6 r.1.fA=ζ)/\0<=r.1.c8/\r.1.c8<=39):=by
 unfold CT
 refine Wp.call (P:=λr=>bP r.2/\zz101 r.1=ζ) ?_ λr1 h1=>Wp.call (wKeyV h1.1) λr2 h2=>Wp.call (zz464 h2.1 oaa) λr3 h3=>Wp.some ⟨h3.1,⟨h1.2,h2.2⟩,h3.2.1,by have:=h3.2.2;simp only[];omega⟩
 unfold ON
 refine Wp.call (zz464 h oaa) λr1 h1=>Wp.call (zz464 h1.1 oaa) λr2 h2=>Wp.some ⟨h2.1,?_⟩
 simp only[zz101,hV,bU]
 omega
theorem zz371{c:av}(h:bP c):Wp (CO c) (λr=>bP r.2/\DP r.1):=by
 unfold CO
 refine Wp.call (zz331 h) λr1 h1=>Wp.call (zz464 h1.1 oaa) λr2 h2=>?_
 rw[zz233,acH]
 obtain⟨h10,h11,h12⟩:=h1
 have hd:DP (⟨r1.1,0,r2.1,0,0,0,η,0,⟨1,[],[]⟩⟩:aC):=⟨by simp only[ui,hV];exact⟨h11.1,h11.2,bU.2 oaa⟩,by simp,by simp only[];omega,by simp,by simp,by simp,by simp,by simp,RP.zero⟩
 refine Wp.call (p5 h2.1 oaa) λr4 h4=>Wp.cond (λ_=>Wp.some ⟨h4,hd⟩) λ_=>?_
 refine Wp.eq (on_s hd.ok) ?_
 have h5:=US hd
 refine Wp.call (p5 h4 oaa) λr6 h6=>Wp.cond (λ_=>Wp.some ⟨h6,h5⟩) λ_=>?_
 refine Wp.call (zz464 h6 oaa) λr7 h7=>Wp.eq (NF _ _) (Wp.eq (zz189 _ _ _) (Wp.eq (zz292 h5.ok h5.card h5.ep _) ?_))
 have h10:=zz125 h5
 refine Wp.call (zz464 h7.1 oaa) λr11 h11=>Wp.eq (BD _ _) (Wp.eq (zz292 (h10 _).ok (h10 _).card (h10 _).ep _) ?_)
 refine Wp.call (zz464 h11.1 oaa) λr14 h14=>?_
 refine Wp.call (P:=λx=>bP x.1/\DP x.2) ?_ λx hx=>Wp.some hx
 refine Wp.iterF (λx=>x.1<=100/\bP x.2.1/\DP x.2.2) (λx=>x.1.toNat) ⟨by have:=h14.2;simp only[];omega,h14.1,zz125 (h10 _) _⟩ (by have:=h14.2;simp only[];omega) ?_
 rintro⟨v15,c,d⟩ ⟨i1,i2,i3⟩
 simp only at i1 i2 i3
 simp only[D6]
 refine Wp.cond (λhb=>?_) (λ_=>Wp.some ⟨i2,i3⟩)
 have hb:=zz369 hb
 have hw:WR (v15-1)=v15-1:=bJ oaa
 refine Wp.call (zz464 i2 oaa) λr hr=>?_
 refine Wp.call (P:=λx=>bP x.1/\DP x.2) ?_ (λx hx=>Wp.some ⟨⟨by simp only[];omega,hx.1,hx.2⟩,by simp only[];omega⟩)
 refine Wp.cond (λ_=>Wp.call (zz464 hr.1 oaa) λr2 h2=>Wp.eq (zz284 i3.ok i3.ep _) (Wp.some ⟨h2.1,Fw i3 _⟩)) λ_=>?_
 refine Wp.call (P:=λx=>bP x.1/\DP x.2) ?_ (λx hx=>Wp.some hx)
 refine Wp.cond (λ_=>Wp.eq (XP i3.ok i3.wt.2) (Wp.some ⟨hr.1,zz164 i3⟩)) λ_=>?_
 refine Wp.call (P:=λx=>bP x.1/\DP x.2) ?_ (λx hx=>Wp.some hx)
 refine Wp.cond (λ_=>Wp.eq (zz267 i3.ok) (Wp.some ⟨hr.1,zz162 i3⟩)) λ_=>?_
 have hn:=i3.rc.next
 refine Wp.call (zz464 hr.1 oaa) λr2 h2=>Wp.call (zz281 _) λt ht=>?_
 have hq:WR (d.bW.bB+r2.1)=d.bW.bB+r2.1:=bJ oaa
 exact Wp.eq (zz139 (by simp only[];omega) (by simp only[];omega) ht.1 (by have:=ht.2;simp only[];omega) _ _ _) (Wp.eq (rad_s i3.ok (zz454 _ _ _ (by have:=ht.2;simp only[];omega)).1) (Wp.some ⟨h2.1,zz213 i3 _⟩))
theorem zz242{x:Int}{xs:List Int}(h:x∈xs)(hs:∀y∈xs,R64 y):R64 x:=hs x h
structure DB(d:aC):Prop where
 rb:RB d.bW
 n:R64 d.dO.ID.d4/\R64 d.dO.ID.bZ
 c:R64 d.bh
 e:R64 d.aY
theorem DP.db{d:aC}(h:DP d):DB d:=by
 have h1:=h.card
 simp only[ui,zz101,hV,bU] at h1
 have h2:=h.ce
 have h3:=h.ep
 exact⟨h.rc.rb,⟨⟨by omega,by omega⟩,⟨by omega,by omega⟩⟩,⟨by omega,by omega⟩,⟨by omega,by omega⟩⟩
theorem w29Any{c:av}(h:bP c):Wp (EO c) (λr=>bP r.2/\DB r.1):=by
 unfold EO
 refine Wp.call (zz371 h) λr1 h1=>Wp.call (zz464 h1.1 oaa) λr2 h2=>?_
 have hb:=h1.2.db
 refine Wp.call (P:=λx=>bP x.1/\DB x.2) ?_ (λx hx=>Wp.some hx)
 refine Wp.cond (λ_=>Wp.call (zz464 h2.1 oaa) λr h=>Wp.some ⟨h.1,⟨hb.rb,hb.n,hb.c,hb.e⟩⟩) λ_=>?_
 refine Wp.call (P:=λx=>bP x.1/\DB x.2) ?_ (λx hx=>Wp.some hx)
 refine Wp.cond (λ_=>Wp.call (zz497 h2.1 (by simp)) λr h=>Wp.some ⟨h.1,⟨hb.rb,hb.n,zz242 h.2 (by simp[R64]),hb.e⟩⟩) λ_=>?_
 refine Wp.call (P:=λx=>bP x.1/\DB x.2) ?_ (λx hx=>Wp.some hx)
 refine Wp.cond (λ_=>Wp.call (zz497 h2.1 (by simp)) λr h=>Wp.some ⟨h.1,⟨hb.rb,hb.n,hb.c,hb.e⟩⟩) λ_=>?_
 refine Wp.call (P:=λx=>bP x.1/\DB x.2) ?_ (λx hx=>Wp.some hx)
 refine Wp.cond (λ_=>Wp.call (zz212 h2.1) λr h=>Wp.some ⟨h.1,h.2,hb.n,hb.c,hb.e⟩) λ_=>?_
 refine Wp.call (P:=λx=>bP x.1/\DB x.2) ?_ (λx hx=>Wp.some hx)
 refine Wp.cond (λ_=>Wp.call (zz497 h2.1 (by simp)) λr h=>Wp.some ⟨h.1,⟨hb.rb,hb.n,hb.c,hb.e⟩⟩) λ_=>?_
 refine Wp.call (P:=λx=>bP x.2/\R64 x.1) ?_ (λx hx=>Wp.some ⟨hx.1,hb.rb,hb.n,hb.c,hx.2⟩)
 exact Wp.cond (λ_=>Wp.call (zz497 h2.1 (by simp)) λr h=>Wp.some ⟨h.1,zz242 h.2 (by simp[R64])⟩) λ_=>Wp.some ⟨h2.1,hb.e⟩
structure SB(s:ag):Prop where
 ok:dS s
 b1:∀p∈s.aS,okB p.bk
 b2:∀x∈s.aK.aF,okB x.bk
 ce:R64 s.bh
 ep:R64 s.aY
theorem SG.sb(h:SG s a):SB s:=⟨h.sp.ok,h.b1,h.b2,by have:=h.sp.ce;exact⟨by omega,by omega⟩,by have:=h.sp.ep;exact⟨by omega,by omega⟩⟩
structure WB(w:aV):Prop where
 ok:WOK w
 b:∀x∈w.aF,okB x.bk
theorem WB.any{w:aV}(h:WB w)(hb:okB b)(hl:b.length<=60):Wp (jq w b) (λr=>WB r.1):=by
 have ok:=h.ok.ok
 have hn:=h.ok.n
 have hw:WR (w.bB+1)=w.bB+1:=bJ oaa
 have hlen:=h.ok.l
 have hok2:zz353 ⟨w.bB+1,w.aF++[(⟨w.bB,b⟩:ab)]⟩:=⟨by simp;omega,λx hx=>by
  rcases aaH.1 hx with hx|hx
  .exact ok.2 x hx
  rw[abQ.1 hx];exact⟨by simp only[];omega,λ_ _=>trivial⟩⟩
 unfold jq
 refine Wp.eq (zz480 ok) (Wp.ok (ew (by simp;omega) (by simp;omega)) (Wp.ok (ew (by simp;omega) (by simp;omega)) (Wp.ok (ew (by simp;omega) (by simp;omega)) ?_)))
 simp only[abO,hw]
 refine Wp.eq (zz85 hok2) ?_
 cases hv:jw ⟨w.bB+1,w.aF++[(⟨w.bB,b⟩:ab)]⟩
 .exact Wp.eq (zz480 ok) (Wp.some h)
 refine Wp.some ⟨C8.1 hv,λx hx=>?_⟩
 rcases aaH.1 hx with hx|hx
 .exact h.b x hx
 rw[abQ.1 hx];exact hb
theorem w6Pair{c:av}(h:bP c):Wp (EW c) (λr=>bP r.2.2/\zz429 {r.2.1 with cX:=r.1.c8}=ζ):=by
 unfold EW
 refine Wp.call (zz331 h) λr1 h1=>Wp.call (zz464 h1.1 oaa) λr2 h2=>Wp.call (zz464 h2.1 oaa) λr3 h3=>?_
 refine Wp.call (P:=λx=>bP x.2.2/\0<=x.2.1/\x.2.1<=999999) ?_ λx hx=>Wp.some ⟨hx.1,?_⟩
 .refine Wp.cond (λ_=>Wp.call (zz497 h3.1 (by simp)) λr h=>Wp.some ⟨h.1,by simp only[];omega,by simp only[];omega⟩) λ_=>?_
  refine Wp.call (P:=λx=>bP x.2/\0<=x.1/\x.1<=999999) ?_ λx hx=>Wp.some hx
  refine Wp.cond (λ_=>Wp.call (zz497 h3.1 (by simp)) λr h=>Wp.some ⟨h.1,?_⟩) λ_=>Wp.some ⟨h3.1,by simp only[];omega,by simp only[];omega⟩
  have:=h.2
  simp at this
  rcases this with e|e|e<;>rw[e]<;>decide
 simp only[zz429,hV]
 exact⟨h1.2.1.1,h1.2.1.2,bU.2 hx.2⟩
theorem w30New{c:av}(h:bP c){x:aU}(hx:zz429 x=ζ){p:bO}(hp:zz400 p=ζ)(hl:p.bQ.length<=4){k:Int}(hk:0<=k):SG (⟨x,p,0,⟨0,0,0,0,0⟩,0,0,0,0,0,0,⟨0,0,0⟩,[],⟨1,[]⟩,0,⟨k,0,0⟩⟩:ag) (uq 0):=by
 have hq:kS (⟨k,0,0⟩:cY)=true:=by simp[kS,leB];omega
 have hok:dS (⟨x,p,0,⟨0,0,0,0,0⟩,0,0,0,0,0,0,⟨0,0,0⟩,[],⟨1,[]⟩,0,⟨k,0,0⟩⟩:ag):=⟨⟨by show p.bQ.length<=1048576;omega,λ_ _=>trivial⟩,⟨by simp,by simp⟩,⟨by simp,by simp⟩⟩
 refine⟨(zz419 hok).1 ?_,by simp,by simp,zz407.1 ?_⟩
 .simp only[zz373,hx,hp,hq,acL]
  have hz:zz417 (⟨x,p,0,⟨0,0,0,0,0⟩,0,0,0,0,0,0,⟨0,0,0⟩,[],⟨1,[]⟩,0,⟨k,0,0⟩⟩:ag)=true:=by
   simp[zz417,zz148,hq,xz,w0,leB]
  rw[hz]
  simp[inR,leB,ltB,p6,jO,jw,D0,AO,ig,eqB,w1]
 have ha:lu (uq 0)=true:=by decide+kernel
 simp only[uq] at ha
 simp[zz440,ha,hq,zz361,uq,eqB]
theorem Z6(h:SG s a){m:aG}(hc:0<=m.bh/\m.bh<=5):SG (zo s m).bb a:=by
 rw[zo]
 cases hb:leB s.bG 0||(!eqB m.ah s.bG||(!eqB m.bZ s.aA.vP||leB 999999 s.aY))
 .simp only[aaQ] at hb
  exact zz219 h hc (zz472 hb.1) (zz472 hb.2.2.2)
 exact h
theorem zz290{c:av}(h:bP c):Wp (zz456 c) (λr=>bP r.2/\SB r.1):=by
 unfold zz456
 refine Wp.call (w6Pair h) λr1 h1=>Wp.call (zz333 h1.1) λr2 h2=>Wp.call (zz464 h2.1 oaa) λr3 h3=>?_
 rw[ses_s (p:=r2.1) ⟨by omega,λ_ _=>trivial⟩,acH]
 have hs:=w30New h h1.2 h2.2.2 h2.2.1 h3.2.1
 refine Wp.call (zz464 h3.1 oaa) λr5 h5=>?_
 refine Wp.call (P:=λx=>bP x.1/\SG x.2 (uq 0)) ?_ λx hx=>?_
 .refine Wp.iterF (λx=>x.1<=100/\bP x.2.1/\SG x.2.2 (uq 0)) (λx=>x.1.toNat) ⟨by have:=h5.2;simp only[];omega,h5.1,hs⟩ (by have:=h5.2;simp only[];omega) ?_
  rintro⟨v,c,s⟩ ⟨i1,i2,i3⟩
  simp only at i1 i2 i3
  simp only[A6]
  refine Wp.cond (λhb=>?_) (λ_=>Wp.some ⟨i2,i3⟩)
  have hb:=zz369 hb
  have hw:WR (v-1)=v-1:=bJ oaa
  refine Wp.call (zz464 i2 oaa) λr hr=>Wp.call (zz180 hr.1 hr.2.1 oaa) λt ht=>Wp.eq (zz295 i3.sp.ok) (Wp.some ⟨⟨by simp only[];omega,ht.1,zz221 i3 ht.2.1⟩,by simp only[];omega⟩)
 obtain⟨x1,s⟩:=x
 obtain⟨hx1,hs⟩:=hx
 simp only at hx1 hs
 refine Wp.call (p5 hx1 oaa) λr83 h83=>Wp.cond (λ_=>Wp.some ⟨h83,hs.sb⟩) λ_=>?_
 refine Wp.call (zz464 h83 oaa) λr84 h84=>Wp.eq (att_s hs.sp _) ?_
 have ha:=λm=>zz220 hs m
 refine Wp.call (p5 h84.1 oaa) λr86 h86=>Wp.cond (λ_=>Wp.some ⟨h86,(ha _).sb⟩) λ_=>?_
 refine Wp.call (zz464 h86 oaa) λr87 h87=>Wp.eq (zz277 (ha _).sp _) ?_
 refine Wp.call (zz464 h87.1 oaa) λr89 h89=>Wp.call (zz464 h89.1 oaa) λr90 h90=>?_
 have hr:=Z6 (ha {fc with bu:=1,bh:=r84.1}) (m:=⟨3,r87.1,(zz83 s {fc with bu:=1,bh:=r84.1}).bb.bG,0,(zz83 s {fc with bu:=1,bh:=r84.1}).bb.aA.vP,cH,0⟩) ⟨h87.2.1,by have:=h87.2.2;simp only[];omega⟩
 refine Wp.call (P:=λx=>SB x) ?_ λx hx=>Wp.some ⟨h90.1,hx⟩
 refine Wp.iterF (λx=>x.1<=100/\SB x.2/\WB x.2.aK/\∀p∈x.2.aS,p.bk.length<=60) (λx=>x.1.toNat) ⟨by have:=h90.2;simp only[];omega,⟨hr.sp.ok,hr.b1,hr.b2,hr.sb.ce,hr.sb.ep⟩,⟨hr.sp.win,hr.b2⟩,hr.sp.sd⟩ (by have:=h90.2;simp only[];omega) ?_
 rintro⟨v,s⟩ ⟨i1,i2,i3,i4⟩
 simp only at i1 i2 i3 i4
 simp only[zz1]
 refine Wp.call (P:=λb=>b=ζ->0<v/\s.aK.bB<=s.aS.length) (Wp.cond (λhb=>Wp.some λhc=>⟨zz369 hb,y3 hc⟩) λ_=>Wp.some (by simp)) λb hb=>?_
 refine Wp.cond (λhb2=>?_) (λ_=>Wp.some i2)
 obtain⟨hv,hn⟩:=hb hb2
 have hw:WR (v-1)=v-1:=bJ oaa
 have hn0:=i3.ok.n
 have hw2:WR (s.aK.bB-1)=s.aK.bB-1:=bJ oaa
 refine Wp.ix oaa oaa λx hx _=>Wp.call (i3.any (i2.b1 x hx) (i4 x hx)) λr hr=>?_
 refine Wp.cond (λ_=>?_) (λ_=>Wp.some ⟨⟨by simp only[];omega,i2,i3,i4⟩,by simp only[];omega⟩)
 have hrl:=hr.ok.l
 refine Wp.eq (Wl oaa) (Wp.eq (W5 _) (Wp.call (P:=λx=>SB x/\WB x.aK/\∀p∈x.aS,p.bk.length<=60) (Wp.cond (λ_=>Wp.some ⟨⟨⟨i2.ok.1,i2.ok.2.1,hr.ok.ok⟩,i2.b1,hr.b,i2.ce,i2.ep⟩,hr,i4⟩) λ_=>Wp.some ⟨i2,i3,i4⟩) λx hx=>Wp.some ⟨⟨by simp only[];omega,hx⟩,by simp only[];omega⟩))
theorem zz153{c:av}(h:bP c):Wp (pO c) (λr=>bP r.2/\WB r.1):=by
 unfold pO
 refine Wp.call (zz464 h oaa) λr1 h1=>?_
 refine Wp.call (P:=λx=>bP x.1/\WB x.2) ?_ λx hx=>Wp.some hx
 refine Wp.iterF (λx=>x.1<=100/\bP x.2.1/\WB x.2.2) (λx=>x.1.toNat) ⟨by have:=h1.2;simp only[];omega,h1.1,⟨by simp,by simp,by simp,by simp⟩,by simp⟩ (by have:=h1.2;simp only[];omega) ?_
 rintro⟨v,c,w⟩ ⟨i1,i2,i3⟩
 simp only at i1 i2 i3
 simp only[u6]
 refine Wp.cond (λhb=>?_) (λ_=>Wp.some ⟨i2,i3⟩)
 have hb:=zz369 hb
 have hw:WR (v-1)=v-1:=bJ oaa
 refine Wp.call (p5 i2 oaa) λr hr=>Wp.call (P:=λx=>bP x.1/\WB x.2) ?_ λx hx=>Wp.some ⟨⟨by simp only[];omega,hx⟩,by simp only[];omega⟩
 refine Wp.cond (λ_=>Wp.call (zz464 hr oaa) λr2 h2=>Wp.eq (Uq i3.ok _) (Wp.some ⟨h2.1,Fb i3.ok _,λx hx=>?_⟩)) λ_=>?_
 .refine i3.b x ?_
  simp only[zz388] at hx
  revert hx
  cases ltB w.bB (WR (w.bB-r2.1))
  .exact λhx=>(List.mem_filter.1 hx).1
  exact λhx=>hx
 refine Wp.call (zz464 hr oaa) λr2 h2=>Wp.call (zz180 h2.1 h2.2.1 oaa) λt ht=>Wp.call (i3.any ht.2.1 (by have:=ht.2.2;have:=h2.2.2;omega)) λr3 h3=>Wp.cond (λ_=>Wp.some ⟨ht.1,h3⟩) λ_=>Wp.some ⟨ht.1,h3⟩
theorem zz179{c:av}(h:bP c):Wp (qK c) (λr=>bP r.2/\zz353 r.1/\∀x∈r.1.aF,okB x.bk):=by
 unfold qK
 refine Wp.call (zz153 h) λr1 h1=>Wp.call (zz464 h1.1 oaa) λr2 h2=>?_
 have ok:=h1.2.ok.ok
 have hl:=h1.2.ok.l
 have hb:=h1.2.b
 refine Wp.call (P:=λx=>bP x.1/\zz353 x.2/\∀y∈x.2.aF,okB y.bk) ?_ λx hx=>Wp.some hx
 refine Wp.cond (λ_=>Wp.call (zz497 h2.1 (by simp)) λr h=>Wp.some ⟨h.1,ok,hb⟩) λ_=>?_
 refine Wp.call (P:=λx=>bP x.2/\okL eQ x.1/\∀y∈x.1,okB y.bk) ?_ λx hx=>Wp.some hx
 refine Wp.cond (λ_=>Wp.call (zz464 h2.1 oaa) λr16 h16=>Wp.ok (ew (by simp;omega) (by simp;omega)) (Wp.some ⟨h16.1,⟨by simp;omega,?_⟩,?_⟩)) λ_=>Wp.some ⟨h2.1,ok,hb⟩
 .intro x hx
  rcases aaH.1 hx with hx|hx
  .exact ok.2 x hx
  rw[abQ.1 hx];exact⟨by simp,by simp⟩
 intro x hx
 rcases aaH.1 hx with hx|hx
 .exact hb x hx
 rw[abQ.1 hx];intro y hy;simp at hy
theorem w30Any{c:av}(h:bP c):Wp (EV c) (λr=>bP r.2/\SB r.1):=by
 unfold EV
 refine Wp.call (zz290 h) λr1 h1=>Wp.call (zz464 h1.1 oaa) λr2 h2=>?_
 have hb:∀x:ag,x.gB=r1.1.gB->x.aS=r1.1.aS->x.aK=r1.1.aK->R64 x.bh->R64 x.aY->SB x:=λx e1 e2 e3 e4 e5=>⟨⟨by rw[e1];exact h1.2.ok.1,by rw[e2];exact h1.2.ok.2.1,by rw[e3];exact h1.2.ok.2.2⟩,by rw[e2];exact h1.2.b1,by rw[e3];exact h1.2.b2,e4,e5⟩
 have hce:=h1.2.ce
 have hep:=h1.2.ep
 refine Wp.call (P:=λx=>bP x.1/\SB x.2) ?_ (λx hx=>Wp.some hx)
 refine Wp.cond (λ_=>Wp.call (zz464 h2.1 oaa) λr h=>Wp.some ⟨h.1,hb _ rfl rfl rfl hce hep⟩) λ_=>?_
 refine Wp.call (P:=λx=>bP x.1/\SB x.2) ?_ (λx hx=>Wp.some hx)
 refine Wp.cond (λ_=>Wp.call (zz497 h2.1 (by simp)) λr h=>Wp.some ⟨h.1,hb _ rfl rfl rfl hce hep⟩) λ_=>?_
 refine Wp.call (P:=λx=>bP x.1/\SB x.2) ?_ (λx hx=>Wp.some hx)
 refine Wp.cond (λ_=>Wp.call (zz497 h2.1 (by simp)) λr h=>Wp.some ⟨h.1,hb _ rfl rfl rfl hce hep⟩) λ_=>?_
 refine Wp.call (P:=λx=>bP x.1/\SB x.2) ?_ (λx hx=>Wp.some hx)
 refine Wp.cond (λ_=>Wp.call (zz497 h2.1 (by simp)) λr h=>Wp.some ⟨h.1,hb _ rfl rfl rfl hce (zz242 h.2 (by simp[R64]))⟩) λ_=>?_
 refine Wp.call (P:=λx=>bP x.1/\SB x.2) ?_ (λx hx=>Wp.some hx)
 refine Wp.cond (λ_=>Wp.call (zz497 h2.1 (by simp)) λr h=>Wp.some ⟨h.1,hb _ rfl rfl rfl hce hep⟩) λ_=>?_
 refine Wp.call (P:=λx=>bP x.1/\SB x.2) ?_ (λx hx=>Wp.some hx)
 refine Wp.cond (λ_=>Wp.call (zz179 h2.1) λr h=>Wp.some ⟨h.1,⟨h1.2.ok.1,h1.2.ok.2.1,h.2.1⟩,h1.2.b1,h.2.2,hce,hep⟩) λ_=>?_
 refine Wp.call (P:=λx=>bP x.1/\SB x.2) ?_ (λx hx=>Wp.some hx)
 refine Wp.cond (λ_=>Wp.call (zz464 h2.1 oaa) λr h=>Wp.some ⟨h.1,hb _ rfl rfl rfl hce hep⟩) λ_=>?_
 refine Wp.call (P:=λx=>bP x.2/\R64 x.1) ?_ (λx hx=>Wp.some ⟨hx.1,hb _ rfl rfl rfl hx.2 hep⟩)
 exact Wp.cond (λ_=>Wp.call (zz497 h2.1 (by simp)) λr h=>Wp.some ⟨h.1,zz242 h.2 (by simp[R64])⟩) λ_=>Wp.some ⟨h2.1,hce⟩
theorem zz104(ok:kr a)(i:Int):iy a i=ς (zz361 a i):=by
 have hfind:my a i=ς (ni (λx=>eqB x.aO i) 0 a.an):=zz7 ok λv=>rfl
 rw[iy,hfind,acH]
 rcases zz94 ok.o i with⟨t,m,d,e,h1,h2⟩|⟨t,d,e,h1,h2⟩
 .rw[lD e h1,e,zz53 h1,ltB_f.2 oaa]
  simp
 rw[zz392 (λx hx=>by rw[e] at hx;exact zz145 h1 h2 x hx),e,zz127 h1 h2]
 simp[ltB]
theorem zz289(ok:kr a)(i:Int):∃b,zg a i=ς b/\kr b:=by
 have hv:=zz445.2 ok
 have ht:=ok.t
 have hav:=ok.v
 have hs:=ok.s
 have hl:=ok.l
 have he:=ok.e
 have hfind:my a i=ς (ni (λx=>eqB x.aO i) 0 a.an):=zz7 ok λv=>rfl
 rcases zz94 ok.o i with⟨t,m,d,e,h1,h2⟩|⟨t,d,e,h1,h2⟩
 .have hm:=ok.r ⟨i,m⟩ (by rw[e];simp)
  have hsum:=(zz398 ok.r).2.2 ⟨i,m⟩ (by rw[e];simp)
  simp only at hm hsum
  have htl:t.length+1+d.length=a.an.length:=by rw[e];simp;omega
  have ho:=ok.o
  rw[e] at ho
  have hs1:=zz398 (h:=t) λx hx=>ok.r x (by rw[e];simp[hx])
  have hs2:=zz398 (h:=d) λx hx=>ok.r x (by rw[e];simp[hx])
  have he':a.bK+a.eR+(uu t+(m+uu d))=a.gm:=by
   rw[e,p3,sumR_cons] at he;exact he
  refine⟨{a with bK:=a.bK+m,an:=t++d},?_,⟨ht,by simp only;omega,hs,by simp;omega,λx hx=>ok.r x (by rw[e];rcases aaH.1 hx with hx|hx<;>simp[hx]),ho.sublist (by simp),by simp only[p3];omega⟩⟩
  have hc:=zz80 ok e h1 (n:=m) oaa
  have hx:ni (λx=>eqB x.aO i) 0 a.an=(t.length:Int):=by rw[e];exact zz53 h1
  rw[e,Ev h1,if_neg oaa,<-e] at hc
  simp only[zg,zz19 ok.ok,zz104 ok,zz415 ok.ok,hv,hfind,hx,hc,lD e h1,eqB_f.2 (show m≠0 by omega),bJ (n:=a.bK+m) oaa,au]
 refine⟨a,?_,ok⟩
 simp only[zg,zz19 ok.ok,zz104 ok,zz415 ok.ok,hv,zz392 (λx hx=>by rw[e] at hx;exact zz145 h1 h2 x hx),bv,au]
theorem zz338(b:Int):kr (uq b):=by
 have h:=zz311 b
 refine⟨?_,?_,?_,?_,?_,?_,?_⟩<;>simp[uq,uu]<;>omega
theorem aaG{c:av}(h:bP c):Wp (CL c) (λr=>bP r.2/\kr r.1):=by
 unfold CL
 refine Wp.call (zz464 h oaa) λr1 h1=>Wp.eq (acc_s _) (Wp.call (zz464 h1.1 oaa) λr3 h3=>?_)
 refine Wp.call (P:=λx=>bP x.1/\kr x.2) ?_ λx hx=>Wp.some hx
 refine Wp.iterF (λx=>x.1<=100/\bP x.2.1/\kr x.2.2) (λx=>x.1.toNat) ⟨by have:=h3.2;simp only[];omega,h3.1,zz338 _⟩ (by have:=h3.2;simp only[];omega) ?_
 rintro⟨v,c,a⟩ ⟨i1,i2,i3⟩
 simp only at i1 i2 i3
 simp only[D3]
 refine Wp.cond (λhb=>?_) (λ_=>Wp.some ⟨i2,i3⟩)
 have hb:=zz369 hb
 have hw:WR (v-1)=v-1:=bJ oaa
 refine Wp.call (zz464 i2 oaa) λr hr=>Wp.call (zz464 hr.1 oaa) λr2 h2=>Wp.call (P:=λx=>bP x.1/\kr x.2) ?_ λx hx=>Wp.some ⟨⟨by simp only[];omega,hx⟩,by simp only[];omega⟩
 refine Wp.cond (λ_=>Wp.eq (zz104 i3 _) ?_) λ_=>?_
 .have hq:=Ak i3 r.1
  rw[bJ (n:=1+zz361 a r.1) oaa]
  refine Wp.call (zz464 h2.1 oaa) λr3 h3=>?_
  have hd:0<=r3.1/\r3.1<=zz361 a r.1:=by omega
  exact Wp.eq (zz214 i3 hd) (Wp.some ⟨h3.1,(LB i3 hd).1⟩)
 refine Wp.call (P:=λx=>bP x.1/\kr x.2) ?_ λx hx=>Wp.some hx
 refine Wp.cond (λ_=>?_) λ_=>Wp.call (zz464 h2.1 oaa) λr3 h3=>Wp.eq (zz112 i3 _ _) (Wp.some ⟨h3.1,(GD i3 _ _).1⟩)
 obtain⟨b,e,hb⟩:=zz289 i3 r.1
 exact Wp.eq e (Wp.some ⟨h2.1,hb⟩)
theorem w16Any{c:av}(h:bP c):Wp (EM c) (λr=>bP r.2/\zz357 r.1):=by
 unfold EM
 refine Wp.call (aaG h) λr1 h1=>Wp.call (zz464 h1.1 oaa) λr2 h2=>?_
 have ok:=h1.2.ok
 have hl:=h1.2.l
 refine Wp.call (P:=λx=>bP x.1/\zz357 x.2) ?_ λx hx=>Wp.some hx
 refine Wp.cond (λ_=>Wp.call (zz497 h2.1 (by simp)) λr h=>Wp.some ⟨h.1,ok⟩) λ_=>?_
 refine Wp.call (P:=λx=>bP x.1/\zz357 x.2) ?_ λx hx=>Wp.some hx
 refine Wp.cond (λ_=>Wp.call (zz497 h2.1 (by simp)) λr h=>Wp.some ⟨h.1,ok⟩) λ_=>?_
 refine Wp.call (P:=λx=>bP x.2/\x.1.length<=1000) ?_ λx hx=>Wp.some ⟨hx.1,by show x.1.length<=1048576;omega,λ_ _=>trivial⟩
 exact Wp.cond (λ_=>Wp.call (zz464 h2.1 oaa) λr h=>Wp.call (zz464 h.1 oaa) λr3 h3=>Wp.ok (ew (by simp;omega) (by simp;omega)) (Wp.some ⟨h3.1,by simp;omega⟩)) λ_=>Wp.some ⟨h2.1,by simp only[];omega⟩
theorem w22Any{c:av}(h:bP c):Wp (EN c) (λr=>bP r.2):=by
 unfold EN GY
 refine Wp.call (P:=λx=>bP x.2) ?_ λr1 h1=>Wp.call (zz464 h1 oaa) λr2 h2=>?_
 .refine Wp.call (zz464 h oaa) λr1 h1=>?_
  obtain⟨k,hk,hk2⟩:∃k:Nat,r1.1=k/\k<=5:=⟨r1.1.toNat,by omega,by omega⟩
  have hp:∀k∈v0 6,1<=mD .i64 1 (WR (1+(k:Int)))/\leB 0 (WR (1+(k:Int)))=true:=by decide+kernel
  have:=hp k (List.mem_range.2 oaa)
  rw[hk]
  exact Wp.ok this.2 (Wp.call (zz464 h1.1 this.1) λr2 h2=>Wp.some h2.1)
 refine Wp.call (P:=λx=>bP x.1) ?_ λx hx=>Wp.some hx
 refine Wp.cond (λ_=>Wp.call (zz497 h2.1 (by simp)) λr h=>Wp.some h.1) λ_=>?_
 refine Wp.call (P:=λx=>bP x.2) ?_ λx hx=>Wp.some hx
 exact Wp.cond (λ_=>Wp.call (zz497 h2.1 (by simp)) λr h=>Wp.some h.1) λ_=>Wp.some h2.1
theorem w10Any{c:av}(h:bP c):Wp (EK c) (λr=>bP r.2/\eZ r.1):=by
 unfold EK
 refine Wp.call (wDrawX h) λr1 h1=>?_
 obtain⟨h11,h12,h13⟩:=h1
 have hm:∀x∈r1.1.map λe=>(⟨e.1,e.2⟩:dY),Ko x:=(Gs h12.2 (λe he=>by have:=h13 e he;omega)).2
 refine Wp.call (zz464 h11 oaa) λr2 h2=>Wp.call (zz464 h2.1 oaa) λr3 h3=>?_
 refine Wp.call (P:=λx=>bP ⟨x.2.1,x.2.2.1,x.2.2.2⟩/\eZ ⟨x.1⟩) ?_ λx hx=>Wp.some hx
 have hset:∀(y:dY),Ko y->eZ ⟨(r1.1.map λe=>(⟨e.1,e.2⟩:dY)).set r2.1.toNat y⟩:=λy hy=>⟨by simp;omega,λx hx=>by
  rcases ado hx with hx|rfl
  .exact hm x hx
  exact hy⟩
 refine Wp.cond (λ_=>Wp.call (zz497 h3.1 (by simp)) λr4 h4=>Wp.ix h2.2.1 (by simp;omega) λx hx _=>Wp.some ⟨h4.1,hset _ (hm x hx)⟩) λ_=>?_
 refine Wp.cond (λ_=>Wp.ix h2.2.1 oaa λx hx _=>?_) λ_=>?_
 .have hxl:=h13 x hx
  refine Wp.call (zz464 h3.1 oaa) λr4 h4=>Wp.ok (ew (by simp;omega) (by simp;omega)) (Wp.some ⟨h4.1,Gs (by simp;omega) λe he=>?_⟩)
  rcases ado he with he|rfl
  .have:=h13 e he;omega
  simp;omega
 refine Wp.cond (λ_=>Wp.ix h2.2.1 (by simp;omega) λx hx _=>Wp.some ⟨h3.1,hset _ ⟨by simp,by simp⟩⟩) λ_=>?_
 exact Wp.cond (λ_=>Wp.some ⟨h3.1,⟨by simp,by simp⟩⟩) λ_=>Wp.some ⟨h3.1,by simp only[abd];omega,hm⟩
structure NA(Q:bA->Prop)(n:ae):Prop where
 ok:zz364 n
 by_:BY n
 lo: -1<=n.Lost/\n.Lost<=10000000000
 nw:0<=n.lV/\n.lV<=90000
 q:∀f∈n.aT,Q f
theorem w33Any{Q:bA->Prop}(hq:∀{k:Nat} {n:ae},zz73 k n->k<=1000->∀f∈n.aT,Q f)(hz:∀a b,R64 a->R64 b->Q {fE with bj:=a,bh:=b}){c:av}(h:bP c){most:Int}(hm:1<=most/\most<=100):Wp (zz61 c most) (λr=>bP r.2/\NA Q r.1):=by
 unfold zz61 zz475
 refine Wp.call (P:=λx=>bP x.2/\(NA Q x.1/\1<=x.1.ax.length)/\x.1.aJ.length=x.1.ax.length/\x.1.bD.length=x.1.ax.length/\x.1.aT.length<=200) ?_ λr1 h1=>?_
 .refine Wp.call (w33Run h oaa) λr hr=>?_
  obtain⟨hc,l,hl,h0,hr,_⟩:=hr
  obtain⟨B,hn,hB⟩:=hr.np oaa
  obtain⟨k,h1,h2,h3⟩:=hr
  have hw:=h1.re.now oaa
  have hlo:=hn.lo
  have hnw:=hn.nw
  exact Wp.some ⟨hc,⟨⟨hn.okN,hn.by_,by simp only[];omega,by simp only[];omega,hq h1 oaa⟩,by simp only[];omega⟩,hn.ls,hn.la,hn.fl⟩
 obtain⟨hc,⟨hn,hl⟩,hs,ha,hf⟩:=h1
 have ok:=hn.ok
 refine Wp.call (zz464 hc oaa) λr2 h2=>?_
 refine Wp.call (P:=λx=>bP x.1/\NA Q x.2) ?_ λx hx=>Wp.some hx
 refine Wp.cond (λ_=>Wp.call (w10Any h2.1) λr h=>Wp.some ⟨h.1,⟨h.2,ok.2⟩,⟨hn.by_.d1,hn.by_.d2,hn.by_.s1,hn.by_.s2,hn.by_.f⟩,hn.lo,hn.nw,hn.q⟩) λ_=>?_
 refine Wp.call (P:=λx=>bP x.1/\NA Q x.2) ?_ λx hx=>Wp.some hx
 refine Wp.cond (λ_=>Wp.call (w22Any h2.1) λr h=>Wp.some ⟨h,ok,⟨hn.by_.d1,hn.by_.d2,hn.by_.s1,hn.by_.s2,hn.by_.f⟩,hn.lo,hn.nw,hn.q⟩) λ_=>?_
 refine Wp.call (P:=λx=>bP x.1/\NA Q x.2) ?_ λx hx=>Wp.some hx
 refine Wp.cond (λ_=>Wp.call (zz497 h2.1 (by simp)) λr h=>Wp.some ⟨h.1,ok,⟨hn.by_.d1,hn.by_.d2,hn.by_.s1,hn.by_.s2,hn.by_.f⟩,hn.lo,hn.nw,hn.q⟩) λ_=>?_
 refine Wp.call (P:=λx=>bP x.1/\NA Q x.2) ?_ λx hx=>Wp.some hx
 refine Wp.cond (λ_=>Wp.call (w29Any h2.1) λr h=>Wp.ix oaa oaa λ_ _ _=>Wp.some ⟨h.1,⟨ok.1,⟨by simp only[adr];exact ok.2.1.1,λx hx=>?_⟩,ok.2.2⟩,⟨λx hx=>?_,λx hx=>?_,hn.by_.s1,hn.by_.s2,hn.by_.f⟩,hn.lo,hn.nw,hn.q⟩) λ_=>?_
 .rcases ado hx with hx|rfl
  .exact ok.2.1.2 x hx
  exact h.2.rb.ok
 .rcases ado hx with hx|rfl
  .exact hn.by_.d1 x hx
  exact h.2.rb.b1
 .rcases ado hx with hx|rfl
  .exact hn.by_.d2 x hx
  exact h.2.rb.b2
 refine Wp.call (P:=λx=>bP x.1/\NA Q x.2) ?_ λx hx=>Wp.some hx
 refine Wp.cond (λ_=>Wp.call (w30Any h2.1) λr h=>Wp.ix oaa oaa λ_ _ _=>Wp.some ⟨h.1,⟨ok.1,ok.2.1,⟨by simp only[adr];exact ok.2.2.1.1,λx hx=>?_⟩,ok.2.2.2⟩,⟨hn.by_.d1,hn.by_.d2,λx hx=>?_,λx hx=>?_,hn.by_.f⟩,hn.lo,hn.nw,hn.q⟩) λ_=>?_
 .rcases ado hx with hx|rfl
  .exact ok.2.2.1.2 x hx
  exact h.2.ok
 .rcases ado hx with hx|rfl
  .exact hn.by_.s1 x hx
  exact h.2.b1
 .rcases ado hx with hx|rfl
  .exact hn.by_.s2 x hx
  exact h.2.b2
 refine Wp.call (P:=λx=>bP x.1/\NA Q x.2) ?_ λx hx=>Wp.some hx
 refine Wp.cond (λ_=>Wp.call (w16Any h2.1) λr h=>Wp.ix oaa oaa λ_ _ _=>Wp.some ⟨h.1,⟨ok.1,ok.2.1,ok.2.2.1,⟨by simp only[adr];exact ok.2.2.2.1.1,λx hx=>?_⟩,ok.2.2.2.2⟩,⟨hn.by_.d1,hn.by_.d2,hn.by_.s1,hn.by_.s2,hn.by_.f⟩,hn.lo,hn.nw,hn.q⟩) λ_=>?_
 .rcases ado hx with hx|rfl
  .exact ok.2.2.2.1.2 x hx
  exact h.2
 refine Wp.call (P:=λx=>bP x.1/\NA Q x.2) ?_ λx hx=>Wp.some hx
 refine Wp.cond (λ_=>Wp.ok (by simp[em];omega) (Wp.some ⟨h2.1,⟨ok.1,ok.2.1,⟨by have:=ok.2.2.1.1;simp;omega,λx hx=>ok.2.2.1.2 x (adq hx)⟩,ok.2.2.2⟩,⟨hn.by_.d1,hn.by_.d2,λx hx=>hn.by_.s1 x (adq hx),λx hx=>hn.by_.s2 x (adq hx),hn.by_.f⟩,hn.lo,hn.nw,hn.q⟩)) λ_=>?_
 refine Wp.call (P:=λx=>bP x.1/\NA Q x.2) ?_ λx hx=>Wp.some hx
 refine Wp.cond (λ_=>Wp.call (zz464 h2.1 oaa) λr h=>Wp.call (zz464 h.1 oaa) λr3 h3=>Wp.ok (ew (by simp;omega) (by simp;omega)) (Wp.some ⟨h3.1,⟨ok.1,ok.2.1,ok.2.2.1,ok.2.2.2.1,⟨by simp;omega,λx hx=>?_⟩⟩,⟨hn.by_.d1,hn.by_.d2,hn.by_.s1,hn.by_.s2,λx hx=>?_⟩,hn.lo,hn.nw,λx hx=>?_⟩)) λ_=>?_
 .rcases aaH.1 hx with hx|hx
  .exact ok.2.2.2.2.2 x hx
  rw[abQ.1 hx];exact zz56
 .rcases aaH.1 hx with hx|hx
  .exact hn.by_.f x hx
  rw[abQ.1 hx];intro y hy;simp[fE,fg,kq] at hy
 .rcases aaH.1 hx with hx|hx
  .exact hn.q x hx
  rw[abQ.1 hx];exact hz _ _ (yB _) (yB _)
 refine Wp.call (P:=λx=> -1<=x/\x<=10000000000) (Wp.cond (λ_=>Wp.some oaa) λ_=>Wp.some hn.lo) λx hx=>Wp.some ⟨h2.1,ok,⟨hn.by_.d1,hn.by_.d2,hn.by_.s1,hn.by_.s2,hn.by_.f⟩,hx,hn.nw,hn.q⟩
theorem zz58:∀(a b:Nat) (n:ae),i6 (a+b) n=i6 b (i6 a n)
 |0,b,n=>by rw[Nat.zero_add];rfl
 |a+1,b,n=>by rw[Nat.add_right_comm,i6,i6,zz58 a b]
theorem zz33:∀(c:Nat) {B:Int} {n:ae},NP B n->B+14000*c<4611686018427387904->NP (B+14000*c) (i6 c n)
 |0,B,n,h,_=>h.mono oaa
 |c+1,B,n,h,hB=>by
  rw[i6]
  exact(zz33 c (Ds h oaa) oaa).mono oaa
theorem zz344(h:NP B n)(hB:B+14000<4611686018427387904):Bk n=ς (zz501 n):=by
 have e:jj n 1=ς (i6 1 n):=zz504 h (m:=1) oaa oaa
 rw[Bk,e];rfl
theorem RK{xs:List Int}(hl:xs.length<=1048576)(hu:∀x∈xs,yx x):Wp (zz452 xs) (NA λ_=>True):=by
 obtain⟨c,hc,hc1,_⟩:=new_ok hl hu
 unfold zz452 Hg
 rw[hc,acH]
 exact Wp.bind (Wp.bind ((w33Any (Q:=λ_=>True) (λ_ _ _ _=>trivial) (λ_ _ _ _=>trivial) hc1 oaa).mono λr hr=>Wp.some (Wp.some hr.2)))
theorem zz12(xs:List Int)(hp:preL yx xs):zz406 xs=ς true:=by
 simp only[zz406,lbig,acH]
 cases hb:ltB 1048576 (xs.length:Int) with
 |true=>rfl
 |false=>
  have hl:=zz412 hb
  obtain⟨n,hd,hg⟩:=(RK (xs:=xs) oaa hp.2).ex
  have hok:=hg.ok
  simp only[hd,IH hok,au]
  cases hv:zz378 n
  .have e1:Bk n=ς n:=by simp only[Bk,jj,Oi hok,Ai hok,hv,au]
   have e2:jj n 2=ς n:=by simp only[jj,Oi hok,Ai hok,hv,au]
   simp only[e1,e2,zz496 hok,au]
  have hn:=NP.of hok hv hg.by_
  have hB:=hg.lo
  obtain⟨r,hr,r0,r1⟩:=lat_in (xs:=xs) oaa hp.2 (i:=0) oaa oaa
  obtain⟨k,hk,hk2⟩:∃k:Nat,acF r 3=k/\k<=2:=by
   have:=zz35 r0 (show(0:Int)<3 by omega)
   exact⟨(acF r 3).toNat,by omega,by omega⟩
  have hw:WR ((k:Int)+2)=((k+2:Nat):Int):=by rw[bJ oaa];omega
  have hnk:=zz33 k hn oaa
  have hn2:=zz33 (k+2) hn oaa
  have h1:=Ds hn oaa
  have ek:jj n (k:Int)=ς (i6 k n):=zz504 hn oaa oaa
  have e2:jj n ((k+2:Nat):Int)=ς (i6 (k+2) n):=zz504 hn oaa oaa
  have e3:jj (i6 k n) 2=ς (i6 2 (i6 k n)):=zz504 hnk (m:=2) oaa oaa
  have e1:jj n 1=ς (zz501 n):=zz504 hn (m:=1) oaa oaa
  have hq:(zz501 n).aT=[]:=Mw (zz3 hn oaa).2.2 oaa
  have hnow:=(zz224 (n:=n) (by have:=hg.nw;omega)).2.2.1
  have hnw:=hn.nw
  rw[<-zz58] at e3
  simp only[hr,hk,hw,ek,zz344 hn oaa,e2,e3,zz496 hn2.okN,xc,hq,List.length_nil,e1,zz496 h1.okN,hnow,bJ (n:=n.lV+1) oaa,bv,Ai h1.okN,h1.vn,eqB_t.2 (show((0:Nat):Int)=0 from rfl),au]
end Go.AM
