/- A part. -/
import Derived.Test.YtmginjngmidkbaaGreatP1
set_option linter.unusedVariables false
set_option linter.unusedSimpArgs false
open List renaming getElem?_eq_some_iff->aaa,getElem?_eq_getElem->v0,mem_of_getElem?->aab,mem_append->aac,mem_map->aa7,prefix_refl->acN,range->f4,getElem?_of_mem->aap,getElem?_append_right->aan,getElem?_map->aaH,getElem?_append_left->aal,take_of_length_le->ab7,map_cons->aaB,mem_of_mem_take->aaA,mem_range->abi,mem_singleton->ab4,getD_eq_getElem?_getD->abl,getElem?_set->abI,take_add_one->acg,mem_or_eq_of_mem_set->acS,any_eq_true->aaD,length_cons->aai,map_append->abb,pairwise_append->ab3,mem_append_left->acU,sum_cons->acQ,getElem?_take->aat,map_nil->abd,append_assoc->aaR,all_eq_true->aag,nil_append->aa8,length_nil->ab0,sum_append->acR,mem_cons->aae,sum_nil->acV
open Int renaming le_refl->acM,toNat_natCast->abY,tmod->abV,tmod_eq_emod_of_nonneg->ab1,le_trans->acP,tdiv->acO
open Option renaming bind_some->abX,bind->abU
open Bool renaming and_eq_true->hV,or_eq_true->aam,or_eq_false_iff->aaq,eq_iff_iff->abZ,true_and->ab6,and_true->ab5,and_eq_false_iff->acT,false_or->aaJ,or_self->acf
namespace Go.AM
attribute [local simp] ci bR bp
variable {p:Go.AM.bH} {k i l:Nat} {B:Int} {n:Go.AM.ab} {e:Go.AM.dN} {α:Type} {a:Go.AM.am} {m:Go.AM.aH} {s s':Go.AM.ah} {x:α}
def tu (p:bH) (k:Int):Bool:=kh p&&(inR k 0 (p.fx-1)&&eqB (zY .i64 (En .i64 p.fB k) 1) 1)
theorem kK (h:kh p=true):1<=p.fx/\p.fx<=6:=by
 simp only[kh,hV,bQ] at h;exact h.1
theorem Qm (p:bH) (k:Int):qE p k=some (tu p k):=by
 simp only[qE,NT,fY,abX,tu]
 cases hp:kh p
 .rfl
 have:=kK hp
 rw[bO (n:=p.fx-1) oaa]
 cases hk:inR k 0 (p.fx-1)
 .rfl
 rw[leB_t.2 (bQ.1 hk).1];rfl
theorem Ql (p:bH) (k:Int):qq p k=some (tu p k):=by
 simp only[qq,JU,gE,abX,tu]
 cases hp:kh p
 .rfl
 have:=kK hp
 rw[bO (n:=p.fx-1) oaa]
 cases hk:inR k 0 (p.fx-1)
 .rfl
 rw[leB_t.2 (bQ.1 hk).1];rfl
def lZ (p:bH) (k:Int) (up:Bool):bH:=
 bif !kh p||!inR k 0 (p.fx-1) then p else⟨p.fx,bif up then bOr .i64 p.fB (md .i64 1 k) else vV .i64 p.fB (md .i64 1 k)⟩
theorem Yk (p:bH) (k:Int) (up:Bool):rS p k up=some (lZ p k up):=by
 simp only[rS,NT,fY,abX,lZ]
 cases hp:kh p
 .rfl
 have:=kK hp
 rw[bO (n:=p.fx-1) oaa]
 cases hk:inR k 0 (p.fx-1)
 .rfl
 rw[leB_t.2 (bQ.1 hk).1];cases up<;>rfl
theorem Yj (p:bH) (k:Int) (up:Bool):rz p k up=some (lZ p k up):=by
 simp only[rz,JU,gE,abX,lZ]
 cases hp:kh p
 .rfl
 have:=kK hp
 rw[bO (n:=p.fx-1) oaa]
 cases hk:inR k 0 (p.fx-1)
 .rfl
 rw[leB_t.2 (bQ.1 hk).1];cases up<;>rfl
theorem UI:∀c∈f4 7,∀d∈f4 (2^c),∀i∈f4 c,
 (inR (IU .i64 (d:Int) (md .i64 1 (i:Int))) 0 (WR (md .i64 1 (c:Int)-1))&&(inR (bOr .i64 (d:Int) (md .i64 1 (i:Int))) 0 (WR (md .i64 1 (c:Int)-1))&&inR (vV .i64 (d:Int) (md .i64 1 (i:Int))) 0 (WR (md .i64 1 (c:Int)-1))))=true:=by decide+kernel
theorem shl_eq:∀c∈f4 7,WR (md .i64 1 (c:Int)-1)=((2^c:Nat):Int)-1:=by decide+kernel
theorem Pz {c:Nat} (hc:c<=6) {d k:Int} (hd:inR d 0 (WR (md .i64 1 (c:Int)-1))=true) (hk:0<=k/\k<c):
 inR (IU .i64 d (md .i64 1 k)) 0 (WR (md .i64 1 (c:Int)-1))=true/\inR (bOr .i64 d (md .i64 1 k)) 0 (WR (md .i64 1 (c:Int)-1))=true/\inR (vV .i64 d (md .i64 1 k)) 0 (WR (md .i64 1 (c:Int)-1))=true:=by
 have hd':=bQ.1 hd
 rw[shl_eq c (abi.2 oaa)] at hd'
 have:=UI c (abi.2 oaa) d.toNat (abi.2 oaa) k.toNat (abi.2 oaa)
 rw[show(d.toNat:Int)=d by omega,show(k.toNat:Int)=k by omega] at this
 simpa only[hV] using this
theorem VN (h:kh p=true) (k:Int) (up:Bool):kh (lZ p k up)=true/\(lZ p k up).fx=p.fx:=by
 rw[lZ,h]
 cases hk:inR k 0 (p.fx-1)
 .exact⟨h,rfl⟩
 have hk:=bQ.1 hk
 have hp:=kK h
 simp only[kh,hV] at h
 have hm:=Pz (c:=p.fx.toNat) oaa (d:=p.fB) (k:=k) (by rw[show(p.fx.toNat:Int)=p.fx by omega];exact h.2) oaa
 rw[show(p.fx.toNat:Int)=p.fx by omega] at hm
 simp only[acf,kh,hV,au]
 exact⟨⟨h.1,by cases up;exact hm.2.2;exact hm.2.1⟩,trivial⟩
def wt (a b:Int):Int:=abV (WR (em 17 [a,b]*em 17 [a,b])) 2147483647
theorem wt_s (a b:Int):jl a b=some (wt a b):=by simp[jl,eA,wt]
theorem wt_i (a b:Int):lk a b=some (wt a b):=by simp[lk,ey,wt]
theorem wt_nn (a b:Int):0<=wt a b:=by
 have h:=lP 17 [a,b]
 unfold hM at h
 have h2:0<=em 17 [a,b]*em 17 [a,b]:=Int.mul_nonneg h.1 h.1
 have h3:em 17 [a,b]*em 17 [a,b]<=2147483647*2147483647:=Int.mul_le_mul oaa oaa h.1 oaa
 rw[wt,bO oaa]
 exact Int.tmod_nonneg _ h2
def y7 (p:bH) (i v:Int) (k:Int):Int:=bif tu p k&&(ltB v 0||ltB (wt v i) (wt k i)) then k else v
def R5 (p:bH) (i:Int):Nat->Nat->Int->Int
 |0,_,v=>v
 |c+1,k,v=>R5 p i c (k+1) (y7 p i v k)
def sel (p:bH) (i:Int):Int:=R5 p i p.fx.toNat 0 (-1)
theorem Io {p:bH} (h:kh p=true) (i:Int):∀(c k fu:Nat) (v:Int),k+c=p.fx.toNat->c<fu->iter (mz p i) fu (v,(k:Int))=some (R5 p i c k v)
 |0,k,fu,v,h1,h2=>by
  have hp:=kK h
  cases fu with
  |zero=>omega
  |succ fu=>rw[iter];simp[mz,ltB_f.2 (show p.fx<=(k:Int) by omega),R5]
 |c+1,k,fu,v,h1,h2=>by
  have hp:=kK h
  cases fu with
  |zero=>omega
  |succ fu=>
   have hc:(bif ltB (k:Int) p.fx then some (ltB (k:Int) 6) else some false)=some true:=by rw[ltB_t.2 (show(k:Int)<p.fx by omega),ltB_t.2 (show(k:Int)<6 by omega)];rfl
   have hs:(abU (bif tu p k then(bif ltB v 0 then some true else some (ltB (wt v i) (wt k i))) else some false) λ(v12:Bool)=>abU (bif v12 then some (k:Int) else some v) λ(v15:Int)=>some (ct.next (ρ:=Int) (v15,WR ((k:Int)+1))))=some (.next (y7 p i v k,((k+1:Nat):Int))):=by
    rw[oh oaa,y7]
    cases tu p k<;>cases ltB v 0<;>cases ltB (wt v i) (wt k i)<;>rfl
   rw[iter]
   simp only[mz,hc,Qm,wt_s,hs,au]
   exact Io h i c (k+1) fu _ oaa oaa
def IW (i v:Int):Int:=bif ltB v 0 then-1 else wt v i
theorem In {p:bH} (h:kh p=true) (i:Int):∀(c k fu:Nat) (v:Int),k+c=p.fx.toNat->c<fu->iter (jS p i) fu (v,IW i v,(k:Int))=some (R5 p i c k v)
 |0,k,fu,v,h1,h2=>by
  have hp:=kK h
  cases fu with
  |zero=>omega
  |succ fu=>rw[iter];simp[jS,ltB_f.2 (show p.fx<=(k:Int) by omega),R5]
 |c+1,k,fu,v,h1,h2=>by
  have hp:=kK h
  cases fu with
  |zero=>omega
  |succ fu=>
   have hs:jS p i (v,IW i v,(k:Int))=some (.next (y7 p i v k,IW i (y7 p i v k),((k+1:Nat):Int))):=by
    simp only[jS,ltB_t.2 (show(k:Int)<p.fx by omega),Ql,wt_i,WRs (k:=k),y7,au]
    have hw:=wt_nn k i
    have hk:IW i (k:Int)=wt k i:=by rw[IW,ltB_f.2 (show(0:Int)<=k by omega)];rfl
    have hb:ltB (IW i v) (wt k i)=(ltB v 0||ltB (wt v i) (wt k i)):=by
     rw[IW];cases ltB v 0
     .rfl
     simp only[cond_true,Bool.true_or];exact ltB_t.2 oaa
    rw[hb]
    cases tu p k<;>cases ltB v 0||ltB (wt v i) (wt k i)<;>simp[hk]
   rw[iter,hs]
   exact In h i c (k+1) fu _ oaa oaa
theorem Y8 (h:kh p=true) (i:Int):mZ p i=some (sel p i):=by
 have hp:=kK h
 have:=Io h i p.fx.toNat 0 FU (-1) oaa (by have:=hO;omega)
 rw[show((0:Nat):Int)=0 from rfl] at this
 rw[mZ,this];rfl
theorem Y7 (h:kh p=true) (i:Int):mQ p i=some (sel p i):=by
 have hp:=kK h
 have:=In h i p.fx.toNat 0 FU (-1) oaa (by have:=hO;omega)
 rw[show((0:Nat):Int)=0 from rfl,show IW i (-1)= -1 from by simp[IW,ltB]] at this
 simp only[mQ,JU,h,this,sel,au]
def zw (p q:bH):Nat->Nat->List ah->List ah
 |0,_,l=>l
 |c+1,i,l=>zw p q c (i+1) (bif eqB (sel p i) (sel q i) then l else match l[i]? with
  |some s=>l.set i (lV s)
  |none=>l)
def oQ (n:ab) (k:Int) (up:Bool):Bool×ab:=
 let q:=lZ n.ev k up
 bif !inR k 0 (n.ev.fx-1)||(booB (tu n.ev k) up||eqB q.fB 0) then(false,n) else(true,{n with aF:=zw n.ev q n.aF.length 0 n.aF,ev:=q})
theorem rZ (p q:bH):∀(c i:Nat) (l:List ah) (j:Nat),(zw p q c i l)[j]?=l[j]?\/∃s,l[j]?=some s/\(zw p q c i l)[j]?=some (lV s)
 |0,i,l,j=>.inl rfl
 |c+1,i,l,j=>by
  rw[zw]
  cases eqB (sel p i) (sel q i)
  .simp only[cond_false]
   cases hi:l[i]? with
   |none=>exact rZ p q c (i+1) l j
   |some s=>
    simp only
    by_cases e:i=j
    .subst e
     have hg:(l.set i (lV s))[i]?=some (lV s):=by simp[(aaa.1 hi).1]
     rcases rZ p q c (i+1) (l.set i (lV s)) i with h|⟨t,h1,h2⟩
     .exact .inr ⟨s,hi,by rw[h,hg]⟩
     rw[hg] at h1;cases h1;exact .inr ⟨s,hi,h2⟩
    have hg:(l.set i (lV s))[j]?=l[j]?:=by rw[abI,if_neg e]
    rcases rZ p q c (i+1) (l.set i (lV s)) j with h|⟨t,h1,h2⟩
    .exact .inl (by rw[h,hg])
    exact .inr ⟨t,by rw[<-hg];exact h1,h2⟩
  exact rZ p q c (i+1) l j
theorem HK (p q:bH):∀(c i:Nat) (l:List ah),(zw p q c i l).length=l.length
 |0,i,l=>rfl
 |c+1,i,l=>by
  rw[zw,HK]
  cases eqB (sel p i) (sel q i)
  .simp only[cond_false];cases l[i]?<;>simp
  rfl
theorem EI {L:Int×List ah->Option (ct (Int×List ah) (List ah))} {p q:bH} (N:Nat)
 (hL:∀(i:Nat) (l:List ah),l.length=N->(i<N->(∀s∈l,d9 s)->L ((i:Int),l)=some (.next (((i+1:Nat):Int),bif eqB (sel p i) (sel q i) then l else match l[i]? with|some s=>l.set i (lV s)|none=>l)))/\(N<=i->L ((i:Int),l)=some (.done l))):
 ∀(c i fu:Nat) (l:List ah),i+c=N->l.length=N->(∀s∈l,d9 s)->c<fu->iter L fu ((i:Int),l)=some (zw p q c i l)
 |0,i,fu,l,h1,h2,h3,h4=>by
  cases fu with
  |zero=>omega
  |succ fu=>rw[iter,(hL i l h2).2 oaa];rfl
 |c+1,i,fu,l,h1,h2,h3,h4=>by
  cases fu with
  |zero=>omega
  |succ fu=>
   rw[iter,(hL i l h2).1 oaa h3,zw]
   simp only
   refine EI N hL c (i+1) fu _ oaa ?_ (λs hs=>?_) oaa
   .cases eqB (sel p i) (sel q i)
    .simp only[cond_false];cases l[i]?<;>simp[h2]
    exact h2
   revert hs
   cases eqB (sel p i) (sel q i)
   .simp only[cond_false]
    cases hi:l[i]? with
    |none=>exact h3 s
    |some t=>
     intro hs
     rcases acS hs with hs|rfl
     .exact h3 s hs
     exact h3 t (aab hi)
   exact h3 s
theorem Mq (h:NP B n) (k:Int) (up:Bool):wW n k up=some (oQ n k up)/\(∀e:dN,e.cB=k->eqB e.bh 12=up->sT n e=some (oQ n k up))/\NP B (oQ n k up).2:=by
 have hp:=kK h.core
 have hls:=h.ls
 have hq:=VN h.core k up
 have hok:∀s∈n.aF,d9 s:=λs hs=>by
  obtain⟨i,hi⟩:=aap hs
  have hlt:=(aaa.1 hi).1
  obtain⟨d,s',a,e1,e2,e3,hm⟩:=h.at_ (show i<n.av.length by omega)
  rw[hi] at e2;cases e2;exact hm.sg.sp.ok
 have hl4:=h.ld
 have r1:=EI (L:=qk n (lZ n.ev k up)) (p:=n.ev) (q:=lZ n.ev k up) n.aF.length (λi l hl=>⟨λhi hl3=>by
  obtain⟨s,hs⟩:∃s,l[i]?=some s:=⟨_,v0 oaa⟩
  simp only[qk,hl,cI hi,Y8 h.core,Y8 hq.1,bp,hs,ZE (hl3 s (aab hs)),abY,WRs (k:=i),au]
  cases eqB (sel n.ev i) (sel (lZ n.ev k up) i)<;>rfl,λhi=>by
  simp only[qk,hl,ltB_f.2 (show(n.aF.length:Int)<=(i:Int) by omega),cond_false]⟩) n.aF.length 0 FU n.aF oaa rfl hok (by have:=hO;omega)
 have r2:=EI (L:=lp n (lZ n.ev k up)) (p:=n.ev) (q:=lZ n.ev k up) n.aF.length (λi l hl=>⟨λhi hl3=>by
  obtain⟨s,hs⟩:∃s,l[i]?=some s:=⟨_,v0 oaa⟩
  simp only[lp,cI hi,Y7 h.core,Y7 hq.1,bp,hs,ZD (hl3 s (aab hs)),abY,WRs (k:=i),au]
  cases eqB (sel n.ev i) (sel (lZ n.ev k up) i)<;>rfl,λhi=>by
  simp only[lp,ltB_f.2 (show(n.aF.length:Int)<=(i:Int) by omega),cond_false]⟩) n.aF.length 0 FU n.aF oaa rfl hok (by have:=hO;omega)
 rw[show((0:Nat):Int)=0 from rfl] at r1 r2
 refine⟨?_,λe he hu=>?_,?_⟩
 .simp only[wW,Yk,fY,Qm,r1,abX,bO (n:=n.ev.fx-1) oaa,oQ]
  cases inR k 0 (n.ev.fx-1)<;>cases booB (tu n.ev k) up<;>cases eqB (lZ n.ev k up).fB 0<;>rfl
 .simp only[sT,he,hu,Yj,gE,Ql,r2,abX,bO (n:=n.ev.fx-1) oaa,oQ]
  cases inR k 0 (n.ev.fx-1)<;>cases booB (tu n.ev k) up<;>cases eqB (lZ n.ev k up).fB 0<;>rfl
 simp only[oQ]
 cases hb:!inR k 0 (n.ev.fx-1)||(booB (tu n.ev k) up||eqB (lZ n.ev k up).fB 0)
 .simp only[aaq] at hb
  refine {h with core:=hq.1,up:=Ji hb.2.2,ls:=by simp only[cond_false];rw[HK];exact hls,m:=λi d s a hd hs ha=>?_}
  simp only[cond_false] at hd hs ha ⊢
  rcases rZ n.ev (lZ n.ev k up) n.aF.length 0 n.aF i with e|⟨t,e1,e2⟩
  .rw[e] at hs;exact h.m i d s a hd hs ha
  rw[e2] at hs;cases hs
  have hm:=h.m i d t a hd e1 ha
  exact⟨hm.dp,hm.dc,VC hm.sg,hm.sc,hm.si,hm.ids⟩
 exact h
theorem PU:eqB 3 2=false:=by simp[eqB]
theorem PX:eqB 4 2=false:=by simp[eqB]
theorem PY:eqB 4 3=false:=by simp[eqB]
theorem PZ:eqB 6 5=false:=by simp[eqB]
theorem P0:eqB 7 5=false:=by simp[eqB]
theorem P3:eqB 7 6=false:=by simp[eqB]
theorem L2:eqB 8 5=false:=by simp[eqB]
theorem L3:eqB 8 6=false:=by simp[eqB]
theorem L4:eqB 8 7=false:=by simp[eqB]
theorem PW:eqB 3 4=false:=by simp[eqB]
theorem PT:eqB 2 3=false:=by simp[eqB]
structure EP (e:dN):Prop where
 d:okB e.bb
 f:kX e.b8
 r:okB e.b8.cA.bC.bb
def t9 (n:ab) (e:dN):Bool×ab:=
 bif !inR e.cB 0 ((n.aT.length:Int)-1) then(false,n) else
 bif eqB e.bh 2 then(true,jj n e.cB.toNat) else
 bif eqB e.bh 3 then(true,NF (jq n e.cB.toNat)) else
 bif leB 200 (n.aT.length:Int) then(false,n) else match n.aT[e.cB.toNat]? with
  |none=>(true,n)
  |some f=>(true,gb n f)
theorem Ld (h:NP B n) (e:dN) (hk:e.bh=2\/e.bh=3\/e.bh=4) (hB:B+1<4611686018427387904):
 wV n e=some (t9 n e)/\sS n e=some (t9 n e)/\NP (B+1) (t9 n e).2:=by
 have hfl:=h.fl
 simp only[wV,fY,sS,gE,t9,bO (n:=(n.aT.length:Int)-1) oaa,abX]
 cases hr:inR e.cB 0 ((n.aT.length:Int)-1)
 .exact⟨rt,rt,h.mono oaa⟩
 have hr:=bQ.1 hr
 obtain⟨k,hk'⟩:∃k:Nat,e.cB=k:=⟨e.cB.toNat,by omega⟩
 have hlt:k<n.aT.length:=by omega
 obtain⟨f,hf⟩:∃f,n.aT[k]?=some f:=⟨_,v0 hlt⟩
 have hp:=h.fs f (aab hf)
 simp only[hk',abY,QT h hlt,Qq h.fl hf,Bs hp.ok,HA h hlt,Qp h.fl hf,Br hp.ok,bp,hf,au]
 rcases hk with e2|e2|e2<;>rw[e2]<;>simp only[PU,PX,PY,PZ,P0,P3,L2,L3,L4,PW,PT,bR,au]
 .exact⟨rt,rt,wa h k hB⟩
 .exact⟨rt,rt,JB (DH h k) oaa⟩
 cases leB 200 (n.aT.length:Int)
 .exact⟨rt,rt,Aj h hp oaa⟩
 exact⟨rt,rt,h.mono oaa⟩
def Fr (n:ab) (e:dN):Bool×ab:=
 bif !inR e.cB 0 ((n.av.length:Int)-1) then(false,n) else match n.av[e.cB.toNat]?,n.aF[e.cB.toNat]? with
  |some d,some s=>
   bif eqB e.bh 5 then(bif !eqB d.bi 0 then(false,n) else(true,gT n e.cB.toNat (dOn d))) else
   bif eqB e.bh 6 then(bif eqB e.bg d.bg||!eL n.ei e.bg then(false,n) else(true,gT n e.cB.toNat (sH d e.bg))) else
   bif eqB e.bh 7 then(bif !eqB d.bi 2 then(false,n) else(true,{n with av:=n.av.set e.cB.toNat (u6 d)})) else
   bif(ta s e.bb).2 then(true,{n with aF:=n.aF.set e.cB.toNat (ta s e.bb).1}) else(false,n)
  |_,_=>(false,n)
theorem Ni (d:aJ):(u6 d).dq=d.dq/\(u6 d).bg=d.bg:=by
 rw[u6];cases eqB d.bi 2<;>exact⟨rfl,rfl⟩
theorem Va (h:NP B n) (e:dN) (he:EP e) (hk:e.bh=5\/e.bh=6\/e.bh=7\/e.bh=8) (hB:B+1<4611686018427387904):
 D2 n e=some (Fr n e)/\nJ n e=some (Fr n e)/\NP (B+1) (Fr n e).2:=by
 have hl:=h.ld
 have hm6:=mr h.map
 have hnm:NP (B+1) n:=h.mono oaa
 simp only[D2,fY,nJ,gE,vY (show n.ei.a8.length<=1048576 by omega),Fr,bO (n:=(n.av.length:Int)-1) oaa,bO (n:=(n.ei.a8.length:Int)-1) oaa,abX]
 cases hr:inR e.cB 0 ((n.av.length:Int)-1)
 .exact⟨rt,rt,hnm⟩
 have hr:=bQ.1 hr
 obtain⟨k,hk'⟩:∃k:Nat,e.cB=k:=⟨e.cB.toNat,by omega⟩
 have hlt:k<n.av.length:=by omega
 obtain⟨d,s,a,e1,e2,e3,hm⟩:=h.at_ hlt
 have l1:=(Nj d).len
 have l2:(sH d e.bg).dE.length<=1:=by rcases K6 d e.bg with h|h;exact h.len;exact h.2.len
 simp only[hk',abY,bp,e1,e2,on_s hm.dp.ok,Z7 hm.dp.ok hm.dp.ep,ZQ hm.dp.ok,Zd hm.sg.sp.ok,yh hlt (show(dOn d).dE.length<=1048576 by omega),yh hlt (show(sH d e.bg).dE.length<=1048576 by omega),on_i hm.dp.ok,Z6 hm.dp.ok hm.dp.ep,ZP hm.dp.ok,sub_i hm.sg.sp.ok,yg hlt (show(dOn d).dE.length<=1048576 by omega),yg hlt (show(sH d e.bg).dE.length<=1048576 by omega),au]
 try rw[show inR e.bg 0 ((n.ei.a8.length:Int)-1)=eL n.ei e.bg from rfl]
 rcases hk with e4|e4|e4|e4<;>rw[e4]<;>simp only[PU,PX,PY,PZ,P0,P3,L2,L3,L4,PW,PT,bR,au]
 .cases eqB d.bi 0
  .exact⟨rt,rt,hnm⟩
  exact⟨rt,rt,mu h e1 (Nj d) (Zx hm.dp) hm.dc hB⟩
 .cases hx:eqB e.bg d.bg<;>cases hy:eL n.ei e.bg<;>try exact⟨rt,rt,hnm⟩
  refine⟨rt,rt,?_⟩
  have hc:=bQ.1 (show inR e.bg 0 ((n.ei.a8.length:Int)-1)=true from hy)
  rcases K6 d e.bg with h'|h'
  .exact mu h e1 h' (K7 hm.dp _) hm.dc hB
  exact mu h e1 h'.2 (K7 hm.dp _) oaa hB
 .cases eqB d.bi 2
  .exact⟨rt,rt,hnm⟩
  refine⟨rt,rt,NP.mono (B:=B) ?_ oaa⟩
  have hik:=Ni d
  refine h.setD e2 e3 ⟨TH hm.dp,by rw[hik.2];exact hm.dc,hm.sg,hm.sc,hm.si,?_⟩
  have:=hm.ids
  simp only[Fa,hik.1] at this ⊢;exact this
 cases hb:(ta s e.bb).2
 .have hs:(ta s e.bb).1=s:=by
   revert hb;rw[ta];cases leB 24 (s.aG.length:Int)||ltB 60 (e.bb.length:Int)
   .intro hb;cases hb
   intro _;rfl
  refine⟨?_,rt,hnm⟩
  first|trivial|(rw[hs,gY e2];rfl)
 refine⟨rt,rt,NP.mono (B:=B) ?_ oaa⟩
 have hg:=Yf hm.sg he.d
 refine h.setS e1 e3 ⟨hm.dp,hm.dc,hg,?_,?_,?_⟩
 all_goals
  rw[ta]
  cases leB 24 (s.aG.length:Int)||ltB 60 (e.bb.length:Int)
 .exact hm.sc
 .exact hm.sc
 .exact hm.si
 .exact hm.si
 .exact hm.ids
 exact hm.ids
def C0 (n:ab) (c:Int) (up:Bool):Bool×ab:=
 bif !eL n.ei c||booB (zr n c) up then(false,n) else(true,{n with dy:=IU .i64 n.dy (md .i64 1 c)})
theorem QN (h:NP B n) (e:dN):
 BS n e.cB (eqB e.bh 10)=some (C0 n e.cB (eqB e.bh 10))/\wh n e=some (C0 n e.cB (eqB e.bh 10))/\NP B (C0 n e.cB (eqB e.bh 10)).2:=by
 have hm6:=mr h.map
 simp only[BS,fY,Ux hm6,wh,vY (show n.ei.a8.length<=1048576 by omega),Uw hm6,C0,bO (n:=(n.ei.a8.length:Int)-1) oaa,abX]
 try rw[show inR e.cB 0 ((n.ei.a8.length:Int)-1)=eL n.ei e.cB from rfl]
 cases hc:eL n.ei e.cB
 .exact⟨rt,rt,h⟩
 have hi:=bQ.1 (show inR e.cB 0 ((n.ei.a8.length:Int)-1)=true from hc)
 rw[leB_t.2 hi.1]
 cases booB (zr n e.cB) (eqB e.bh 10)
 .exact⟨rt,rt,{h with dn:=(Pz hm6.2 h.dn oaa).1}⟩
 exact⟨rt,rt,h⟩
def zL (n:ab) (f:bS):Bool:=ltB (n.aT.length:Int) 200&&(inR f.bm 0 ((n.av.length:Int)-1)&&eL n.ei f.bg)
def xZ (n:ab) (f:bS):Bool×ab:=bif !zL n f then(false,n) else(true,gb n f)
theorem Nu (h:NP B n) (e:dN) (he:EP e) (hB:B<4611686018427387904):
 (abU (ky n e.b8) λr13=>bif !r13 then(some (false,n)) else(abU (gq n e.b8) λr14=>some (true,r14)))=some (xZ n e.b8)/\NE n e.b8=some (xZ n e.b8)/\NP (B+1) (xZ n e.b8).2:=by
 have hm6:=mr h.map
 have hl:=h.ld
 simp only[ky,fY,Bs he.f,NE,gE,vY (show n.ei.a8.length<=1048576 by omega),Br he.f,xZ,zL,bO (n:=(n.ei.a8.length:Int)-1) oaa,bO (n:=(n.av.length:Int)-1) oaa,abX]
 try rw[show inR e.b8.bg 0 ((n.ei.a8.length:Int)-1)=eL n.ei e.b8.bg from rfl]
 try rw[show leB 200 (n.aT.length:Int)=!ltB (n.aT.length:Int) 200 by simp only[leB,ltB];rw[abZ];simp]
 cases h1:ltB (n.aT.length:Int) 200<;>cases h2:inR e.b8.bm 0 ((n.av.length:Int)-1)<;>cases h3:eL n.ei e.b8.bg<;>try exact⟨rt,rt,h.mono oaa⟩
 have hd:=bQ.1 h2
 have hc:=bQ.1 (show inR e.b8.bg 0 ((n.ei.a8.length:Int)-1)=true from h3)
 exact⟨rt,rt,Aj h ⟨by omega,by omega,he.r,he.f⟩ oaa⟩
def kv (n:ab) (e:dN):Bool×ab:=
 if e.bh=1 then xh n else
 if e.bh=2\/e.bh=3\/e.bh=4 then t9 n e else
 if e.bh=5\/e.bh=6\/e.bh=7\/e.bh=8 then Fr n e else
 if e.bh=9\/e.bh=10 then C0 n e.cB (eqB e.bh 10) else
 if e.bh=11\/e.bh=12 then oQ n e.cB (eqB e.bh 12) else
 if e.bh=13 then xZ n e.b8 else(false,n)
theorem Eg (h:NP B n) (he:EP e) (hB:B+10000<4611686018427387904):
 zh n e=some (kv n e)/\CU n e=some (kv n e)/\NP (B+10000) (kv n e).2:=by
 rw[kv,zh,CU]
 by_cases h1:e.bh=1
 .rw[if_pos h1,h1]
  have:=zn h hB
  simp only[bR,this.1,this.2.1,au]
  exact⟨rt,rt,this.2.2⟩
 rw[if_neg h1]
 have n1:eqB e.bh 1=false:=by simpa [eqB] using h1
 by_cases h2:e.bh=2\/e.bh=3\/e.bh=4
 .rw[if_pos h2]
  have:=Ld h e h2 oaa
  have hb':(bif eqB e.bh 2 then(some (eqB e.bh 2)) else(abU (bif eqB e.bh 3 then(some (eqB e.bh 3)) else(some (eqB e.bh 4))) λ(v3:Bool)=>some v3))=some true:=by
   rcases h2 with e|e|e<;>rw[e]<;>simp only[PU,PX,PY,PZ,P0,P3,L2,L3,L4,PW,PT,bR,au]<;>rfl
  rw[n1,hb']
  simp only[this.1,this.2.1,au]
  exact⟨rt,rt,this.2.2.mono oaa⟩
 rw[if_neg h2]
 have hb':(bif eqB e.bh 2 then(some (eqB e.bh 2)) else(abU (bif eqB e.bh 3 then(some (eqB e.bh 3)) else(some (eqB e.bh 4))) λ(v3:Bool)=>some v3))=some false:=by
  rw[show eqB e.bh 2=false by simp[eqB];omega,show eqB e.bh 3=false by simp[eqB];omega,show eqB e.bh 4=false by simp[eqB];omega];rfl
 rw[n1,hb']
 simp only[au]
 by_cases h3:e.bh=5\/e.bh=6\/e.bh=7\/e.bh=8
 .rw[if_pos h3]
  have:=Va h e he h3 oaa
  have hb3:(bif eqB e.bh 5 then(some (eqB e.bh 5)) else(abU (bif eqB e.bh 6 then(some (eqB e.bh 6)) else(abU (bif eqB e.bh 7 then(some (eqB e.bh 7)) else(some (eqB e.bh 8))) λ(v7:Bool)=>some v7)) λ(v6:Bool)=>some v6))=some true:=by
   rcases h3 with e|e|e|e<;>rw[e]<;>simp only[PU,PX,PY,PZ,P0,P3,L2,L3,L4,PW,PT,bR,au]<;>rfl
  rw[hb3]
  simp only[this.1,this.2.1,au]
  exact⟨rt,rt,this.2.2.mono oaa⟩
 rw[if_neg h3]
 have hb3:(bif eqB e.bh 5 then(some (eqB e.bh 5)) else(abU (bif eqB e.bh 6 then(some (eqB e.bh 6)) else(abU (bif eqB e.bh 7 then(some (eqB e.bh 7)) else(some (eqB e.bh 8))) λ(v7:Bool)=>some v7)) λ(v6:Bool)=>some v6))=some false:=by
  rw[show eqB e.bh 5=false by simp[eqB];omega,show eqB e.bh 6=false by simp[eqB];omega,show eqB e.bh 7=false by simp[eqB];omega,show eqB e.bh 8=false by simp[eqB];omega];rfl
 rw[hb3]
 simp only[au]
 by_cases h4:e.bh=9\/e.bh=10
 .rw[if_pos h4]
  have:=QN h e
  have hb4:(bif eqB e.bh 9 then(some (eqB e.bh 9)) else(some (eqB e.bh 10)))=some true:=by rcases h4 with e|e<;>rw[e]<;>simp[eqB]
  rw[hb4]
  simp only[this.1,this.2.1,au]
  exact⟨rt,rt,this.2.2.mono oaa⟩
 rw[if_neg h4]
 have hb4:(bif eqB e.bh 9 then(some (eqB e.bh 9)) else(some (eqB e.bh 10)))=some false:=by
  rw[show eqB e.bh 9=false by simp[eqB];omega,show eqB e.bh 10=false by simp[eqB];omega];rfl
 rw[hb4]
 simp only[au]
 by_cases h5:e.bh=11\/e.bh=12
 .rw[if_pos h5]
  have:=Mq h e.cB (eqB e.bh 12)
  have hb5:(bif eqB e.bh 11 then(some (eqB e.bh 11)) else(some (eqB e.bh 12)))=some true:=by rcases h5 with e|e<;>rw[e]<;>simp[eqB]
  rw[hb5]
  simp only[this.1,this.2.1 e rfl rfl,au]
  exact⟨rt,rt,this.2.2.mono oaa⟩
 rw[if_neg h5]
 have hb5:(bif eqB e.bh 11 then(some (eqB e.bh 11)) else(some (eqB e.bh 12)))=some false:=by
  rw[show eqB e.bh 11=false by simp[eqB];omega,show eqB e.bh 12=false by simp[eqB];omega];rfl
 rw[hb5]
 simp only[au]
 by_cases h6:e.bh=13
 .rw[if_pos h6,h6]
  have:=Nu h e he oaa
  simp only[bR,this.1,this.2.1,au]
  exact⟨rt,rt,this.2.2.mono oaa⟩
 rw[if_neg h6,show eqB e.bh 13=false by simpa [eqB] using h6]
 exact⟨rt,rt,h.mono oaa⟩
structure BY (n:ab):Prop where
 d1:∀d∈n.av,∀x∈d.bY.aK,okB x.bb
 d2:∀d∈n.av,∀p∈d.bY.be,okB p.bb
 s1:∀s∈n.aF,∀p∈s.aG,okB p.bb
 s2:∀s∈n.aF,∀x∈s.aw.aA,okB x.bb
 f:∀f∈n.aT,okB f.cA.bC.bb
theorem NP.of (ok:iN n) (v:nm n=true) (b:BY n):NP n.ki n:=by
 simp only[nm,z8,hV,bQ,eM,aag,flB] at v
 obtain⟨v1,v2,v3,v4,v5,v6,v7,v8,v9,v10,v11,v12⟩:=v
 have v4:=zt v4
 have v5:=yP v5
 have v6:=yP v6
 have v8:=zt v8
 have v12:=zt v12
 refine⟨v1,ok.1,v2,Ji (by simpa using v3),by omega,v5,v6,λi d s a hd hs ha=>?_,by omega,λf hf=>?_,bQ.2 v10,v11,⟨v12,by omega⟩⟩
 .have:=v7 i d hd
  simp only[wu,hs,ha,hV] at this
  obtain⟨m1,m2,m3,m4,m5,m6,m7,m8⟩:=this
  have hdm:=aab hd
  have hsm:=aab hs
  have c1:=bQ.1 (show inR d.bg 0 ((n.ei.a8.length:Int)-1)=true from m5)
  have c2:=bQ.1 (show inR s.bg 0 ((n.ei.a8.length:Int)-1)=true from m6)
  exact⟨DP.of m1 (ok.2.1.2 d hdm) (b.d1 d hdm) (b.d2 d hdm),by omega,⟨(vF (ok.2.2.1.2 s hsm)).1 m2,b.s1 s hsm,b.s2 s hsm,pQ.1 m8⟩,by omega,pH m7,m4⟩
 have:=v9 f hf
 have c2:=bQ.1 (show inR f.bg 0 ((n.ei.a8.length:Int)-1)=true from this.2)
 exact⟨by omega,by omega,b.f f hf,ok.2.2.2.2.2 f hf⟩
theorem NP.okN (h:NP B n):iN n:=by
 have h1:=h.ld
 have h2:=h.ls
 have h3:=h.la
 have h4:=h.fl
 refine⟨h.mok,⟨by omega,λd hd=>?_⟩,⟨by omega,λs hs=>?_⟩,⟨by omega,λa ha=>?_⟩,⟨by omega,λf hf=>(h.fs f hf).ok⟩⟩
 .obtain⟨i,hi⟩:=aap hd
  have hlt:=(aaa.1 hi).1
  obtain⟨d',s,a,e1,e2,e3,hm⟩:=h.at_ hlt
  rw[hi] at e1;cases e1;exact hm.dp.ok
 .obtain⟨i,hi⟩:=aap hs
  have hlt:=(aaa.1 hi).1
  obtain⟨d',s,a,e1,e2,e3,hm⟩:=h.at_ (show i<n.av.length by omega)
  rw[hi] at e2;cases e2;exact hm.sg.sp.ok
 obtain⟨i,hi⟩:=aap ha
 have hlt:=(aaa.1 hi).1
 obtain⟨d',s,a,e1,e2,e3,hm⟩:=h.at_ (show i<n.av.length by omega)
 rw[hi] at e3;cases e3;exact hm.sg.mo.acc.ok
theorem NP.vn (h:NP B n):nm n=true:=by
 have h1:=h.ld
 have h2:=h.ls
 have h3:=h.la
 have h4:=h.fl
 have h5:=h.lo
 have hu:eqB n.ev.fB 0=false:=by simpa [eqB] using h.up
 simp only[nm,z8,hV,bQ,eM,aag,flB]
 refine⟨h.map,h.core,by simp[hu],leB_t.2 oaa,eqB_t.2 oaa,eqB_t.2 oaa,λi d hd=>?_,leB_t.2 oaa,λf hf=>?_,bQ.1 h.dn,h.nw,leB_t.2 h5.1⟩
 .obtain⟨d',s,a,e1,e2,e3,hm⟩:=h.at_ (aaa.1 hd).1
  rw[hd] at e1;cases e1
  have hc:=hm.dp.ce
  have hsc:=hm.sg.sp
  simp only[wu,e2,e3,hV]
  exact⟨hm.dp.v,(vF hm.sg.sp.ok).2 hm.sg.sp,tG.2 hm.sg.mo.acc,hm.ids,bQ.2 (by have:=hm.dc;omega),bQ.2 (by have:=hm.sc;have:=hsc.ce;omega),eqB_t.2 hm.si,pQ.2 hm.sg.mo⟩
 have hf:=h.fs f hf
 exact⟨by have:=hf.d;omega,bQ.2 (by have:=hf.c;omega)⟩
open Go.Proofs
theorem IO (x:Int) (m:Nat) (hm:m<9223372036854775808):0<=zY .i64 x (m:Int)/\zY .i64 x (m:Int)<=m:=by
 unfold zY
 have h1:(BitVec.ofInt IntKind.i64.bits x&&& BitVec.ofInt IntKind.i64.bits (m:Int)).toNat<=m:=by
  rw[BitVec.toNat_and]
  refine Nat.le_trans Nat.and_le_right ?_
  show(BitVec.ofInt 64 (m:Int)).toNat<=m
  rw[BitVec.toNat_ofInt]
  omega
 rw[KA oaa]
 omega
structure dM (c:bj):Prop where
 l:c.fb.length<=1048576
 u:∀x∈c.fb,ye x
 a:0<=c.fi
 b:c.fi<=c.fb.length
theorem AP {c:bj} (h:dM c):∃v c',ur c=some (v,c')/\0<=v/\v<=255/\dM c':=by
 unfold ur
 have:=h.l
 have ha:=h.a
 have hb:=h.b
 by_cases hi:c.fi<c.fb.length
 .obtain⟨x,hx,e⟩:=Uz h.a hi
  rw[show ltB c.fi (c.fb.length:Int)=true from by simp[ltB,hi]]
  simp only[e,au]
  refine⟨_,_,rfl,(IO _ 255 oaa).1,(IO _ 255 oaa).2,⟨h.l,h.u,?_,?_⟩⟩
  .show 0<=WR (c.fi+1);rw[bO oaa];omega
  show WR (c.fi+1)<=(c.fb.length:Int);rw[bO oaa];omega
 rw[show ltB c.fi (c.fb.length:Int)=false from by simp[ltB];omega]
 simp only[au]
 exact⟨_,_,rfl,(IO _ 255 oaa).1,(IO _ 255 oaa).2,⟨h.l,h.u,h.a,h.b⟩⟩
theorem D4 {v n:Int} (hv:0<=v) (hn:0<n):0<=abV v n/\abV v n<n:=by
 rw[ab1 hv]
 exact⟨Int.emod_nonneg _ oaa,Int.emod_lt_of_pos _ hn⟩
theorem KU {c:bj} (h:dM c) {n:Int} (hn:1<=n):∃v c',cO c n=some (v,c')/\0<=v/\v<n/\dM c':=by
 unfold cO
 rw[show leB n 0=false from by simp[leB];omega]
 have hz:(!eqB n 0)=true:=by simp[eqB];omega
 simp only[hz,au]
 by_cases h2:n<=256
 .rw[show leB n 256=true from by simp[leB,h2]]
  obtain⟨v,c',e,h0,h1,hc⟩:=AP h
  have:=D4 h0 (show 0<n by omega)
  simp only[e,au]
  exact⟨_,_,rfl,this.1,this.2,hc⟩
 rw[show leB n 256=false from by simp[leB];omega]
 obtain⟨v,c1,e,h0,h1,hc⟩:=AP h
 obtain⟨v2,c2,e2,h02,h12,hc2⟩:=AP hc
 obtain⟨v3,c3,e3,h03,h13,hc3⟩:=AP hc2
 simp only[e,e2,e3,au]
 rw[bO (n:=v*65536) oaa,bO (n:=v2*256) oaa,bO (n:=v*65536+v2*256) oaa,bO (n:=v*65536+v2*256+v3) oaa]
 have:=D4 (v:=v*65536+v2*256+v3) oaa (show 0<n by omega)
 exact⟨_,_,rfl,this.1,this.2,hc3⟩
theorem XR {c:bj} (h:dM c) {n:Int} (hn:1<=n):∃v c',jn c n=some (v,c')/\dM c':=by
 obtain⟨v,c',e,_,_,hc⟩:=KU h hn
 exact⟨_,_,by rw[jn,e];rfl,hc⟩
theorem new_ok {xs:List Int} (hl:xs.length<=1048576) (hu:∀x∈xs,ye x):∃c,Ki xs=some c/\dM c/\c.fb=xs:=by
 have key:∀(m n k:Nat) (v:Int),m=xs.length-k->k<=xs.length->m<n->∃r,iter (vI xs) n (v,(k:Int))=some r:=by
  intro m
  induction m with
  |zero=>
   intro n k v hm hk hn
   cases n with
   |zero=>omega
   |succ n=>
    have:k=xs.length:=by omega
    subst this
    exact⟨v,by rw[iter];simp[vI]⟩
  |succ m ih=>
   intro n k v hm hk hn
   cases n with
   |zero=>omega
   |succ n=>
    have hlt:k<xs.length:=by omega
    rw[iter]
    simp only[vI,cI hlt,bp,v0 hlt,WRs (k:=k),au]
    cases ltB (k:Int) 4000
    .exact⟨v,rfl⟩
    exact ih n (k+1) _ oaa oaa oaa
 obtain⟨r,hr⟩:=key xs.length FU 0 (WR (193017+(xs.length:Int))) oaa oaa (by have:=hO;omega)
 refine⟨⟨xs,0,r⟩,?_,⟨hl,hu,acM 0,Int.natCast_nonneg _⟩,rfl⟩
 rw[Ki,show iter (vI xs) FU (WR (193017+(xs.length:Int)),0)=some r from hr]
 rfl
theorem ew {c:bj} (h:dM c) {n:Int} (hn:1<=n):Wp (cO c n) (λr=>dM r.2/\0<=r.1/\r.1<n):=by
 obtain⟨v,c',e,h0,h1,hc⟩:=KU h hn
 exact Wp.of e ⟨hc,h0,h1⟩
theorem yG {c:bj} (h:dM c) {n:Int} (hn:1<=n):Wp (jn c n) (λr=>dM r.2):=by
 obtain⟨v,c',e,hc⟩:=XR h hn
 exact Wp.of e hc
theorem YD {c:bj} (h:dM c) {xs:List Int} (hx:xs≠[]):Wp (Av c xs) (λr=>dM r.2/\r.1∈xs):=by
 have hl:0<xs.length:=List.length_pos_iff.2 hx
 unfold Av
 refine Wp.call (ew h oaa) λr hr=>?_
 exact Wp.ix hr.2.1 hr.2.2 λx hm _=>Wp.some ⟨hr.1,hm⟩
theorem Wm {c:bj} (h:dM c) {n:Int} (h0:0<=n) (hn:n<=4000):Wp (yv c n) (λr=>dM r.2/\okB r.1/\(r.1.length:Int)=n):=by
 unfold yv
 refine Wp.call (P:=λx=>dM x.2/\okB x.1/\(x.1.length:Int)=n) ?_ λx hx=>Wp.some hx
 refine Wp.iterF (λx=>(0<=x.1/\x.1<=n)/\dM x.2.2/\okB x.2.1/\(x.2.1.length:Int)=x.1) (λx=>(n-x.1).toNat) ⟨⟨by omega,by omega⟩,h,λx hx=>by simp at hx,by simp⟩ (by simp only;have:=hO;omega) ?_
 rintro⟨v1,v5,v6⟩ ⟨⟨i0,i1⟩,i2,i3,i4⟩
 simp only at i0 i1 i2 i3 i4
 simp only[Df]
 refine Wp.cond (λhb=>?_) (λhb=>Wp.some ⟨i2,i3,by have:=pP hb;show(v5.length:Int)=n;omega⟩)
 have hb:=mI hb
 obtain⟨b,c',e,b0,b1,hc⟩:=AP i2
 refine Wp.call (Wp.of (Q:=λr=>dM r.2/\0<=r.1/\r.1<=255) e ⟨hc,b0,b1⟩) λr hr=>?_
 refine Wp.ok (gk (by simp;omega) (by simp;omega)) (Wp.some ⟨⟨⟨?_,?_⟩,hr.1,?_,?_⟩,?_⟩)
 all_goals simp only[bO (show-9223372036854775808<=v1+1/\v1+1<=9223372036854775807 by omega)]
 .omega
 .omega
 .intro x hx
  rcases aac.1 hx with hx|hx
  .exact i3 x hx
  simp at hx;subst hx
  have e1:IntKind.u8.wrap r.1=r.1:=by rw[GD];omega
  rw[e1];exact hr.2
 .simp;omega
 omega
theorem Kf {P:α->Prop} {xs:List α} {a:α} (h:∀x∈xs,P x) (ha:P a):∀x∈xs.set i a,P x:=λx hx=>by
 rcases acS hx with h'|h'
 .exact h x h'
 rw[h'];exact ha
theorem U5 {v:List (Int×List Int)} (h1:v.length<=5) (h2:∀e∈v,e.2.length<=1000):gz (⟨v.map λe=>(⟨e.1,e.2⟩:fy)⟩:aS):=by
 refine⟨by show(v.map _).length<=_;simp;omega,λx hx=>?_⟩
 obtain⟨e,he,rfl⟩:=aa7.1 hx
 exact⟨by have:=h2 e he;show e.2.length<=_;omega,λ_ _=>trivial⟩
theorem wKey {c:bj} (h:dM c):Wp (Az c) (λr=>dM r.2):=by
 unfold Az
 exact Wp.call (ew h oaa) λr1 h1=>Wp.some h1.1
structure JM (v:List (Int×List Int)):Prop where
 ar:∀e∈v,0<=e.1/\e.1<=1
 rg:∀(i:Nat) e,v[i]?=some e->∀x∈e.2,0<=x/\x<v.length/\x≠i
 sy:∀(i j:Nat) e f,v[i]?=some e->v[j]?=some f->(j:Int)∈e.2->(i:Int)∈f.2
def Pp (v:List (Int×List Int)) (a b:Nat) (x y:Int×List Int):List (Int×List Int):=(v.set a (x.1,x.2++[(b:Int)])).set b (y.1,y.2++[(a:Int)])
theorem Bl {v:List (Int×List Int)} {a b:Nat} {x y:Int×List Int} (hx:v[a]?=some x) (hy:v[b]?=some y) (hab:a≠b) {e':Int×List Int} (h:(Pp v a b x y)[i]?=some e'):
 ∃e,v[i]?=some e/\e'.1=e.1/\∀z,z∈e'.2↔z∈e.2\/(i=a/\z=b)\/(i=b/\z=a):=by
 rcases oo h with⟨e1,e2⟩|⟨e1,e2⟩
 .subst e1;subst e2
  refine⟨y,hy,rfl,λz=>?_⟩
  simp only[aac,ab4]
  refine⟨λh=>?_,λh=>?_⟩
  .rcases h with h|h
   .exact .inl h
   exact .inr (.inr ⟨by trivial,h⟩)
  rcases h with h|h|h
  .exact .inl h
  .exact absurd h.1.symm hab
  exact .inr h.2
 rcases oo e2 with⟨e3,e4⟩|⟨e3,e4⟩
 .subst e3;subst e4
  refine⟨x,hx,rfl,λz=>?_⟩
  simp only[aac,ab4]
  refine⟨λh=>?_,λh=>?_⟩
  .rcases h with h|h
   .exact .inl h
   exact .inr (.inl ⟨by trivial,h⟩)
  rcases h with h|h|h
  .exact .inl h
  .exact .inr h.2
  exact absurd h.1 hab
 refine⟨e',e4,rfl,λz=>⟨.inl,λh=>?_⟩⟩
 rcases h with h|h|h
 .exact h
 .exact absurd h.1.symm e3
 exact absurd h.1.symm e1
theorem UB {v:List (Int×List Int)} (h:JM v) {a b:Nat} {x y:Int×List Int} (hx:v[a]?=some x) (hy:v[b]?=some y) (hab:a≠b):JM (Pp v a b x y):=by
 have ha:=(aaa.1 hx).1
 have hb:=(aaa.1 hy).1
 have hl:(Pp v a b x y).length=v.length:=by simp[Pp]
 refine⟨λe he=>?_,λi e he z hz=>?_,λi j e f he hf hj=>?_⟩
 .obtain⟨i,hi⟩:=aap he
  obtain⟨e0,h0,h1,_⟩:=Bl hx hy hab hi
  rw[h1];exact h.ar e0 (aab h0)
 .obtain⟨e0,h0,h1,h2⟩:=Bl hx hy hab he
  rw[hl]
  rcases(h2 z).1 hz with hz|hz|hz
  .exact h.rg i e0 h0 z hz
  .obtain⟨rfl,rfl⟩:=hz;omega
  obtain⟨rfl,rfl⟩:=hz;omega
 obtain⟨e0,h0,h1,h2⟩:=Bl hx hy hab he
 obtain⟨f0,g0,g1,g2⟩:=Bl hx hy hab hf
 rw[g2]
 rcases(h2 j).1 hj with hz|hz|hz
 .exact .inl (h.sy i j e0 f0 h0 g0 hz)
 .exact .inr (.inr ⟨by omega,by omega⟩)
 exact .inr (.inl ⟨by omega,by omega⟩)
theorem wJoinJ {v:List (Int×List Int)} {a b:Int} {B:Nat} (hB:B<=1000) (hv:∀e∈v,e.2.length<=B) (hj:JM v) (a0:0<=a) (a1:a<v.length) (b0:0<=b) (b1:b<v.length) (hab:a≠b):Wp (vG v a b) (λr=>(r.length=v.length/\∀e∈r,e.2.length<=B+2)/\JM r):=by
 obtain⟨i,rfl⟩:∃i:Nat,a=i:=⟨a.toNat,by omega⟩
 obtain⟨j,rfl⟩:∃j:Nat,b=j:=⟨b.toNat,by omega⟩
 obtain⟨x,hx⟩:∃x,v[i]?=some x:=⟨_,v0 oaa⟩
 obtain⟨y,hy⟩:∃y,v[j]?=some y:=⟨_,v0 oaa⟩
 have h1:=hv x (aab hx)
 have h2:=hv y (aab hy)
 have hy':(v.set i (x.1,x.2++[(j:Int)]))[j]?=some y:=by rw[abI,if_neg oaa];exact hy
 unfold vG
 rw[bp,hx]
 simp only[abX,abY]
 refine Wp.ok (gk (by simp;omega) (by simp;omega)) ?_
 rw[bp,hy']
 simp only[abX]
 refine Wp.ok (gk (by simp;omega) (by simp;omega)) (Wp.some ⟨⟨by simp,Kf (Kf (λe he=>by have:=hv e he;omega) (by simp;omega)) (by simp;omega)⟩,?_⟩)
 exact UB hj hx hy oaa
structure RW (n:Int) (e e':Int×List Int):Prop where
 a:e'.1=e.1
 m:∀z,z∈e'.2↔z∈e.2/\(0<=z/\z<n)
 o:e'.2.Pairwise λx y=>x<y
 l:(e'.2.length:Int)<=n
theorem NY {v w:List (Int×List Int)} (h:JM v) (hl:w.length=v.length) (h2:2<=v.length/\v.length<=5) (hw:∀(i:Nat) e,v[i]?=some e->∃e',w[i]?=some e'/\RW v.length e e'):pW (⟨w.map λe=>(⟨e.1,e.2⟩:fy)⟩:aS)=true:=by
 have hlen:(w.map λe=>(⟨e.1,e.2⟩:fy)).length=v.length:=by simp[hl]
 have get:∀(i:Nat) c,(w.map λe=>(⟨e.1,e.2⟩:fy))[i]?=some c->∃e e',v[i]?=some e/\w[i]?=some e'/\RW v.length e e'/\c=⟨e'.1,e'.2⟩:=by
  intro i c hc
  have hi:=(aaa.1 hc).1
  obtain⟨e,he⟩:∃e,v[i]?=some e:=⟨_,v0 oaa⟩
  obtain⟨e',he',hr⟩:=hw i e he
  rw[aaH,he'] at hc
  cases hc;exact⟨e,e',he,he',hr,rfl⟩
 simp only[pW,hV,bQ,eM,hlen]
 refine⟨by omega,λi c hc=>?_⟩
 obtain⟨e,e',he,he',hr,rfl⟩:=get i c hc
 have har:=h.ar e (aab he)
 simp only[yE,hV,bQ,eM,nbB,eL,hlen]
 refine⟨by rw[hr.a];omega,λk x hx=>?_⟩
 have hm:=aab hx
 have hme:=(hr.m x).1 hm
 have hrg:=h.rg i e he x hme.1
 obtain⟨j,rfl⟩:∃j:Nat,x=j:=⟨x.toNat,by omega⟩
 refine⟨by omega,by have:=hrg.2.2;simpa [eqB] using this,DT (key:=id) (by simpa using hr.o) hx,?_⟩
 obtain⟨f,hf⟩:∃f,v[j]?=some f:=⟨_,v0 oaa⟩
 obtain⟨f',hf',hrf⟩:=hw j f hf
 have hi:=(aaa.1 he).1
 have hs:=h.sy i j e f he hf hme.1
 simp only[AN,abY,aaH,hf',Option.map_some,aaD]
 exact⟨i,(hrf.m i).2 ⟨hs,by omega,by omega⟩,bR _⟩
theorem wDrawJ {c:bj} (h:dM c):Wp (zf c) (λr=>dM r.2/\((2<=r.1.length/\r.1.length<=5)/\∀e∈r.1,e.2.length<=200)/\pW (⟨r.1.map λe=>(⟨e.1,e.2⟩:fy)⟩:aS)=true):=by
 unfold zf
 refine Wp.call (ew h oaa) λr1 h1=>?_
 obtain⟨n,hn⟩:∃n:Int,n=WR (2+r1.1):=⟨_,rfl⟩
 have hn1:n=2+r1.1:=by rw[hn,bO oaa]
 refine Wp.call (P:=λx=>dM ⟨x.1,x.2.1,x.2.2.1⟩/\(x.2.2.2.length:Int)=n/\∀a∈x.2.2.2,0<=a/\a<=1) ?_ ?_
 .refine Wp.iterF (λx=>(0<=x.1/\x.1<=n)/\dM ⟨x.2.1,x.2.2.1,x.2.2.2.1⟩/\(x.2.2.2.2.length:Int)=x.1/\∀a∈x.2.2.2.2,0<=a/\a<=1) (λx=>(n-x.1).toNat) ⟨⟨by simp only;omega,by simp only;omega⟩,h1.1,by simp,by simp⟩ (by simp only;omega) ?_
  rintro⟨v2,v3,v4,v5,v6⟩ ⟨⟨i0,i1⟩,i2,i3,i4⟩
  simp only at i0 i1 i2 i3 i4
  simp only[Da,<-hn]
  refine Wp.cond (λhb=>?_) (λhb=>Wp.some ⟨i2,by have:=pP hb;show(v6.length:Int)=n;omega,i4⟩)
  have hb:=mI hb
  refine Wp.call (ew i2 oaa) λr12 h12=>Wp.ok (gk (by simp;omega) (by simp;omega)) (Wp.some ⟨⟨⟨?_,?_⟩,h12.1,?_,?_⟩,?_⟩)
  all_goals simp only[bO (show-9223372036854775808<=v2+1/\v2+1<=9223372036854775807 by omega)]
  .omega
  .omega
  .simp;omega
  .intro a ha
   rcases aac.1 ha with ha|ha
   .exact i4 a ha
   simp at ha;subst ha;omega
  omega
 rintro⟨v8,v9,v10,v11⟩ ⟨hc,hl,har⟩
 simp only at hc hl har
 refine Wp.call (P:=λx=>dM ⟨x.1,x.2.1,x.2.2.1⟩/\((x.2.2.2.length:Int)=n/\∀e∈x.2.2.2,e.2.length<=200)/\JM x.2.2.2) ?_ ?_
 .refine Wp.iterF (λx=>(1<=x.1/\x.1<=n)/\dM ⟨x.2.1,x.2.2.1,x.2.2.2.1⟩/\((x.2.2.2.2.length:Int)=n/\∀e∈x.2.2.2.2,e.2.length<=20*x.1.toNat)/\JM x.2.2.2.2) (λx=>(n-x.1).toNat) ⟨⟨by simp only;omega,by simp only;omega⟩,hc,⟨by simpa using hl,by simp⟩,⟨by simpa using har,λi e he x hx=>?_,λi j e f he hf hj=>?_⟩⟩ (by simp only;omega) ?_
  .simp only[aaH] at he
   cases hv:v11[i]?<;>rw[hv] at he<;>cases he;simp at hx
  .simp only[aaH] at he
   cases hv:v11[i]?<;>rw[hv] at he<;>cases he;simp at hj
  rintro⟨v13,v14,v15,v16,v17⟩ ⟨⟨i0,i1⟩,i2,⟨i3,i4⟩,i5⟩
  simp only at i0 i1 i2 i3 i4 i5
  simp only[Db,<-hn]
  refine Wp.cond (λhb=>?_) (λhb=>Wp.some ⟨i2,⟨i3,λe he=>by have:=i4 e he;show e.2.length<=200;omega⟩,i5⟩)
  have hb:=mI hb
  refine Wp.call (P:=λx=>dM ⟨x.1,x.2.1,x.2.2.1⟩/\((x.2.2.2.length:Int)=n/\∀e∈x.2.2.2,e.2.length<=20*v13.toNat+2*v13.toNat)/\JM x.2.2.2) ?_ ?_
  .refine Wp.iterF (λx=>(0<=x.1/\x.1<=v13)/\dM ⟨x.2.1,x.2.2.1,x.2.2.2.1⟩/\((x.2.2.2.2.length:Int)=n/\∀e∈x.2.2.2.2,e.2.length<=20*v13.toNat+2*x.1.toNat)/\JM x.2.2.2.2) (λx=>(v13-x.1).toNat) ⟨⟨by simp only;omega,by simp only;omega⟩,i2,⟨i3,by simpa using i4⟩,i5⟩ (by simp only;omega) ?_
   rintro⟨v43,v44,v45,v46,v47⟩ ⟨⟨j0,j1⟩,j2,⟨j3,j4⟩,j5⟩
   simp only at j0 j1 j2 j3 j4 j5
   simp only[Dc]
   refine Wp.cond (λhc=>?_) (λhc=>Wp.some ⟨j2,⟨j3,λe he=>by have:=j4 e he;have:=pP hc;show e.2.length<=_;omega⟩,j5⟩)
   have hc:=mI hc
   refine Wp.call (P:=λx=>dM ⟨x.2.1,x.2.2.1,x.2.2.2⟩) ?_ ?_
   .refine Wp.cond (λ_=>Wp.call (yG j2 oaa) λr62 h62=>?_) (λ_=>Wp.call (yG j2 oaa) λr64 h64=>Wp.some h64)
    exact Wp.cond (λ_=>Wp.some h62) (λ_=>Wp.call (yG h62 oaa) λr63 h63=>Wp.some h63)
   rintro⟨v58,v59,v60,v61⟩ hc2
   refine Wp.call (P:=λx=>((x.length:Int)=n/\∀e∈x,e.2.length<=20*v13.toNat+2*v43.toNat+2)/\JM x) ?_ ?_
   .refine Wp.cond (λ_=>Wp.call (wJoinJ (B:=20*v13.toNat+2*v43.toNat) oaa j4 j5 oaa oaa oaa oaa oaa) λr65 h65=>Wp.some ⟨⟨by rw[h65.1.1];exact j3,h65.1.2⟩,h65.2⟩) (λ_=>Wp.some ⟨⟨j3,λe he=>by have:=j4 e he;omega⟩,j5⟩)
   intro v62 h62
   refine Wp.some ⟨⟨⟨?_,?_⟩,hc2,⟨h62.1.1,λe he=>?_⟩,h62.2⟩,?_⟩
   all_goals simp only[bO (show-9223372036854775808<=v43+1/\v43+1<=9223372036854775807 by omega)]
   .omega
   .omega
   .have:=h62.1.2 e he;omega
   omega
  rintro⟨v55,v56,v57,v58⟩ ⟨k1,⟨k2,k3⟩,k4⟩
  simp only at k1 k2 k3 k4
  refine Wp.some ⟨⟨⟨?_,?_⟩,k1,⟨k2,λe he=>?_⟩,k4⟩,?_⟩
  all_goals simp only[bO (show-9223372036854775808<=v13+1/\v13+1<=9223372036854775807 by omega)]
  .omega
  .omega
  .have:=k3 e he;omega
  omega
 rintro⟨v40,v41,v42,v43⟩ ⟨hc,⟨hl,hb⟩,hj⟩
 simp only at hc hl hb hj
 have hn5:2<=v43.length/\v43.length<=5:=by omega
 refine Wp.call (P:=λx=>((x.length:Int)=n/\∀e∈x,e.2.length<=200)/\∀(i:Nat) e,v43[i]?=some e->∃e',x[i]?=some e'/\RW n e e') ?_ λv78 h78=>Wp.some ⟨hc,⟨by have:=h78.1.1;show 2<=v78.length/\v78.length<=5;omega,h78.1.2⟩,NY hj (by have:=h78.1.1;show v78.length=v43.length;omega) hn5 (by rw[hl];exact h78.2)⟩
 refine Wp.iterF (λx=>(0<=x.1/\x.1<=n)/\((x.2.length:Int)=n/\∀e∈x.2,e.2.length<=200)/\∀(i:Nat) e,v43[i]?=some e->∃e',x.2[i]?=some e'/\((i:Int)<x.1->RW n e e')/\(x.1<=(i:Int)->e'=e)) (λx=>(n-x.1).toNat) ⟨⟨by simp only;omega,by simp only;omega⟩,⟨hl,hb⟩,λi e he=>⟨e,he,λhi=>by simp only at hi;omega,λ_=>rfl⟩⟩ (by simp only;omega) ?_
 rintro⟨v66,v67⟩ ⟨⟨i0,i1⟩,⟨i3,i4⟩,i5⟩
 simp only at i0 i1 i3 i4 i5
 simp only[Dd,<-hn]
 refine Wp.cond (λhb=>?_) (λhb=>Wp.some ⟨⟨i3,i4⟩,λi e he=>?_⟩)
 rotate_left
 .obtain⟨e',h1,h2,h3⟩:=i5 i e he
  have hi:=(aaa.1 he).1
  have:=pP hb
  exact⟨e',h1,h2 oaa⟩
 have hb:=mI hb
 obtain⟨q,rfl⟩:∃q:Nat,v66=q:=⟨v66.toNat,by omega⟩
 obtain⟨e0,he0⟩:∃e0,v43[q]?=some e0:=⟨_,v0 oaa⟩
 obtain⟨eq',hq1,_,hq3⟩:=i5 q e0 he0
 have hq3:=hq3 (acM _)
 subst hq3
 have hl0:=i4 eq' (aab hq1)
 refine Wp.call (P:=λx=>(x.length:Int)<=n/\(∀z,z∈x↔z∈eq'.2/\(0<=z/\z<n))/\x.Pairwise λx y=>x<y) ?_ ?_
 .refine Wp.iterF (λx=>(0<=x.1/\x.1<=n)/\(x.2.length:Int)<=x.1/\(∀z,z∈x.2↔z∈eq'.2/\(0<=z/\z<x.1))/\x.2.Pairwise λx y=>x<y) (λx=>(n-x.1).toNat) ⟨⟨by simp only;omega,by simp only;omega⟩,by simp,λz=>by simp,by simp⟩ (by simp only;omega) ?_
  rintro⟨v79,v80⟩ ⟨⟨j0,j1⟩,j2,j3,j4⟩
  simp only at j0 j1 j2 j3 j4
  simp only[De,<-hn]
  refine Wp.cond (λhc=>?_) (λhc=>?_)
  rotate_left
  .have:=pP hc
   have e:v79=n:=by omega
   subst e
   exact Wp.some ⟨j2,j3,j4⟩
  have hc:=mI hc
  simp only[bp,hq1,abX,Um (show eq'.2.length<=1048576 by omega)]
  have key:(eq'.2.any λx=>eqB x v79)=true↔v79∈eq'.2:=by
   rw[aaD];exact⟨λ⟨x,h1,h2⟩=>by rw[<-pH h2];exact h1,λh=>⟨v79,h,bR _⟩⟩
  refine Wp.call (P:=λx=>(x.length:Int)<=v79+1/\(∀z,z∈x↔z∈eq'.2/\(0<=z/\z<v79+1))/\x.Pairwise λx y=>x<y) ?_ λx hx=>Wp.some ⟨⟨⟨?_,?_⟩,?_,?_,hx.2.2⟩,?_⟩
  .refine Wp.cond (λhh=>Wp.ok (gk (by simp;omega) (by simp;omega)) (Wp.some ⟨by simp;omega,λz=>?_,?_⟩)) (λhh=>Wp.some ⟨by omega,λz=>?_,j4⟩)
   .have:=key.1 hh
    rw[aac,j3 z]
    constructor
    .rintro(h|h)
     .exact⟨h.1,by omega⟩
     simp at h;subst h;exact⟨this,by omega⟩
    rintro⟨h1,h2⟩
    by_cases e:z=v79
    .exact .inr (by simp[e])
    exact .inl ⟨h1,by omega⟩
   .refine ab3.2 ⟨j4,by simp,λx hx y hy=>?_⟩
    simp at hy;subst hy
    exact((j3 x).1 hx).2.2
   rw[j3 z]
   constructor
   .rintro⟨h1,h2⟩;exact⟨h1,by omega⟩
   rintro⟨h1,h2⟩
   refine⟨h1,h2.1,?_⟩
   by_cases e:z=v79
   .subst e;rw[key.2 h1] at hh;cases hh
   omega
  all_goals simp only[bO (show-9223372036854775808<=v79+1/\v79+1<=9223372036854775807 by omega)]
  .omega
  .omega
  .exact hx.1
  .exact hx.2.1
  omega
 intro v84 h84
 simp only[bp,hq1,abX,abY]
 refine Wp.some ⟨⟨⟨?_,?_⟩,⟨by simpa using i3,Kf i4 (by have:=h84.1;show v84.length<=200;omega)⟩,λi e he=>?_⟩,?_⟩
 all_goals simp only[bO (show-9223372036854775808<=(q:Int)+1/\(q:Int)+1<=9223372036854775807 by omega)]
 .omega
 .omega
 .obtain⟨e',h1,h2,h3⟩:=i5 i e he
  by_cases hi:q=i
  .subst hi
   rw[he0] at he;cases he
   exact⟨(eq'.1,v84),by simp[(aaa.1 hq1).1],λ_=>⟨rfl,h84.2.1,h84.2.2,h84.1⟩,λh=>by omega⟩
  exact⟨e',by rw[abI,if_neg hi];exact h1,λh=>h2 oaa,λh=>h3 oaa⟩
 omega
theorem Wk {c:bj} (h:dM c):Wp (BI c) (λr=>dM r.2/\gz r.1/\pW r.1=true):=by
 unfold BI
 exact Wp.call (wDrawJ h) λr hr=>Wp.some ⟨hr.1,U5 hr.2.1.1.2 (λe he=>by have:=hr.2.1.2 e he;omega),hr.2.2⟩
theorem Ef {τ ρ:Type} {L:τ->Option (ct τ ρ)} (mk:Nat->τ) (xs:List α) (p:Nat->α->Bool) (f:ρ) (c:Option ρ) (hl:xs.length<=9223372036854775806)
 (hs:∀(k:Nat) (x:α),xs[k]?=some x->k<xs.length->L (mk k)=bif p k x then some (.next (mk (k+1))) else some (.done f)) (he:L (mk xs.length)=dn c):
 iter L FU (mk 0)=bif fP p xs then c else some f:=by
 have:=eG (step:=L) xs.zipIdx (λk (_:Unit)=>mk k) (λ_ y=>bif p y.2 y.1 then some (.next ()) else some (.done f)) (λ_=>c) (by simpa using hl)
  (λk y s hy hk=>by
   have hk':k<xs.length:=by simpa using hk
   have:y=(xs[k],k):=by rw[v0 hk] at hy;simpa using hy.symm
   subst this
   rw[hs k xs[k] (v0 hk') hk'];cases p k xs[k]<;>rfl) (λs=>by rw[List.length_zipIdx,he]) ()
 refine Eq.trans (show iter L FU (mk 0)=_ from this) ?_
 have key:∀ys:List (α×Nat),kj (λ(_:Unit) y=>bif p y.2 y.1 then some (.next ()) else some (ct.done f)) (λ_=>c) ys ()=bif ys.all (λy=>p y.2 y.1) then c else some f:=by
  intro ys
  induction ys with
  |nil=>rfl
  |cons x xs ih=>rw[kj];cases hp:p x.2 x.1<;>simp[hp,ih]
 exact key _
theorem B3 (xs:List α):fP (λ_ _=>true) xs=true:=eM.2 λ_ _ _=>rfl
theorem Mr {m:aS} (h:gz m):qI m=some m:=by
 have hl:=h.1
 have:=Ef (L:=kf m) (λk=>((k:Int),m.a8.take k)) m.a8 (λ_ _=>true) m.a8 (some m.a8) oaa (λk x hx hk=>by
  have hm:=aab hx
  have h1:=(h.2 x hm).1
  have e:m.a8.take (k+1)=m.a8.take k++[x]:=by rw[acg,hx];rfl
  simp only[kf,cI hk,bp,hx,aa8,e,WRs (k:=k),
   gk (b:=8) (n:=x.cF.length) oaa oaa,
   gk (b:=32) (n:=(m.a8.take k++[(⟨x.f6,x.cF⟩:fy)]).length) (by simp;omega) (by simp;omega),au]) (by simp[kf])
 rw[B3] at this
 have this:iter (kf m) FU (0,[])=some m.a8:=by simpa using this
 rw[qI,this];rfl
def As (x y:aO):Bool:=eqB x.ID.dZ y.ID.dZ&&(eqB x.ID.bW y.ID.bW&&true)
theorem R4 (x y:aO):As x y=(eqB x.ID.dZ y.ID.dZ&&(eqB x.ID.bW y.ID.bW&&true)):=rfl
def C6 (rs:List aO) (k:Nat) (x:aO):Bool:=tF x&&fP (λ_ y=>!As y x) (rs.take k)
def uH (rs:List aO):Bool:=fP (C6 rs) rs&&leB (rs.length:Int) 4
theorem MG {xs:List α} (h:(xs.take k)[i]?=some x):xs[i]?=some x/\i<k:=by
 rw[aat] at h
 split at h
 .exact⟨h,by assumption⟩
 cases h
theorem NU {rs:List aO} (hl:rs.length<=1000):uy rs=some (uH rs):=by
 have h2:∀(i:Nat) (x:aO),rs[i]?=some x->iter (pp rs (i:Int)) FU 0=bif fP (λ_ y=>!As y x) (rs.take i) then some (.next ((i+1:Nat):Int)) else some (.done false):=by
  intro i x hx
  have hi:=(aaa.1 hx).1
  have hlt:(rs.take i).length=i:=by simp;omega
  refine lD (rs.take i) (λ_ y=>!As y x) (ct.done false) _ oaa (λk y hy hk=>?_) (by simp[pp,hlt,WRs (k:=i)])
  obtain⟨hy',hki⟩:=MG hy
  simp only[pp,cI hki,bp,hx,hy',WRs (k:=k),<-R4,au]
  cases As y x<;>rfl
 have hL:iter (pm rs) FU 0=bif fP (C6 rs) rs then some (leB (rs.length:Int) 4) else some false:=by
  refine lD rs (C6 rs) false _ oaa (λk x hx hk=>?_) (by simp[pm])
  simp only[pm,cI hk,bp,hx,Vo,h2 k x hx,C6,au]
  cases tF x<;>cases fP (λ_ y=>!As y x) (rs.take k)<;>rfl
 simp only[uy,hL,uH]
 cases fP (C6 rs) rs<;>rfl
def uN (c:Nat) (rs:List aO) (j:Nat):aJ:=⟨⟨(rs.getD j default).ID,(rs.getD j default).fo,(rs.getD j default).c8⟩,0,abV (j:Int) (c:Int),0,0,0,false,0,⟨1,[],[]⟩⟩
def nh (p:bP) (rs:List aO) (j:Nat):ah:=⟨rs.getD j default,p,0,⟨0,0,0,0,0⟩,0,0,0,0,0,0,⟨0,0,0⟩,[],⟨1,[]⟩,0,⟨(j:Int),0,0⟩⟩
def AO (b:Int):Int:=bif inR b 0 100000 then b else 0
def zp (b:Int):am:=⟨AO b,AO b,0,[]⟩
def iG (m:aS) (rs:List aO) (p:bP) (b:Int) (n:Nat):ab:=
 ⟨m,(f4 n).map (uN m.a8.length rs),(f4 n).map (nh p rs),(f4 n).map (λ_=>zp b),[],0,⟨2,3⟩,0,0⟩
def zeroN:ab:=⟨⟨[]⟩,[],[],[],[],0,⟨0,0⟩,0,0⟩
theorem acc_s (b:Int):ug b=some (zp b):=by
 simp only[ug,fY,abX,zp,AO];cases inR b 0 100000<;>rfl
theorem ses_s {p:bP} (h:eO p) (x:aO) (k:Int):ui x p k=some (⟨x,p,0,⟨0,0,0,0,0⟩,0,0,0,0,0,0,⟨0,0,0⟩,[],⟨1,[]⟩,0,⟨k,0,0⟩⟩:ah):=by
 have h1:=h.1
 simp only[ui,vM,aa8,gk (b:=8) (n:=p.bJ.length) oaa oaa,au];rfl
theorem Xa (c:lC) (k:Int):wE c k=some (⟨c,0,k,0,0,0,false,0,⟨1,[],[]⟩⟩:aJ):=by rw[wE];rfl
theorem RG (f:Nat->α) (k:Nat):(f4 (k+1)).map f=(f4 k).map f++[f k]:=by rw[List.range_succ,abb];rfl
theorem Pb [Inhabited α] {xs:List α} (h:xs[k]?=some x):xs.getD k default=x:=by rw[abl,h];rfl
def mkN (m:aS) (rs:List aO) (p:bP) (b:Int) (k:Nat):Int×List am×List ah×List aJ:=((k:Int),(iG m rs p b k).bk,(iG m rs p b k).aF,(iG m rs p b k).av)
theorem new_s {m:aS} (hm:gz m) {rs:List aO} (hl:rs.length<=1000) {p:bP} (hp:eO p) (b:Int):
 uh m rs p b=some (bif pW m&&(qL p&&uH rs) then iG m rs p b rs.length else zeroN):=by
 simp only[uh,YY hm,VY hp,NU hl,abX]
 cases hv:pW m with
 |false=>rfl
 |true=>
  cases qL p with
  |false=>rfl
  |true=>
   cases uH rs with
   |false=>rfl
   |true=>
    have hc:1<=m.a8.length:=by
     simp only[pW,hV] at hv
     have:=bQ.1 hv.1;omega
    have hz:eqB (m.a8.length:Int) 0=false:=eqB_f.2 oaa
    have:=Ef (L:=o3 m rs p b) (mkN m rs p b) rs (λ_ _=>true) ((iG m rs p b rs.length).bk,(iG m rs p b rs.length).aF,(iG m rs p b rs.length).av) (some ((iG m rs p b rs.length).bk,(iG m rs p b rs.length).aF,(iG m rs p b rs.length).av)) oaa (λk x hx hk=>by
     simp only[mkN,iG,o3,cI hk,bp,hx,hz,Xa,de,ses_s hp,acc_s,WRs (k:=k),RG,
      gk (b:=144) (n:=((f4 k).map (uN m.a8.length rs)++[(⟨⟨x.ID,x.fo,x.c8⟩,0,abV (k:Int) (m.a8.length:Int),0,0,0,false,0,⟨1,[],[]⟩⟩:aJ)]).length) (by simp;omega) (by simp;omega),
      gk (b:=288) (n:=((f4 k).map (nh p rs)++[(⟨x,p,0,⟨0,0,0,0,0⟩,0,0,0,0,0,0,⟨0,0,0⟩,[],⟨1,[]⟩,0,⟨(k:Int),0,0⟩⟩:ah)]).length) (by simp;omega) (by simp;omega),
      gk (b:=48) (n:=((f4 k).map (λ_=>zp b)++[(⟨(zp b).eE,(zp b).bz,(zp b).eg,[]⟩:am)]).length) (by simp;omega) (by simp;omega),uN,nh,Pb hx,au]
     rfl) (by simp[mkN,o3])
    rw[B3] at this
    simp only[Bool.and_self,Mr hm,au]
    rw[show((0:Int),([]:List am),([]:List ah),([]:List aJ))=mkN m rs p b 0 from rfl,this]
    rfl
section
variable {m:aS} {rs:List aO} {p:bP} {b:Int}
theorem w0:WR 0=0:=bO oaa
theorem w1:WR 1=1:=bO oaa
theorem okN (hm:gz m) (hp:eO p) (hl:rs.length<=1000):iN (iG m rs p b rs.length):=by
 refine⟨hm,⟨by simp[iG];omega,λx hx=>?_⟩,⟨by simp[iG];omega,λx hx=>?_⟩,⟨by simp[iG];omega,λx hx=>?_⟩,⟨by simp[iG],λx hx=>by simp[iG] at hx⟩⟩
 .obtain⟨k,_,rfl⟩:=aa7.1 hx
  exact⟨⟨by simp[uN],by simp[uN]⟩,⟨by simp[uN],by simp[uN]⟩⟩
 .obtain⟨k,_,rfl⟩:=aa7.1 hx
  exact⟨hp,⟨by simp[nh],by simp[nh]⟩,⟨by simp[nh],by simp[nh]⟩⟩
 obtain⟨k,_,rfl⟩:=aa7.1 hx
 exact⟨by simp[zp],λ_ _=>trivial⟩
theorem H9 (f:Nat->α) {n:Nat} (hk:k<n):((f4 n).map f)[k]?=some (f k):=by simp[hk]
theorem yi {f:Nat->α} {n:Nat} (h:((f4 n).map f)[k]?=some x):k<n/\x=f k:=by
 rw[aaH] at h
 by_cases hk:k<n
 .simp[hk] at h;exact⟨hk,h.symm⟩
 simp[hk] at h
theorem Zr (b:Int):0<=AO b/\AO b<=100000:=by
 unfold AO
 cases h:inR b 0 100000 with
 |false=>simp
 |true=>simpa using bQ.1 h
variable (H:pW m=true/\qL p=true/\uH rs=true)
include H
theorem Es:1<=m.a8.length/\m.a8.length<=6:=by
 obtain⟨hv,hs,hr⟩:=id H
 simp only[pW,hV] at hv
 have:=bQ.1 hv.1;omega
theorem P7 (hk:k<rs.length):tF (rs.getD k default)=true:=by
 obtain⟨hv,hs,hr⟩:=id H
 simp only[uH,hV] at hr
 have:=eM.1 hr.1 k _ (v0 hk)
 simp only[C6,hV] at this
 rw[abl,v0 hk]
 exact this.1
theorem Vp:rs.length<=4:=by
 obtain⟨hv,hs,hr⟩:=id H
 simp only[uH,hV] at hr
 have:=zt hr.2;omega
theorem Zy (hk:k<rs.length):lA (uN m.a8.length rs k)=true:=by
 obtain⟨hv,hs,hr⟩:=id H
 have h1:=P7 H hk
 obtain⟨c1,c2⟩:=Es H
 have h2:=D4 (v:=(k:Int)) (n:=(m.a8.length:Int)) oaa oaa
 simp only[tF,hV] at h1
 simp only[lA,uN,tx,h1.1,h1.2.1,h1.2.2,bQ.2 (show(0:Int)<=abV (k:Int) (m.a8.length:Int)/\abV (k:Int) (m.a8.length:Int)<=5 from⟨h2.1,by omega⟩),ab6,ab5]
 simp[inR,leB,nU,pz,AE,fP,eqB,w1]
theorem ses_in (hk:k<rs.length):jp (nh p rs k)=true:=by
 obtain⟨hv,hs,hr⟩:=id H
 have h1:=P7 H hk
 have hq:jy (⟨(k:Int),0,0⟩:cP)=true:=by simp[jy,leB]
 simp only[jp,nh,h1,hs,hq,ab6]
 have hp:uc (nh p rs k)=true:=by
  simp[uc,nh,L8,hq,ya,w0,leB]
 simp only[nh] at hp
 rw[hp]
 simp[inR,leB,ltB,nU,kz,jI,Fi,AE,fP,eqB,w1]
theorem Te:iV (zp b)=true:=by
 obtain⟨hv,hs,hr⟩:=id H
 obtain⟨b1,b2⟩:=Zr b
 simp only[iV,zp,Sn,So,List.foldl_nil,Int.add_zero,bO (show-9223372036854775808<=AO b/\AO b<=9223372036854775807 by omega),bQ.2 (show(0:Int)<=AO b/\AO b<=100000 from⟨b1,b2⟩),bQ.2 (show(0:Int)<=AO b/\AO b<=AO b from⟨b1,by omega⟩),bQ.2 (show(0:Int)<=0/\(0:Int)<=AO b from⟨by omega,b1⟩),bR,ab6,ab5]
 simp[leB,fP]
theorem Z3 (hk:k<rs.length):wu (iG m rs p b rs.length) k (uN m.a8.length rs k)=true:=by
 obtain⟨hv,hs,hr⟩:=id H
 obtain⟨c1,c2⟩:=Es H
 have h2:=D4 (v:=(k:Int)) (n:=(m.a8.length:Int)) oaa oaa
 have hq:jy (⟨(k:Int),0,0⟩:cP)=true:=by simp[jy,leB]
 have e1:(iG m rs p b rs.length).aF[k]?=some (nh p rs k):=H9 _ hk
 have e2:(iG m rs p b rs.length).bk[k]?=some (zp b):=H9 _ hk
 have i1:Fa (uN m.a8.length rs k) (nh p rs k)=true:=by simp[Fa,uN,nh]
 have i2:eL (iG m rs p b rs.length).ei (uN m.a8.length rs k).bg=true:=bQ.2 (show(0:Int)<=abV (k:Int) (m.a8.length:Int)/\abV (k:Int) (m.a8.length:Int)<=(m.a8.length:Int)-1 from⟨h2.1,by omega⟩)
 have i3:eL (iG m rs p b rs.length).ei (nh p rs k).bg=true:=bQ.2 (show(0:Int)<=0/\(0:Int)<=(m.a8.length:Int)-1 from⟨by omega,by omega⟩)
 have i4:wZ (zp b) (nh p rs k).bU=true:=by
  have ha:=Te (b:=b) H
  simp only[zp] at ha
  simp[wZ,ha,nh,hq,it,zp,eqB]
 have i5:eqB (nh p rs k).bU.aC (k:Int)=true:=by simp[nh]
 simp only[wu,e1,e2,Zy H hk,ses_in H hk,Te (b:=b) H,i1,i2,i3,i4,i5,ab5]
theorem net_in:nm (iG m rs p b rs.length)=true:=by
 obtain⟨hv,hs,hr⟩:=id H
 obtain⟨c1,c2⟩:=Es H
 have hl:=Vp H
 have he:z8 (iG m rs p b rs.length)=true:=by
  have:∀c:Nat,1<=c->c<=6->inR 0 0 (WR ((md .i64 1 (c:Int))-1))=true:=by
   intro c h1 h2
   rcases(show c=1\/c=2\/c=3\/c=4\/c=5\/c=6 by omega) with rfl|rfl|rfl|rfl|rfl|rfl<;>kernel_rfl
  simp only[z8,iG,this _ c1 c2,ab6];simp[inR,leB]
 have hp:kh (iG m rs p b rs.length).ev=true:=by show kh ⟨2,3⟩=true;kernel_rfl
 have ha:fP (wu (iG m rs p b rs.length)) (iG m rs p b rs.length).av=true:=eM.2 λk d hd=>by
  obtain⟨hk,rfl⟩:=yi hd
  exact Z3 H hk
 have hd:(iG m rs p b rs.length).av.length=rs.length:=by simp[iG]
 have hse:(iG m rs p b rs.length).aF.length=rs.length:=by simp[iG]
 have hac:(iG m rs p b rs.length).bk.length=rs.length:=by simp[iG]
 simp only[nm,show pW (iG m rs p b rs.length).ei=true from hv,hp,ha,he,hd,hse,hac,bR,leB_t.2 (show(rs.length:Int)<=4 by omega),ab6,ab5]
 simp[iG,leB,eqB]
end
theorem B5:∀(l:List Int) (r:ByteArray),(l.foldl (λr n=>r.push (UInt8.ofNat n.toNat)) r).data.toList=r.data.toList++l.map λn=>UInt8.ofNat n.toNat
 |[],r=>by simp
 |x::l,r=>by
  rw[List.foldl_cons,B5 l,aaB]
  simp[ByteArray.push]
theorem Tu {a b:List Int} (ha:okB a) (hb:okB b) (h:xo a=xo b):a=b:=by
 have h1:=B5 a ByteArray.empty
 have h2:=B5 b ByteArray.empty
 have e:(a.foldl (λr n=>r.push (UInt8.ofNat n.toNat)) ByteArray.empty).data.toList=(b.foldl (λr n=>r.push (UInt8.ofNat n.toNat)) ByteArray.empty).data.toList:=by
  have:xo a=xo b:=h
  unfold xo at this;rw[this]
 rw[h1,h2] at e
 replace e:=List.append_cancel_left e
 clear h h1 h2
 induction a generalizing b with
 |nil=>cases b with
  |nil=>rfl
  |cons y b=>simp at e
 |cons x a ih=>cases b with
  |nil=>simp at e
  |cons y b=>
   simp only[aaB,List.cons.injEq] at e
   have hx:=ha x (by simp)
   have hy:=hb y (by simp)
   have e1:=congrArg UInt8.toNat e.1
   simp only[ye] at hx hy
   rw[UInt8.toNat_ofNat',UInt8.toNat_ofNat'] at e1
   rw[ih (λz hz=>ha z (by simp[hz])) (λz hz=>hb z (by simp[hz])) e.2,show x=y by omega]
theorem Yq {a b:List Int} (ha:okB a) (hb:okB b):strB (xo a) (xo b)=decide (a=b):=by
 rw[abZ,strB_t,decide_eq_true_eq]
 exact⟨Tu ha hb,λh=>by rw[h]⟩
theorem X1 {x y:ax} (hx:okB x.bC.bb) (hy:okB y.bC.bb):ud x y=some (decide (x=y)):=by
 have key:(bif eqB x.ag y.ag then bif eqB x.aX y.aX then bif eqB x.bC.cY y.bC.cY then bif eqB x.bC.fU y.bC.fU then bif eqB x.bC.jE y.bC.jE then decide (x.bC.bb=y.bC.bb) else false else false else false else false else false)=decide (x=y):=by
  rw[abZ]
  obtain⟨g,e,⟨a,b,c,d⟩⟩:=x
  obtain⟨g',e',⟨a',b',c',d'⟩⟩:=y
  simp only[eqB,cond_eq_ite]
  simp only[decide_eq_true_eq,ax.mk.injEq,bv.mk.injEq]
  constructor
  .intro h
   split at h<;>try (cases h;done)
   split at h<;>try (cases h;done)
   split at h<;>try (cases h;done)
   split at h<;>try (cases h;done)
   split at h<;>try (cases h;done)
   simp_all
  rintro⟨rfl,rfl,rfl,rfl,rfl,rfl⟩;simp
 rw[<-key]
 simp only[ud,uT,qD,Yq hx hy]
 cases eqB x.ag y.ag<;>cases eqB x.aX y.aX<;>cases eqB x.bC.cY y.bC.cY<;>cases eqB x.bC.fU y.bC.fU<;>cases eqB x.bC.jE y.bC.jE<;>rfl
def VO (a b:aH):Bool:=(eqB a.bh b.bh&&(eqB a.bg b.bg&&(eqB a.ag b.ag&&(eqB a.aX b.aX&&(eqB a.bW b.bW&&(eqB a.cm.eC b.cm.eC&&(eqB a.cm.gm b.cm.gm&&(eqB a.cm.jE b.cm.jE&&(eqB a.cm.yI b.cm.yI&&(eqB a.cm.fo b.cm.fo&&(eqB a.jE b.jE&&true)))))))))))
theorem Ym (a b:aH):VO a b=decide (a=b):=by
 rw[abZ]
 obtain⟨a1,a2,a3,a4,a5,⟨v1,v2,v3,v4,v5⟩,a6⟩:=a
 obtain⟨b1,b2,b3,b4,b5,⟨w1,w2,w3,w4,w5⟩,b6⟩:=b
 simp only[VO,hV,eqB_t,decide_eq_true_eq,aH.mk.injEq,cE.mk.injEq]
 constructor
 .rintro⟨rfl,rfl,rfl,rfl,rfl,rfl,rfl,rfl,rfl,rfl,rfl,_⟩;simp
 rintro⟨rfl,rfl,rfl,rfl,rfl,⟨rfl,rfl,rfl,rfl,rfl⟩,rfl⟩;simp
theorem same_s {x y:bS} (hx:okB x.cA.bC.bb) (hy:okB y.cA.bC.bb):pt x y=some (decide (x=y)):=by
 have key:(eqB x.bm y.bm&&(booB x.eW y.eW&&(booB x.ef y.ef&&(eqB x.bg y.bg&&(VO x.bA y.bA&&decide (x.cA=y.cA))))))=decide (x=y):=by
  rw[abZ]
  obtain⟨a1,a2,a3,a4,a5,a6⟩:=x
  obtain⟨b1,b2,b3,b4,b5,b6⟩:=y
  simp only[Ym,hV,eqB_t,booB_t,decide_eq_true_eq,bS.mk.injEq]
 rw[<-key]
 simp only[pt,X1 hx hy,abX]
 rw[show(eqB x.bA.bh y.bA.bh&&(eqB x.bA.bg y.bA.bg&&(eqB x.bA.ag y.bA.ag&&(eqB x.bA.aX y.bA.aX&&(eqB x.bA.bW y.bA.bW&&(eqB x.bA.cm.eC y.bA.cm.eC&&(eqB x.bA.cm.gm y.bA.cm.gm&&(eqB x.bA.cm.jE y.bA.cm.jE&&(eqB x.bA.cm.yI y.bA.cm.yI&&(eqB x.bA.cm.fo y.bA.cm.fo&&(eqB x.bA.jE y.bA.jE&&true)))))))))))=VO x.bA y.bA from rfl]
 cases eqB x.bm y.bm<;>cases booB x.eW y.eW<;>cases booB x.ef y.ef<;>cases eqB x.bg y.bg<;>cases VO x.bA y.bA<;>rfl
def hUp (s:ah) (m:aH):Bool:=
 bif eqB m.bh 3 then leB m.ag s.bE.c8&&(!eqB m.ag s.bL||!eqB m.bW s.aK.yI) else
 bif eqB m.bh 5||eqB m.bh 8 then ltB m.ag s.ag||(eqB m.ag s.ag&&!tw s.aZ m) else true
def HQ (d:aJ) (m:aH):Bool:=
 bif eqB m.bh 2 then eqB (ka d.dq.fo d.dq.dv m.cm) 1||eqB (ka d.dq.fo d.dq.dv m.cm) 2 else
 bif eqB m.bh 4||eqB m.bh 6 then ltB m.ag d.ag||(eqB m.ag d.ag&&!tw d.aZ m) else true
def Ll (d:aJ) (x:ax):Bool:=ltB x.ag d.ag||(eqB x.ag d.ag&&!w6 d.aZ x)
def Uk (n:ab) (f:bS):Bool:=match n.av[f.bm.toNat]?,n.aF[f.bm.toNat]? with
 |some d,some s=>bif f.ef then f.eW||Ll d f.cA else bif f.eW then hUp s f.bA else HQ d f.bA
 |_,_=>true
def sN (n:ab) (e:dN):Bool:=!eqB e.bh 13||(!zL n e.b8||(n.aT.any (λf=>decide (f=e.b8))||Uk n e.b8))
theorem hUp_s (s:ah) (m:aH):pw s m=some (hUp s m):=by
 simp only[pw,Ku,abX,hUp]
 cases eqB m.bh 3<;>cases eqB m.bh 5<;>cases eqB m.bh 8<;>cases leB m.ag s.bE.c8<;>cases eqB m.ag s.bL<;>cases ltB m.ag s.ag<;>cases eqB m.ag s.ag<;>rfl
theorem Xm {d:aJ} (m:aH):mA d m=some (HQ d m):=by
 simp only[mA,Ku,Qw,abX,HQ]
 cases eqB m.bh 2<;>cases eqB m.bh 4<;>cases eqB m.bh 6<;>cases eqB (ka d.dq.fo d.dq.dv m.cm) 1<;>cases ltB m.ag d.ag<;>cases eqB m.ag d.ag<;>rfl
theorem poss_s (h:NP B n) (f:bS):ky n f=some (zL n f):=by
 have hm6:=mr h.map
 have hl:=h.ld
 simp only[ky,zL,fY,bO (n:=(n.ei.a8.length:Int)-1) oaa,bO (n:=(n.av.length:Int)-1) oaa,abX]
 rw[show inR f.bg 0 ((n.ei.a8.length:Int)-1)=eL n.ei f.bg from rfl]
 cases ltB (n.aT.length:Int) 200<;>cases inR f.bm 0 ((n.av.length:Int)-1)<;>rfl
theorem Xp (h:NP B n) (he:EP e):ue n e=some (sN n e):=by
 have hfl:=h.fl
 simp only[ue,Rw h.okN,h.vn,poss_s h,abX,sN]
 cases eqB e.bh 13
 .rfl
 cases hp:zL n e.b8
 .rfl
 simp only[aaJ,au]
 simp only[zL,hV,bQ] at hp
 obtain⟨d,s,a,e1,e2,e3,hm⟩:=h.at_ (show e.b8.bm.toNat<n.av.length by omega)
 have hdev:=Nm e.b8.bm hp.2.1.1
 have i1:ix n.av e.b8.bm=some d:=by rw[hdev,bp];exact e1
 have i2:ix n.aF e.b8.bm=some s:=by rw[hdev,bp];exact e2
 have:=lD (L:=oU n e) n.aT (λ_ f=>!decide (f=e.b8)) true (some (Uk n e.b8)) oaa (λk x hx hk=>by
  have hx':=h.fs x (aab hx)
  simp only[oU,cI hk,bp,hx,same_s hx'.b he.r,WRs (k:=k),dn,au]
  cases decide (x=e.b8)<;>rfl) (by
  simp only[oU,ci,i1,i2,hUp_s,Xm,xl he.r,Uk,e1,e2,Ll,au]
  cases e.b8.ef<;>cases e.b8.eW<;>cases ltB e.b8.cA.ag d.ag<;>cases eqB e.b8.cA.ag d.ag<;>rfl)
 rw[this,sx]
 rw[show n.aT.all (λf=>!decide (f=e.b8))=!n.aT.any (λf=>decide (f=e.b8)) by rw[<-List.not_any_eq_all_not]]
 cases n.aT.any (λf=>decide (f=e.b8))<;>rfl
theorem wPlanV {c:bj} (h:dM c):Wp (BM c) (λr=>dM r.2/\r.1.bJ.length<=4/\qL r.1=true):=by
 unfold BM
 refine Wp.call (ew h oaa) λr1 h1=>Wp.call (ew h1.1 oaa) λr2 h2=>Wp.call (ew h2.1 oaa) λr3 h3=>?_
 refine Wp.call (P:=λx=>dM x.2/\x.1.length<=4/\(∀a∈x.1,0<=a/\a<=3)/\x.1.Pairwise λa b=>a<b) ?_ ?_
 .refine Wp.iterF (λx=>(0<=x.1/\x.1<=4)/\dM x.2.2/\(x.2.1.length:Int)<=x.1/\(∀a∈x.2.1,0<=a/\a<x.1)/\x.2.1.Pairwise λa b=>a<b) (λx=>(4-x.1).toNat) ⟨⟨by omega,by omega⟩,h3.1,by simp,by simp,by simp⟩ (by simp) ?_
  rintro⟨v4,v8,v9⟩ ⟨⟨i0,i1⟩,i2,i3,i4,i5⟩
  simp only at i0 i1 i2 i3 i4 i5
  simp only[Dg]
  refine Wp.cond (λhb=>?_) (λhb=>Wp.some ⟨i2,by show v8.length<=4;omega,λa ha=>by have:=i4 a ha;omega,i5⟩)
  have hb:=mI hb
  refine Wp.call (yG i2 oaa) λr15 h15=>?_
  refine Wp.call (P:=λx=>(x.length:Int)<=v4+1/\(∀a∈x,0<=a/\a<v4+1)/\x.Pairwise λa b=>a<b) ?_ λx hx=>Wp.some ⟨⟨⟨?_,?_⟩,h15,?_,?_,hx.2.2⟩,?_⟩
  .refine Wp.cond (λ_=>Wp.ok (gk (by simp;omega) (by simp;omega)) (Wp.some ⟨by simp;omega,λa ha=>?_,?_⟩)) (λ_=>Wp.some ⟨by omega,λa ha=>by have:=i4 a ha;omega,i5⟩)
   .rcases aac.1 ha with ha|ha
    .have:=i4 a ha;omega
    simp at ha;omega
   refine ab3.2 ⟨i5,by simp,λx hx y hy=>?_⟩
   simp at hy;have:=i4 x hx;omega
  all_goals simp only[bO (show-9223372036854775808<=v4+1/\v4+1<=9223372036854775807 by omega)]
  .omega
  .omega
  .exact hx.1
  .exact hx.2.1
  omega
 rintro⟨x,c2⟩ ⟨k1,k2,k3,k4⟩
 simp only at k1 k2 k3 k4
 refine Wp.some ⟨k1,k2,?_⟩
 simp only[qL,Cp,hV,bQ,eM]
 rw[bO (show-9223372036854775808<=1+r1.1/\1+r1.1<=9223372036854775807 by omega),bO (show-9223372036854775808<=1+r2.1/\1+r2.1<=9223372036854775807 by omega),bO (show-9223372036854775808<=1+r3.1/\1+r3.1<=9223372036854775807 by omega)]
 refine⟨⟨by omega,by omega,by omega⟩,λk a ha=>⟨k3 a (aab ha),DT (key:=id) (by simpa using k4) ha⟩⟩
theorem Wl {c:bj} (h:dM c):Wp (nD c) (λr=>dM r.2/\(1<=r.1.length/\r.1.length<=3)/\uH r.1=true/\∀y∈r.1,y.c8<=20):=by
 unfold nD
 refine Wp.call (ew h oaa) λr1 h1=>?_
 have hw:WR (1+r1.1)=1+r1.1:=bO oaa
 refine Wp.call (P:=λx=>dM x.2/\(x.1.length:Int)=1+r1.1/\∀(k:Nat) y,x.1[k]?=some y->tF y=true/\y.ID.bW=1+r1.1-k/\y.c8<=20) ?_ ?_
 .refine Wp.iterF (λx=>0<=x.1/\dM x.2.2/\(x.2.1.length:Int)+x.1=1+r1.1/\∀(k:Nat) y,x.2.1[k]?=some y->tF y=true/\y.ID.bW=1+r1.1-k/\y.c8<=20) (λx=>x.1.toNat) ⟨by rw[hw];omega,h1.1,by rw[hw];simp,by simp⟩ (by simp only;rw[hw];omega) ?_
  rintro⟨v2,v6,v7⟩ ⟨i0,i2,i3,i4⟩
  simp only at i0 i2 i3 i4
  simp only[tq]
  refine Wp.cond (λhb=>?_) (λhb=>Wp.some ⟨i2,by have:=pP hb;show(v6.length:Int)=_;omega,i4⟩)
  have hb:=mI hb
  have hkey:Wp (Az v7) (λr=>dM r.2/\nU r.1=true):=by
   unfold Az
   exact Wp.call (ew i2 oaa) λr1 h1=>Wp.some ⟨h1.1,bQ.2 (by rw[bO oaa];omega)⟩
  refine Wp.call hkey λr13 h13=>Wp.call (ew h13.1 oaa) λr14 h14=>Wp.ok (gk (by simp;omega) (by simp;omega)) (Wp.some ⟨⟨?_,h14.1,?_,λk y hy=>?_⟩,?_⟩)
  rotate_left 2
  .rw[List.getElem?_append] at hy
   split at hy
   .exact i4 k y hy
   rename_i hk
   have hk0:k-v6.length=0:=by
    have:=(aaa.1 hy).1
    simp at this;omega
   rw[hk0] at hy
   simp at hy;subst hy
   simp only[tF,GA,hV,bQ]
   exact⟨⟨⟨by omega,by omega⟩,h13.2,by omega⟩,by omega,by omega⟩
  all_goals simp only[bO (show-9223372036854775808<=v2-1/\v2-1<=9223372036854775807 by omega)]
  .omega
  .omega
  simp;omega
 rintro⟨x,c2⟩ ⟨k1,k2,k3⟩
 simp only at k1 k2 k3
 refine Wp.some ⟨k1,by show 1<=x.length/\x.length<=3;omega,?_,λy hy=>by obtain⟨k,hk⟩:=aap hy;exact(k3 k y hk).2.2⟩
 simp only[uH,hV,eM,C6]
 refine⟨λk y hy=>⟨(k3 k y hy).1,λi z hz=>?_⟩,leB_t.2 oaa⟩
 obtain⟨hz1,hz2⟩:=MG hz
 have e1:=(k3 k y hy).2.1
 have e2:=(k3 i z hz1).2.1
 have:eqB z.ID.bW y.ID.bW=false:=eqB_f.2 oaa
 simp[As,this]
inductive Reach:Nat->ab->Prop
 |new {m:aS} {rs:List aO} {p:bP} {b:Int} (h:pW m=true/\qL p=true/\uH rs=true) (hm:gz m) (hp:eO p) (hl:1<=rs.length/\rs.length<=3) (hq:∀y∈rs,y.c8<=20):Reach 0 (iG m rs p b rs.length)
 |step {k:Nat} {n:ab} {e:dN}:Reach k n->EP e->sN n e=true->Reach (k+1) (kv n e).2
def FSx (n:ab) (e:dN):Prop:=e.bh=13->e.b8.ef=true->e.b8.eW=false/\∃d,n.av[e.b8.bm.toNat]?=some d/\e.b8.cA.ag=d.ag/\w6 d.aZ e.b8.cA=false
theorem EL (n:ab) (h:e.bh≠13):FSx n e:=λh1=>absurd h1 h
inductive D8:Nat->ab->Prop
 |new {m:aS} {rs:List aO} {p:bP} {b:Int} (h:pW m=true/\qL p=true/\uH rs=true) (hm:gz m) (hp:eO p) (hl:1<=rs.length/\rs.length<=3) (hq:∀y∈rs,y.c8<=20):D8 0 (iG m rs p b rs.length)
 |step {k:Nat} {n:ab} {e:dN}:D8 k n->EP e->sN n e=true->FSx n e->D8 (k+1) (kv n e).2
theorem D8.re:∀{k:Nat} {n:ab},D8 k n->Reach k n
 |_,_,.new h hm hp hl hq=>.new h hm hp hl hq
 |_,_,.step h he hh _=>.step h.re he hh
theorem Reach.np:∀{k:Nat} {n:ab},Reach k n->k<=1000000->NP (10000*(k:Int)) n
 |_,_,.new (m:=m) (rs:=rs) (p:=p) (b:=b) h hm hp hl _,_=>by
  have ok:iN (iG m rs p b rs.length):=okN hm hp oaa
  have v:=net_in (b:=b) h
  have by':BY (iG m rs p b rs.length):=by
   refine⟨λd hd=>?_,λd hd=>?_,λs hs=>?_,λs hs=>?_,by simp[iG]⟩
   .simp only[iG,aa7] at hd;obtain⟨j,_,rfl⟩:=hd;simp[uN]
   .simp only[iG,aa7] at hd;obtain⟨j,_,rfl⟩:=hd;simp[uN]
   .simp only[iG,aa7] at hs;obtain⟨j,_,rfl⟩:=hs;simp[nh]
   simp only[iG,aa7] at hs;obtain⟨j,_,rfl⟩:=hs;simp[nh]
  exact(NP.of ok v by').mono (by show(0:Int)<=_;omega)
 |_,_,.step (k:=k) h he _,hk=>by
  have:=(Eg (h.np oaa) he oaa).2.2
  exact this.mono oaa
theorem A1 {k i c:Int} {b:List Int} (hb:okB b):EP ⟨k,i,c,b,fL⟩:=⟨hb,KC,λx hx=>by simp[fL,eF,mB] at hx⟩
theorem tN (n:ab) (h:e.bh≠13):sN n e=true:=by
 rw[sN,eqB_f.2 h];rfl
theorem XU (h:NP B n) (hs:n.aF[i]?=some s) (b:List Int):(kv n ⟨8,i,0,b,fL⟩).2={n with aF:=n.aF.set i (ta s b).1}:=by
 have hi:=(aaa.1 hs).1
 have hls:=h.ls
 obtain⟨d,s',a,e1,e2,e3,hm⟩:=h.at_ (show i<n.av.length by omega)
 have hr:inR (i:Int) 0 ((n.av.length:Int)-1)=true:=bQ.2 oaa
 simp only[kv]
 rw[if_neg (show ¬(8:Int)=1 by omega),if_neg (show ¬((8:Int)=2\/(8:Int)=3\/(8:Int)=4) by omega),if_pos (show(8:Int)=5\/(8:Int)=6\/(8:Int)=7\/True by simp)]
 simp only[Fr,hr,abY,e1,hs,L2,L3,L4,au]
 cases hb:(ta s b).2
 .have hs':(ta s b).1=s:=by
   revert hb;rw[ta];cases leB 24 (s.aG.length:Int)||ltB 60 (b.length:Int)
   .intro hb;cases hb
   intro _;rfl
  simp only[cond_false,hs',gY hs]
 rfl
theorem own_on (h:NP B n) {d:aJ} (hd:n.av[i]?=some d):(kv n ⟨5,i,0,[],fL⟩).2=gT n i (dOn d):=by
 have hi:=(aaa.1 hd).1
 obtain⟨d',s,a,e1,e2,e3,hm⟩:=h.at_ hi
 have hr:inR (i:Int) 0 ((n.av.length:Int)-1)=true:=bQ.2 oaa
 simp only[kv]
 rw[if_neg (show ¬(5:Int)=1 by omega),if_neg (show ¬((5:Int)=2\/(5:Int)=3\/(5:Int)=4) by omega),if_pos (show True\/(5:Int)=6\/(5:Int)=7\/(5:Int)=8 by simp)]
 simp only[Fr,hr,abY,hd,e2,bR,au]
 cases hb:eqB d.bi 0
 .simp only[gT,dOn,hb,gY hd,abd,au];rfl
 rfl
def RN (B:Nat) (l:Nat) (n:ab):Prop:=∃k,D8 k n/\k<=B/\n.av.length=l
theorem RN.np {B:Nat} (h:RN B l n) (hB:B<=1000000):∃b:Int,NP b n/\b<=10000000000:=by
 obtain⟨k,h1,h2,_⟩:=h
 exact⟨_,h1.re.np oaa,by omega⟩
theorem RN.sub {B:Nat} (h:RN B l n) (hB:B<=1000000) (hs:n.aF[i]?=some s) {b:List Int} (hb:okB b):RN (B+1) l {n with aF:=n.aF.set i (ta s b).1}:=by
 obtain⟨b',hn,_⟩:=h.np hB
 obtain⟨k,h1,h2,h3⟩:=h
 have:=D8.step h1 (A1 (k:=8) (i:=(i:Int)) (c:=0) hb) (tN n (by simp)) (EL n (by simp))
 rw[XU hn hs b] at this
 exact⟨_,this,by omega,h3⟩
theorem RN.on {B:Nat} (h:RN B l n) (hB:B<=1000000) {d:aJ} (hd:n.av[i]?=some d):RN (B+1) l (gT n i (dOn d)):=by
 obtain⟨b',hn,_⟩:=h.np hB
 obtain⟨k,h1,h2,h3⟩:=h
 have:=D8.step h1 (A1 (k:=5) (i:=(i:Int)) (c:=0) (b:=[]) (λx hx=>by simp at hx)) (tN n (by simp)) (EL n (by simp))
 rw[own_on hn hd] at this
 exact⟨_,this,by omega,by rw[(jw n i (dOn d)).1];exact h3⟩
def RZ (B:Nat) (l:Nat) (n:ab):Prop:=∃k,D8 k n/\k<=B/\n.av.length=l/\n.dy=0
theorem RZ.rn {B:Nat} (h:RZ B l n):RN B l n:=by
 obtain⟨k,h1,h2,h3,_⟩:=h;exact⟨k,h1,h2,h3⟩
theorem RZ.np {B:Nat} (h:RZ B l n) (hB:B<=1000000):∃b:Int,NP b n/\b<=10000000000:=h.rn.np hB
theorem RZ.sub {B:Nat} (h:RZ B l n) (hB:B<=1000000) (hs:n.aF[i]?=some s) {b:List Int} (hb:okB b):RZ (B+1) l {n with aF:=n.aF.set i (ta s b).1}:=by
 obtain⟨k,h1,h2,h3⟩:=h.rn.sub hB hs hb
 exact⟨k,h1,h2,h3,h.choose_spec.2.2.2⟩
theorem RZ.on {B:Nat} (h:RZ B l n) (hB:B<=1000000) {d:aJ} (hd:n.av[i]?=some d):RZ (B+1) l (gT n i (dOn d)):=by
 obtain⟨k,h1,h2,h3⟩:=h.rn.on hB hd
 exact⟨k,h1,h2,h3,(iU ((dOn d).dE.map (i6 i true)) {n with av:=n.av.set i (dOn d).bm}).2.2.2.2.1.trans h.choose_spec.2.2.2⟩
theorem YC {c:bj} (h:dM c):Wp (BR c) (λr=>dM r.2/\∃l,(1<=l/\l<=3)/\RZ 40 l r.1):=by
 unfold BR
 refine Wp.call (wPlanV h) λr1 h1=>?_
 have hp:eO r1.1:=⟨by have:=h1.2.1;omega,λ_ _=>trivial⟩
 refine Wp.call (P:=λx=>dM x.2.2.2.2.2.2.2.1/\∃l,(1<=l/\l<=3)/\RZ 0 l ⟨⟨x.2.2.2.2.2.2.1⟩,x.2.2.2.2.2.1,x.2.2.2.2.1,x.2.2.2.1,[],x.1,x.2.2.2.2.2.2.2.2,x.2.1,x.2.2.1⟩) ?_ ?_
 .refine Wp.call (Wk h1.1) λr16 h16=>Wp.call (Wl h16.1) λr17 h17=>Wp.call (ew h17.1 oaa) λr18 h18=>?_
  have hv:pW r16.1=true/\qL r1.1=true/\uH r17.1=true:=⟨h16.2.2,h1.2.2,h17.2.2.1⟩
  have hl:=h17.2.1
  rw[new_s h16.2.1 oaa hp,hv.1,hv.2.1,hv.2.2]
  refine Wp.some ⟨h18.1,r17.1.length,hl,0,?_,Nat.le_refl _,by simp[iG]⟩
  exact D8.new (b:=WR (30+r18.1)) hv h16.2.1 hp hl h17.2.2.2
 rintro⟨v5,v8,v9,v10,v11,v12,v13,v14,v15⟩ ⟨hc,l,hl,hr⟩
 simp only at hc hr
 refine Wp.call (P:=λx=>dM x.1/\RZ 40 l x.2) ?_ λx hx=>Wp.some ⟨hx.1,l,hl,hx.2⟩
 refine Wp.iterF (λx=>(0<=x.1/\x.1<=(l:Int))/\dM x.2.1/\RZ (7*x.1.toNat) l x.2.2) (λx=>((l:Int)-x.1).toNat) ⟨⟨by simp only;omega,by simp only;omega⟩,hc,hr⟩ (by simp only;omega) ?_
 rintro⟨v20,v34,n⟩ ⟨⟨i0,i1⟩,i2,i3⟩
 simp only at i0 i1 i2 i3
 obtain⟨b,hn,hb⟩:=i3.np oaa
 have hdl:n.av.length=l:=i3.choose_spec.2.2.1
 simp only[Gq]
 refine Wp.cond (λhb=>?_) (λhb=>Wp.some ⟨i2,?_⟩)
 rotate_left
 .obtain⟨k,g1,g2,g3⟩:=i3;exact⟨k,g1,by omega,g3⟩
 have hb:=mI hb
 obtain⟨q,rfl⟩:∃q:Nat,v20=q:=⟨v20.toNat,by omega⟩
 refine Wp.call (ew i2 oaa) λr117 h117=>?_
 refine Wp.call (P:=λx=>dM x.2/\RZ (7*q+6) l {n with aF:=x.1}) ?_ ?_
 .refine Wp.iterF (λx=>(0<=x.1/\x.1<=6)/\dM x.2.2/\RZ (7*q+(6-x.1.toNat)) l {n with aF:=x.2.1}) (λx=>x.1.toNat) ⟨⟨by simp only;omega,by simp only;omega⟩,h117.1,?_⟩ (by simp only;omega) ?_
  .obtain⟨k,g1,g2,g3⟩:=i3;exact⟨k,g1,by simp only[abY] at g2;omega,g3⟩
  rintro⟨v118,v122,v123⟩ ⟨⟨j0,j1⟩,j2,j3⟩
  simp only at j0 j1 j2 j3
  simp only[Gr]
  refine Wp.cond (λhc=>?_) (λhc=>Wp.some ⟨j2,?_⟩)
  rotate_left
  .obtain⟨k,g1,g2,g3⟩:=j3;exact⟨k,g1,by omega,g3⟩
  have hc:=mI hc
  obtain⟨b',hn',_⟩:=j3.np oaa
  have hls:=hn'.ls
  simp only at hls
  obtain⟨s,hs⟩:∃s,v122[q]?=some s:=⟨_,v0 oaa⟩
  obtain⟨d',s',a',e1,e2,e3,hm⟩:=hn'.at_ (i:=q) (by simp only;omega)
  simp only at e1 e2 e3
  rw[hs] at e2;cases e2
  simp only[bp,hs,abX]
  refine Wp.call (ew j2 oaa) λr135 h135=>Wp.call (Wm h135.1 h135.2.1 oaa) λr136 h136=>?_
  rw[Zd hm.sg.sp.ok]
  simp only[abX,abY]
  refine Wp.some ⟨⟨⟨?_,?_⟩,h136.1,?_⟩,?_⟩
  all_goals simp only[bO (show-9223372036854775808<=v118-1/\v118-1<=9223372036854775807 by omega)]
  .omega
  .omega
  .have:=j3.sub oaa (i:=q) hs h136.2.1
   obtain⟨k,g1,g2,g3⟩:=this
   exact⟨k,g1,by omega,g3⟩
  omega
 rintro⟨v132,v133⟩ ⟨k1,k2⟩
 simp only at k1 k2
 obtain⟨b',hn',_⟩:=k2.np oaa
 obtain⟨d,hd⟩:∃d,n.av[q]?=some d:=⟨_,v0 oaa⟩
 obtain⟨d',s',a',e1,e2,e3,hm⟩:=hn'.at_ (i:=q) (by simp only;omega)
 simp only at e1
 rw[hd] at e1;cases e1
 refine Wp.call (yG k1 oaa) λr139 h139=>?_
 refine Wp.call (P:=λx=>RZ (7*q+7) l x) ?_ λx hx=>Wp.some ⟨⟨⟨?_,?_⟩,h139,?_⟩,?_⟩
 .refine Wp.cond (λ_=>?_) (λ_=>Wp.some ?_)
  .simp only[bp,hd,on_s hm.dp.ok,abX,abY]
   have hlen:=(Nj d).len
   have:=eG (step:=tm (q:Int) (dOn d)) (dOn d).dE (λk n=>((k:Int),n)) (λn x=>abU (gq n (i6 (q:Int) true x)) λr=>some (.next r)) some oaa
    (λk x n hx hk=>by
     simp only[tm,cI hk,bp,hx,WRs (k:=k),i6,au]
     cases gq n ⟨(q:Int),true,false,x.bg,x,eF⟩<;>rfl) (λn=>by simp[tm]) {n with av:=n.av.set q (dOn d).bm,aF:=v132}
   rw[vf gq (i6 (q:Int) true) (λn x=>Bs (BH (q:Int) true x))] at this
   rw[show iter (tm (q:Int) (dOn d)) FU (0,{n with av:=n.av.set q (dOn d).bm,aF:=v132})=_ from this]
   exact Wp.some (k2.on oaa (i:=q) hd)
  obtain⟨k,g1,g2,g3⟩:=k2;exact⟨k,g1,by omega,g3⟩
 all_goals simp only[bO (show-9223372036854775808<=(q:Int)+1/\(q:Int)+1<=9223372036854775807 by omega)]
 .omega
 .omega
 .obtain⟨k,g1,g2,g3⟩:=hx;exact⟨k,g1,by omega,g3⟩
 omega
theorem w32New {c:bj} (h:dM c):Wp (BR c) (λr=>dM r.2/\∃l,(1<=l/\l<=3)/\RN 40 l r.1):=
 Wp.mono (YC h) λr ⟨h1,l,h2,h3⟩=>⟨h1,l,h2,h3.rn⟩
abbrev C2 {α:Type} (r:α×bj):Prop:=dM r.2
abbrev C1 {α:Type} (r:bj×α):Prop:=dM r.1
theorem OC {c:bj} (h:dM c):Wp (zj c) C2:=by
 unfold zj
 refine Wp.call (yG h oaa) λr1 h1=>Wp.cond (λ_=>Wp.call (YD h1 (by simp)) λr2 h2=>Wp.some h2.1) (λ_=>?_)
 refine Wp.call (yG h1 oaa) λr3 h3=>Wp.cond (λ_=>Wp.call (YD h3 (by simp)) λr2 h2=>Wp.some h2.1) (λ_=>?_)
 exact Wp.call (ew h3 oaa) λr5 h5=>Wp.call (ew h5.1 oaa) λr6 h6=>Wp.some h6.1
theorem w5Seq {c:bj} (h:dM c):Wp (Kn c) C2:=by
 unfold Kn
 refine Wp.call (yG h oaa) λr1 h1=>Wp.cond (λ_=>Wp.call (YD h1 (by simp)) λr2 h2=>Wp.some h2.1) (λ_=>?_)
 exact Wp.call (ew h1 oaa) λr5 h5=>Wp.some h5.1
theorem w5Vec {c:bj} (h:dM c):Wp (zk c) C2:=by
 unfold zk
 refine Wp.call (wKey h) λr1 h1=>Wp.call (ew h1 oaa) λr2 h2=>Wp.call (w5Seq h2.1) λr3 h3=>?_
 rw[Qy]
 simp only[abX]
 refine Wp.call (ew h3 oaa) λr5 h5=>?_
 refine Wp.call (P:=C1) ?_ λx hx=>Wp.some hx
 refine Wp.cond (λ_=>Wp.call (OC h5.1) λr h=>Wp.some h) (λ_=>?_)
 refine Wp.call (P:=C1) ?_ λx hx=>Wp.some hx
 refine Wp.cond (λ_=>Wp.call (YD h5.1 (by simp)) λr h=>Wp.some h.1) (λ_=>?_)
 refine Wp.call (P:=λ_=>True) (Wp.cond (λ_=>Wp.some trivial) (λ_=>Wp.some trivial)) λx _=>Wp.some h5.1
theorem w30 {c:bj} (h:dM c) (s:ah):Wp (wR c s) C2:=by
 unfold wR
 refine Wp.call (ew h oaa) λr1 h1=>Wp.call (ew h1.1 oaa) λr2 h2=>Wp.call (ew h2.1 oaa) λr3 h3=>Wp.call (ew h3.1 oaa) λr4 h4=>?_
 refine Wp.call (P:=C1) ?_ λx hx=>?_
 .refine Wp.cond (λ_=>Wp.some h4.1) (λ_=>?_)
  refine Wp.call (P:=C2) ?_ λx hx=>Wp.some hx
  refine Wp.cond (λ_=>?_) (λ_=>Wp.some h4.1)
  refine Wp.call (ew h4.1 oaa) λr17 h17=>Wp.call (ew h17.1 oaa) λr18 h18=>?_
  rw[LO];exact Wp.some h18.1
 obtain⟨v10,v11⟩:=x
 simp only[CG,abX]
 replace hx:dM _:=hx
 refine Wp.call (ew hx oaa) λr21 h21=>?_
 refine Wp.call (P:=C1) ?_ λx hx=>Wp.some hx
 refine Wp.cond (λ_=>Wp.call (OC h21.1) λr h=>Wp.some h) (λ_=>?_)
 refine Wp.call (P:=λ_=>True) ?_ λx _=>Wp.some h21.1
 refine Wp.cond (λ_=>Wp.some trivial) (λ_=>?_)
 exact Wp.call (P:=λ_=>True) (Wp.cond (λ_=>Wp.some trivial) (λ_=>Wp.some trivial)) λx _=>Wp.some trivial
theorem w29 {c:bj} (h:dM c) (d:aJ):Wp (D1 c d) C2:=by
 unfold D1
 refine Wp.call (ew h oaa) λr1 h1=>?_
 refine Wp.call (P:=C1) ?_ λx hx=>?_
 .refine Wp.cond (λ_=>?_) (λ_=>?_)
  .rw[Tv]
   simp only[abX]
   rw[Qy]
   simp only[abX]
   refine Wp.call (yG h1.1 oaa) λr20 h20=>?_
   refine Wp.call (P:=C1) ?_ λx hx=>Wp.some hx
   exact Wp.cond (λ_=>Wp.call (w5Vec h20) λr h=>Wp.some h) (λ_=>Wp.some h20)
  refine Wp.call (P:=C2) ?_ λx hx=>Wp.some hx
  exact Wp.cond (λ_=>Wp.call (ew h1.1 oaa) λr h=>Wp.some h.1) (λ_=>Wp.some h1.1)
 obtain⟨v16,v17⟩:=x
 simp only[CG,abX]
 replace hx:dM _:=hx
 refine Wp.call (ew hx oaa) λr39 h39=>?_
 refine Wp.call (P:=C1) ?_ λx hx=>Wp.some hx
 refine Wp.cond (λ_=>Wp.call (OC h39.1) λr h=>Wp.some h) (λ_=>?_)
 refine Wp.call (P:=C1) ?_ λx hx=>Wp.some hx
 refine Wp.cond (λ_=>Wp.call (ew h39.1 oaa) λr h=>Wp.some h.1) (λ_=>?_)
 exact Wp.call (P:=λ_=>True) (Wp.cond (λ_=>Wp.some trivial) (λ_=>Wp.some trivial)) λx _=>Wp.some h39.1
theorem rad_fr {y:ax} (h:w9 y) (i c:Int) (k:Int):kX ⟨i,false,true,c,dQ,{y with bC:={y.bC with jE:=k}}⟩/\okB y.bC.bb:=⟨⟨Nat.le_trans h.2 (by decide),λ_ _=>trivial⟩,h.1⟩
abbrev FR (f:bS):Prop:=kX f/\okB f.cA.bC.bb
abbrev FP2 (d:aJ) (i:Int) (x:bj×bS):Prop:=dM x.1/\FR x.2/\(x.2.bm=i)/\((x.2.ef=true/\x.2.eW=false/\Ll d x.2.cA=true/\x.2.cA.ag=d.ag/\w6 d.aZ x.2.cA=false)\/x.2.ef=false)
theorem X3 {d:aJ} {y:ax} {k i cell:Int} {c:bj} (hc:dM c) (h:w9 y) (hh:Ll d {y with bC:={y.bC with jE:=k}}=true) (hg:y.ag=d.ag) (hv:w6 d.aZ {y with bC:={y.bC with jE:=k}}=false):
 Wp (some (c,(⟨i,false,true,cell,dQ,{y with bC:={y.bC with jE:=k}}⟩:bS))) (FP2 d i):=
 Wp.some ⟨hc,rad_fr h _ _ _,rfl,.inl ⟨rfl,rfl,hh,hg,hv⟩⟩
theorem Ix (d:aJ) (x:ae):w6 d.aZ {iF d.aZ d.ag d.aX x with bC:={(iF d.aZ d.ag d.aX x).bC with jE:=abV (WR ((iF d.aZ d.ag d.aX x).bC.jE+1)) 2147483647}}=false:=by
 have hin:∀k (m:bv),0<=mac k m/\mac k m<2147483647:=λk m=>lP _ _
 have key:∀a:Int,0<=a->a<2147483647->abV (WR (a+1)) 2147483647≠a:=by
  intro a h0 h1 h
  rw[bO oaa,ab1 oaa] at h
  omega
 simp only[iF,Ga,w6]
 rw[acT];right
 rw[acT];right
 refine eqB_f.2 ?_
 simp only[mac]
 exact key _ (hin _ ⟨1,x.c8,tC (dk (Md d.aZ d.aX) (2*x.c8+1)) x.bb,0⟩).1 (hin _ ⟨1,x.c8,tC (dk (Md d.aZ d.aX) (2*x.c8+1)) x.bb,0⟩).2
theorem QZ (d:aJ) (x:ae):Ll d {iF d.aZ d.ag d.aX x with bC:={(iF d.aZ d.ag d.aX x).bC with jE:=abV (WR ((iF d.aZ d.ag d.aX x).bC.jE+1)) 2147483647}}=true:=by
 rw[Ll,Ix d x]
 simp[iF,bR]
theorem wForge (h:NP B n) (hd:1<=n.av.length) {c:bj} (hc:dM c):Wp (zi c n) (λr=>dM r.2/\EP r.1/\sN n r.1=true/\(r.1.b8.ef=true->r.1.b8.eW=false/\∃d,n.av[r.1.b8.bm.toNat]?=some d/\r.1.b8.cA.ag=d.ag/\w6 d.aZ r.1.b8.cA=false)):=by
 have hm6:=mr h.map
 have hls:=h.ls
 unfold zi
 refine Wp.call (ew hc oaa) λr1 h1=>?_
 obtain⟨i,hi⟩:∃i:Nat,r1.1=i:=⟨r1.1.toNat,by omega⟩
 obtain⟨d,s,a,e1,e2,e3,hm⟩:=h.at_ (i:=i) oaa
 simp only[hi,bp,e1,e2,abX]
 refine Wp.call (ew h1.1 oaa) λr3 h3=>Wp.call (yG h3.1 oaa) λr4 h4=>Wp.call (ew h4 oaa) λr5 h5=>?_
 refine Wp.call (P:=FP2 d (i:Int)) ?_ ?_
 .refine Wp.cond (λ_=>?_) (λ_=>?_)
  .refine Wp.call (ew h5.1 oaa) λr30 h30=>?_
   have hs:=N7 (x:=⟨WR (1+r30.1),[9]⟩) (by show 0<=WR (1+r30.1);rw[bO oaa];omega) (by show WR (1+r30.1)<=1000000;rw[bO oaa];omega) (λx hx=>by simp at hx;subst hx;simp[ye]) (by simp) d.aZ d.ag d.aX
   have hr:=At d.aZ d.ag d.aX (x:=⟨WR (1+r30.1),[9]⟩) (by simp)
   have hh:=QZ d ⟨WR (1+r30.1),[9]⟩
   have hv:=Ix d ⟨WR (1+r30.1),[9]⟩
   have hg:(iF d.aZ d.ag d.aX ⟨WR (1+r30.1),[9]⟩).ag=d.ag:=rfl
   generalize iF d.aZ d.ag d.aX ⟨WR (1+r30.1),[9]⟩=y at hs hr hh hv hg
   rw[hs]
   exact X3 h30.1 hr hh hg hv
  refine Wp.call (P:=λx=>dM x.2.1) ?_ λx hx=>Wp.some ⟨hx,⟨KC,λx hx=>by simp[eF,mB] at hx⟩,rfl,.inr rfl⟩
  exact Wp.cond (λ_=>Wp.call (w29 h5.1 d) λr h=>Wp.some h) (λ_=>Wp.call (w30 h5.1 s) λr h=>Wp.some h)
 rintro⟨c2,f⟩ ⟨k1,k2,k3,k4⟩
 simp only at k1 k2 k3 k4
 have he:EP {eo with bh:=13,b8:=f}:=⟨λx hx=>by simp[eo] at hx,k2.1,k2.2⟩
 rw[Xp h he]
 simp only[abX]
 refine Wp.call (P:=λk=>k=bif sN n {eo with bh:=13,b8:=f} then f.bA.bh else 7) ?_ ?_
 .cases sN n {eo with bh:=13,b8:=f}<;>exact Wp.some rfl
 rintro k rfl
 refine Wp.some ⟨k1,⟨λx hx=>by simp[eo] at hx,k2.1,k2.2⟩,?_,λhr=>by
  rcases k4 with⟨q1,q2,q3,q4,q5⟩|q1
  .exact⟨q2,d,by show n.av[f.bm.toNat]?=some d;rw[k3];exact e1,q4,q5⟩
  rw[show f.ef=true from hr] at q1;cases q1⟩
 cases hh:sN n {eo with bh:=13,b8:=f}
 .simp only[cond_false,sN]
  rw[aam,aam,aam];right;right;right
  simp only[Uk,k3,abY,e1,e2]
  rcases k4 with⟨q1,q2,q3,_,_⟩|q1
  .rw[q1,q2,q3];rfl
  rw[q1]
  have z:∀k:Int,k≠7->eqB 7 k=false:=λk hk=>eqB_f.2 (Ne.symm hk)
  cases f.eW<;>simp only[hUp,HQ,z _ (show(2:Int)≠7 by omega),z _ (show(3:Int)≠7 by omega),z _ (show(4:Int)≠7 by omega),z _ (show(5:Int)≠7 by omega),z _ (show(6:Int)≠7 by omega),z _ (show(8:Int)≠7 by omega),acf,au]
 simp only[cond_true]
 rw[show({f with bA:={f.bA with bh:=f.bA.bh}}:bS)=f from rfl]
 exact hh
theorem Ft (n:ab) (f:bS):(gb n f).av.length=n.av.length:=by rw[(mt n f).1]
theorem MJ:∀(c i:Nat) (n:ab),(nk c i n).av.length=n.av.length
 |0,_,_=>rfl
 |c+1,i,n=>by
  rw[nk]
  cases n.av[i]? with
  |none=>rfl
  |some d=>simp only;rw[MJ,(jw _ _ _).1]
theorem MM:∀(c i:Nat) (n:ab),(uG c i n).av.length=n.av.length
 |0,_,_=>rfl
 |c+1,i,n=>by
  rw[uG]
  cases n.aF[i]? with
  |none=>rfl
  |some s=>cases n.bk[i]? with
   |none=>rfl
   |some a=>simp only;rw[MM,(H8 _ _ _).1]
theorem Nk (n:ab) (k:Nat):(jj n k).av.length=n.av.length:=by
 rw[jj]
 cases n.aT[k]? with
 |none=>rfl
 |some f=>
  simp only
  cases zr (jq n k) f.bg
  .rfl
  simp only[au]
  cases f.eW
  .simp only[cond_false]
   cases hd:(jq n k).av[f.bm.toNat]? with
   |none=>rfl
   |some d=>
    simp only
    cases eqB d.bg f.bg
    .rfl
    simp only[au];rw[(jw _ _ _).1];rfl
  simp only[cond_true]
  cases f.ef||!eqB f.bA.bg f.bg
  .simp only[cond_false]
   cases hs:(jq n k).aF[f.bm.toNat]? with
   |none=>rfl
   |some s=>simp only[Co];rw[(iU _ _).1];rfl
  rfl
theorem Tm (n:ab) (e:dN):(kv n e).2.av.length=n.av.length:=by
 rw[kv]
 split
 .rw[xh]
  cases leB 100000 n.qO
  .simp only[cond_false];rw[MM,MJ]
  rfl
 split
 .rw[t9]
  cases inR e.cB 0 ((n.aT.length:Int)-1)
  .rfl
  simp only[au]
  cases eqB e.bh 2
  .simp only[cond_false]
   cases eqB e.bh 3
   .simp only[cond_false]
    cases leB 200 (n.aT.length:Int)
    .simp only[cond_false]
     cases n.aT[e.cB.toNat]? with
     |none=>rfl
     |some f=>exact Ft n f
    rfl
   rfl
  exact Nk n _
 split
 .rw[Fr]
  cases inR e.cB 0 ((n.av.length:Int)-1)
  .rfl
  simp only[au]
  cases n.av[e.cB.toNat]? with
  |none=>rfl
  |some d=>cases n.aF[e.cB.toNat]? with
   |none=>rfl
   |some s=>
    simp only
    cases eqB e.bh 5
    .simp only[cond_false]
     cases eqB e.bh 6
     .simp only[cond_false]
      cases eqB e.bh 7
      .simp only[cond_false]
       cases(ta s e.bb).2<;>rfl
      simp only[cond_true]
      cases eqB d.bi 2
      .rfl
      simp
     simp only[cond_true]
     cases eqB e.bg d.bg||!eL n.ei e.bg
     .exact(jw _ _ _).1
     rfl
    simp only[cond_true]
    cases eqB d.bi 0
    .rfl
    exact(jw _ _ _).1
 split
 .rw[C0];cases !eL n.ei e.cB||booB (zr n e.cB) (eqB e.bh 10)<;>rfl
 split
 .rw[oQ]
  cases !inR e.cB 0 (n.ev.fx-1)||(booB (tu n.ev e.cB) (eqB e.bh 12)||eqB (lZ n.ev e.cB (eqB e.bh 12)).fB 0)<;>rfl
 split
 .rw[xZ];cases zL n e.b8
  .rfl
  exact Ft n _
 rfl
abbrev NQ (n:ab) (r:dN×bj):Prop:=dM r.2/\EP r.1/\sN n r.1=true/\FSx n r.1
theorem wPl {c:bj} (h:dM c) {k i cell:Int} {b:List Int} (hb:okB b) (hk:k≠13):Wp (some ((⟨k,i,cell,b,fL⟩:dN),c)) (NQ n):=
 Wp.some ⟨h,A1 hb,tN n hk,EL n hk⟩
theorem ny:okB []:=λx hx=>by simp at hx
theorem wNo {b:Bool} {y:α} {β:Type} {f:α->Option β} {Q:β->Prop} (h:∀z,Wp (f z) Q):Wp (abU (bif b then some x else some y) f) Q:=by
 cases b<;>exact h _
theorem Zi {c':bj} (hc:dM c'):Wp (abU (bif ltB 0 (n.aT.length:Int) then(abU (jn c' 4) λr21=>some (!r21.1,r21.2)) else(some (false,c'))) λ((v16,v20):Bool×bj)=>bif v16 then(abU (FT (n.aT.length:Int) 3) λr22=>abU (cO v20 r22) λr23=>abU (cO r23.2 12) λr24=>bif eqB r24.1 0 then(some ({eo with bh:=3,cB:=r23.1},r24.2)) else(bif eqB r24.1 1 then(some ({eo with bh:=4,cB:=r23.1},r24.2)) else(some ({eo with bh:=2,cB:=r23.1},r24.2)))) else(some ({eo with bh:=1},v20))) (NQ n):=by
 refine Wp.call (P:=λx=>dM x.2/\(x.1=true->0<n.aT.length)) ?_ ?_
 .refine Wp.cond (λhb=>?_) (λ_=>Wp.some ⟨hc,λh=>by simp at h⟩)
  have hb:=mI hb
  exact Wp.call (yG hc oaa) λr21 h21=>Wp.some ⟨h21,λ_=>by omega⟩
 rintro⟨v16,v20⟩ ⟨k1,k2⟩
 simp only at k1 k2
 refine Wp.cond (λhb=>?_) (λ_=>wPl k1 ny oaa)
 have:=k2 hb
 rw[LP]
 simp only[abX]
 have hm:1<=lB (n.aT.length:Int) 3:=by unfold lB;split<;>omega
 refine Wp.call (ew k1 hm) λr23 h23=>Wp.call (ew h23.1 oaa) λr24 h24=>?_
 exact Wp.cond (λ_=>wPl h24.1 ny oaa) (λ_=>Wp.cond (λ_=>wPl h24.1 ny oaa) (λ_=>wPl h24.1 ny oaa))
theorem wNext (h:NP B n) (hd:1<=n.av.length) {c:bj} (hc:dM c):Wp (BT c n) (NQ n):=by
 have hm6:=mr h.map
 have hl:=h.ld
 unfold BT
 rw[LO]
 simp only[abX]
 have hmx:1<=Dx 1 (n.av.length:Int):=by unfold Dx;split<;>omega
 have hw:WR ((n.ei.a8.length:Int)+1)=(n.ei.a8.length:Int)+1:=bO oaa
 refine Wp.call (ew hc hmx) λr2 h2=>Wp.call (ew h2.1 oaa) λr3 h3=>?_
 refine Wp.cond (λ_=>wPl h3.1 ny oaa) (λ_=>wNo λ_=>?_)
 refine Wp.cond (λ_=>Wp.call (ew h3.1 oaa) λr5 h5=>wPl h5.1 ny oaa) (λ_=>?_)
 refine Wp.cond (λ_=>wPl h3.1 ny oaa) (λ_=>wNo λ_=>?_)
 refine Wp.cond (λ_=>Wp.call (ew h3.1 oaa) λr7 h7=>Wp.call (Wm h7.1 h7.2.1 oaa) λr8 h8=>wPl h8.1 h8.2.1 oaa) (λ_=>?_)
 refine Wp.cond (λ_=>Wp.call (ew h3.1 oaa) λr9 h9=>wPl h9.1 ny oaa) (λ_=>wNo λ_=>?_)
 refine Wp.cond (λ_=>Wp.call (ew h3.1 oaa) λr9 h9=>wPl h9.1 ny oaa) (λ_=>?_)
 refine Wp.cond (λ_=>Wp.call (ew h3.1 oaa) λr9 h9=>wPl h9.1 ny oaa) (λ_=>?_)
 refine Wp.cond (λ_=>Wp.call (ew h3.1 oaa) λr9 h9=>wPl h9.1 ny oaa) (λ_=>wNo λ_=>?_)
 refine Wp.cond (λ_=>Wp.cond (λ_=>?_) (λ_=>Zi h3.1)) (λ_=>Zi h3.1)
 refine Wp.call (wForge h hd h3.1) λr15 h15=>Wp.some ⟨h15.1,⟨ny,h15.2.1.f,h15.2.1.r⟩,?_,λ_=>h15.2.2.2⟩
 exact h15.2.2.1
theorem RN.apply {B:Nat} (h:RN B l n) (he:EP e) (hh:sN n e=true) (hf:FSx n e):RN (B+1) l (kv n e).2:=by
 obtain⟨k,h1,h2,h3⟩:=h
 exact⟨k+1,h1.step he hh hf,by omega,by rw[Tm];exact h3⟩
theorem RN.mono {B B':Nat} (h:RN B l n) (hb:B<=B'):RN B' l n:=by
 obtain⟨k,h1,h2,h3⟩:=h;exact⟨k,h1,by omega,h3⟩
theorem w33Run {c:bj} (h:dM c) {most:Int} (hm:1<=most/\most<=1000):Wp (BU c most) (λr=>dM r.2.2.2/\∃l,(1<=l/\l<=3)/\RN 40 l r.1/\RN (42+most.toNat) l r.2.2.1/\(r.2.1.length<=1010/\∀e∈r.2.1,EP e)):=by
 unfold BU
 refine Wp.call (w32New h) λr1 h1=>?_
 obtain⟨h11,l,hl,hr⟩:=h1
 obtain⟨b,hn,hb⟩:=hr.np oaa
 rw[Y2 hn.okN]
 simp only[abX]
 refine Wp.call (ew h11 hm.1) λr3 h3=>?_
 have hw:WR (3+r3.1)=3+r3.1:=bO oaa
 refine Wp.call (P:=λx=>dM x.2.1/\RN (42+most.toNat) l x.2.2/\(x.1.length<=1010/\∀e∈x.1,EP e)) ?_ λx hx=>Wp.some ⟨hx.1,l,hl,hr,hx.2.1,hx.2.2⟩
 refine Wp.iterF (λx=>(0<=x.1/\x.1<=2+most)/\dM x.2.2.1/\RN (40+(2+most-x.1).toNat) l x.2.2.2/\((x.2.1.length:Int)<=1010-x.1/\∀e∈x.2.1,EP e)) (λx=>x.1.toNat) ⟨⟨by rw[hw];omega,by rw[hw];omega⟩,h3.1,hr.mono oaa,by simp only[ab0];rw[hw];omega,by simp⟩ (by simp only;rw[hw];omega) ?_
 rintro⟨v4,v8,v19,n⟩ ⟨⟨i0,i1⟩,i2,i3,i4,i5⟩
 simp only at i0 i1 i2 i3 i4 i5
 simp only[Gt]
 refine Wp.cond (λhb=>?_) (λhb=>Wp.some ⟨i2,i3.mono oaa,by show v8.length<=1010;omega,i5⟩)
 have hb:=mI hb
 obtain⟨b',hn',hb'⟩:=i3.np oaa
 have hdl:n.av.length=l:=i3.choose_spec.2.2
 refine Wp.call (wNext hn' oaa i2) λr51 h51=>?_
 refine Wp.ok (gk (by simp;omega) (by simp;omega)) ?_
 have ha:=Eg hn' h51.2.1 oaa
 rw[Y2 hn'.okN]
 simp only[abX]
 rw[ha.1]
 simp only[abX]
 have hst:=i3.apply h51.2.1 h51.2.2.1 h51.2.2.2
 refine Wp.call (P:=λx=>RN (40+(2+most-v4).toNat+1) l x) (Wp.cond (λ_=>Wp.some hst) (λ_=>Wp.some (i3.mono oaa))) λx hx=>Wp.some ⟨⟨⟨?_,?_⟩,h51.1,?_,?_,?_⟩,?_⟩
 all_goals simp only[bO (show-9223372036854775808<=v4-1/\v4-1<=9223372036854775807 by omega)]
 .omega
 .omega
 .exact hx.mono oaa
 .simp;omega
 .intro e he
  rcases aac.1 he with he|he
  .exact i5 e he
  simp at he;subst he;exact h51.2.1
 omega
def zE (r:aO) (g:Int):Int:=(vec r.fo (Et r.ID g) g).fo
def fC (l:List bV) (k:Nat):Int:=((l.take k).map λp=>(p.bb.length:Int)).sum
def kc (w:a9):Int:=w.bB-1-w.aA.length
structure SI (d:aJ) (s:ah) (a:am):Prop where
 cl:d.dq.dv<=s.bE.c8
 pq:s.bL<=s.bE.c8
 pg:0<s.bL->s.ag<s.bL
 pv:0<s.bL->s.aK=vec s.bE.fo (Et s.bE.ID s.bL) s.bL
 sg:s.ag<=s.bE.c8
 s1:s.bi=1->0<s.ag
 sk:0<s.ag->s.aZ=zE s.bE s.ag
 dg:d.ag<=d.dq.dv
 dk:0<d.ag->d.aZ=zE s.bE d.ag
 pr:d.bY.be<+:s.aG
 pe:∀x∈d.bY.aK,s.aG[(x.c8-1).toNat]?=some ⟨x.bb⟩/\x.c8<s.aw.bB
 nx:d.bY.bB<=s.aw.bB
 wn:∀x∈s.aw.aA,s.aG[(x.c8-1).toNat]?=some ⟨x.bb⟩
 ak:kc s.aw<d.bY.bB
 ch:a.eg+s.bU.er=fC s.aG (kc s.aw).toNat
def Dj (s:ah) (x:ax):Prop:=∃(k g e:Int) (b:List Int),0<g/\(1<=k/\k<s.aw.bB)/\s.aG[(k-1).toNat]?=some ⟨b⟩/\x=iF (zE s.bE g) g e ⟨k,b⟩
def RadB (d:aJ) (x:ax):Prop:=x.ag<d.ag\/(x.ag=d.ag/\w6 d.aZ x=false)
def WH (s:ah) (m:aH):Prop:=∃q,(1<=q/\q<=s.bE.c8)/\m.ag=q/\m.cm=vec s.bE.fo (Et s.bE.ID q) q
def WG (d:aJ) (m:aH):Prop:=ka d.dq.fo d.dq.dv m.cm=1\/ka d.dq.fo d.dq.dv m.cm=2
def Zk (s:ah) (m:aH):Prop:=m.ag<s.ag\/(m.ag=s.ag/\tw s.aZ m=false)
structure FI (d:aJ) (s:ah) (f:bS):Prop where
 up:f.eW=true->f.ef=false->f.bA.bh=8->f.bA.bW<=d.bY.bB\/Zk s f.bA
 rd:f.eW=false->f.ef=true->Dj s f.cA\/RadB d f.cA
 dn:f.eW=false->f.ef=false->f.bA.bh=2->WH s f.bA\/WG d f.bA
structure B2 (d:aJ) (s:ah) (d':aJ) (s':ah):Prop where
 ck:d'.dq.fo=d.dq.fo
 cl:d.dq.dv<=d'.dq.dv
 dg:d.ag<d'.ag\/(d'.ag=d.ag/\d'.aZ=d.aZ)
 rn:d.bY.bB<=d'.bY.bB
 ri:s'.bE.ID=s.bE.ID
 rk:s'.bE.fo=s.bE.fo
 rs:s.bE.c8<=s'.bE.c8
 sg:s.ag<s'.ag\/(s'.ag=s.ag/\s'.aZ=s.aZ)
 su:s.aG<+:s'.aG
 wn:s.aw.bB<=s'.aw.bB
theorem B2.refl (d:aJ) (s:ah):B2 d s d s:=⟨rfl,acM _,.inr ⟨rfl,rfl⟩,acM _,rfl,rfl,acM _,.inr ⟨rfl,rfl⟩,acN _,acM _⟩
theorem JV {xs ys:List α} (h:xs<+:ys) (hx:xs[k]?=some x):ys[k]?=some x:=by
 obtain⟨zs,rfl⟩:=h
 rw[aal (aaa.1 hx).1];exact hx
theorem UC {r r':aO} (h1:r'.ID=r.ID) (h2:r'.fo=r.fo) (g:Int):zE r' g=zE r g:=by rw[zE,zE,h1,h2]
theorem OB {k l l':Int} {v:cE} (h:l<=l') (hb:ka k l v=1\/ka k l v=2):ka k l' v=1\/ka k l' v=2:=by
 revert hb
 rw[ka,ka]
 intro hb
 split at hb
 .rename_i h1;rw[if_pos h1];exact hb
 rename_i h1;rw[if_neg h1]
 split at hb
 .rename_i h2;rw[if_pos oaa];exact .inr rfl
 split at hb<;>omega
theorem FI.mono {d d':aJ} {f:bS} (h:FI d s f) (m:B2 d s d' s'):FI d' s' f:=by
 refine⟨λh1 h2 h3=>?_,λh1 h2=>?_,λh1 h2 h3=>?_⟩
 .rcases h.up h1 h2 h3 with q|q
  .exact .inl (acP q m.rn)
  right
  rcases m.sg with g|⟨g1,g2⟩
  .left;rcases q with q|q<;>omega
  rcases q with q|q
  .left;omega
  right;rw[g1,g2];exact q
 .rcases h.rd h1 h2 with⟨k,g,e,b,q1,q2,q3,q4⟩|q
  .left;exact⟨k,g,e,b,q1,⟨q2.1,Int.lt_of_lt_of_le q2.2 m.wn⟩,JV m.su q3,by rw[UC m.ri m.rk];exact q4⟩
  right
  rcases m.dg with g|⟨g1,g2⟩
  .left;rcases q with q|q<;>omega
  rcases q with q|q
  .left;omega
  right;rw[g1,g2];exact q
 rcases h.dn h1 h2 h3 with⟨q,q1,q2,q3⟩|q
 .left;exact⟨q,⟨q1.1,acP q1.2 m.rs⟩,q2,by rw[m.ri,m.rk];exact q3⟩
 right;rw[WG,m.ck];exact OB m.cl q
structure PI (n:ab):Prop where
 si:∀(i:Nat) d s a,n.av[i]?=some d->n.aF[i]?=some s->n.bk[i]?=some a->SI d s a
 fi:∀f∈n.aT,∀d s,n.av[f.bm.toNat]?=some d->n.aF[f.bm.toNat]?=some s->FI d s f
theorem PI.send (h:PI n) {f:bS} (hf:∀d s,n.av[f.bm.toNat]?=some d->n.aF[f.bm.toNat]?=some s->FI d s f):PI (gb n f):=by
 rw[gb]
 cases leB 200 (n.aT.length:Int)
 .refine⟨h.si,λg hg=>?_⟩
  rcases aac.1 hg with hg|hg
  .exact h.fi g hg
  simp at hg;subst hg;exact hf
 exact⟨h.si,h.fi⟩
theorem PI.sends:∀(l:List bS) {n:ab},PI n->(∀f∈l,∀d s,n.av[f.bm.toNat]?=some d->n.aF[f.bm.toNat]?=some s->FI d s f)->PI (sends n l)
 |[],n,h,_=>h
 |f::l,n,h,hf=>by
  have hk:=mt n f
  exact PI.sends l (h.send (hf f (by simp))) (λg hg=>by rw[hk.1,hk.2.1];exact hf g (by simp[hg]))
theorem PI.setM (h:PI n) {d d':aJ} {a':am} (hd:n.av[i]?=some d) (hs:n.aF[i]?=some s) (hm:B2 d s d' s') (hi:SI d' s' a'):
 PI {n with av:=n.av.set i d',aF:=n.aF.set i s',bk:=n.bk.set i a'}:=by
 refine⟨λj x y z hx hy hz=>?_,λf hf x y hx hy=>?_⟩
 .rcases oo hx with⟨e1,e2⟩|⟨e1,e2⟩<;>rcases oo hy with⟨e3,e4⟩|⟨e3,e4⟩<;>rcases oo hz with⟨e5,e6⟩|⟨e5,e6⟩<;>first|omega|skip
  .subst e2;subst e4;subst e6;exact hi
  exact h.si j x y z e2 e4 e6
 rcases oo hx with⟨e1,e2⟩|⟨e1,e2⟩<;>rcases oo hy with⟨e3,e4⟩|⟨e3,e4⟩<;>first|omega|skip
 .subst e2;subst e4
  exact(h.fi f hf d s (by rw[<-e1];exact hd) (by rw[<-e1];exact hs)).mono hm
 exact h.fi f hf x y e2 e4
structure B1 (d:aJ) (s:ah) (a:am) (r:aY):Prop where
 mo:B2 d s r.bm s
 si:SI r.bm s a
 sg:∀m∈r.dE,m.bh=8->m.bW<=r.bm.bY.bB
theorem B1.keep {d:aJ} (h:SI d s a) {r:aY} (h1:r.bm.dq=d.dq) (h2:r.bm.ag=d.ag) (h3:r.bm.aZ=d.aZ) (h4:r.bm.bY=d.bY) (h5:∀m∈r.dE,m.bh≠8):B1 d s a r:=
 ⟨⟨by rw[h1],by rw[h1];exact acM _,.inr ⟨h2,h3⟩,by rw[h4];exact acM _,rfl,rfl,acM _,.inr ⟨rfl,rfl⟩,acN _,acM _⟩,
  {h with cl:=by rw[h1];exact h.cl,dg:=by rw[h1,h2];exact h.dg,dk:=by rw[h2,h3];exact h.dk,pr:=by rw[h4];exact h.pr,pe:=by rw[h4];exact h.pe,nx:=by rw[h4];exact h.nx,ak:=by rw[h4];exact h.ak},
  λm hm e=>absurd e (h5 m hm)⟩
theorem B1.none {d:aJ} (h:SI d s a):B1 d s a ⟨d,[]⟩:=.keep h rfl rfl rfl rfl (by simp)
section
variable {d:aJ} {s:ah} {a:am} (h:SI d s a)
include h
theorem Nb {d':aJ} (h1:d'.dq=d.dq) (h2:d'.ag=d.ag) (h3:d'.aZ=d.aZ) (h4:d'.bY=d.bY):B1 d s a (xp d'):=
 .keep h h1 h2 h3 h4 (by simp[xp,xD,wM])
theorem TJ:B1 d s a (qo d):=by
 rw[qo]
 cases ltB 0 d.fA<;>cases eqB d.bi 1<;>cases eqB d.bi 2&&!d.cy<;>exact .keep h rfl rfl rfl rfl (by simp[yN,xD,wM])
theorem Zw:B1 d s a (dOn d):=by
 rw[dOn];cases eqB d.bi 0<;>exact .keep h rfl rfl rfl rfl (by simp[yN])
theorem TI (c:Int):B1 d s a (sH d c):=by
 rw[sH]
 cases eqB c d.bg||!inR c 0 5
 .cases eqB d.bi 2&&ltB d.aX 999999
  .exact .keep h rfl rfl rfl rfl (by simp)
  exact Nb h rfl rfl rfl rfl
 exact .none h
theorem W0 (hk:d.dq.fo=s.bE.fo) (hr:s.bE.c8<=999999) (hf:WH s m\/WG d m):B1 d s a (GJ d m):=by
 rw[GJ]
 cases hv:eqB (ka d.dq.fo d.dq.dv m.cm) 0
 .exact .none h
 have hv:=pH hv
 rcases hf with⟨q,q1,q2,q3⟩|q
 .have hq:inR q 0 999999=true:=bQ.2 oaa
  rw[q3,hk,Sp oaa oaa] at hv
  have hlt:d.dq.dv<q:=by
   by_cases hle:q<=d.dq.dv
   .rw[if_pos hle] at hv;omega
   omega
  have hu:unm d.dq.fo m.cm.eC m.cm.gm=q:=by
   rw[q3,hk];simp only[vec,hq,cond_true];exact Qt oaa oaa
  have hrand:m.cm.eC=Et s.bE.ID q:=by rw[q3];simp only[vec,hq,cond_true]
  have hg:=h.dg
  rw[hk,hrand] at hu
  simp only[cond_true,hu,hrand,q2,hk]
  refine⟨⟨hk.symm,by simp only;omega,.inl (by simp only;omega),acM _,rfl,rfl,acM _,.inr ⟨rfl,rfl⟩,acN _,acM _⟩,{h with cl:=q1.2,dg:=acM _,dk:=λ_=>rfl},λm hm=>by simp at hm;subst hm;intro e;simp at e⟩
 rcases q with q|q<;>omega
theorem W4 (hk:d.dq.fo=s.bE.fo) (hr:s.bE.c8<=999999) (hf:m.bh=2->WH s m\/WG d m):B1 d s a (z2 d m):=by
 rw[z2]
 cases !lS m||(!eqB m.bg d.bg||eqB d.bi 0)
 .simp only[cond_false]
  cases h2:eqB m.bh 2&&eqB d.bi 1
  .simp only[cond_false]
   cases eqB m.bh 4&&(eqB d.bi 1&&(nU d.aZ&&(eqB m.ag d.ag&&tw d.aZ m)))
   .simp only[cond_false]
    cases eqB m.bh 6&&(eqB d.bi 2&&(eqB m.ag d.ag&&(eqB m.aX d.aX&&tw d.aZ m)))
    .simp only[cond_false]
     cases eqB m.bh 7&&(eqB d.bi 3&&ltB d.aX 999999)
     .simp only[cond_false]
      cases eqB m.bh 7&&eqB d.bi 2
      .exact .none h
      exact Nb h rfl rfl rfl rfl
     exact Nb h rfl rfl rfl rfl
    exact .keep h rfl rfl rfl rfl (by simp)
   exact .keep h rfl rfl rfl rfl (by simp)
  rw[hV] at h2
  exact W0 h hk hr (hf (pH h2.1))
 exact .none h
omit h in
theorem Vh {l sub:List bV} {t:List ae} {nx:Int} (hp:l<+:sub) (hn:nx=(l.length:Int)+1) (ht:∀(k:Nat) (y:ae),t[k]?=some y->y.c8=nx+k/\sub[(y.c8-1).toNat]?=some ⟨y.bb⟩):l++t.map (λy=>(⟨y.bb⟩:bV))<+:sub:=by
 obtain⟨zs,hz⟩:=hp
 refine⟨zs.drop t.length,?_⟩
 apply List.ext_getElem?
 intro i
 rw[<-hz]
 by_cases h1:i<l.length
 .rw[aaR,aal h1,aal h1]
 rw[aaR,aan oaa,aan (show l.length<=i by omega)]
 by_cases h2:i-l.length<t.length
 .rw[aal (by simpa using h2),aaH,v0 h2]
  obtain⟨e1,e2⟩:=ht (i-l.length) _ (v0 h2)
  rw[<-hz,e1,aan oaa] at e2
  rw[show(nx+((i-l.length:Nat):Int)-1).toNat-l.length=i-l.length by omega] at e2
  rw[e2];rfl
 rw[aan (by simpa using h2),List.getElem?_drop]
 congr 1;simp;omega
theorem W2 (hp:RcV d.bY) (hs:SP s) (hb:∀p∈s.aG,okB p.bb) {x:ax} (hf:Dj s x\/RadB d x):B1 d s a (z1 d x):=by
 simp only[z1]
 cases ho:eqB d.bi 2&&(rm d.aZ d.ag d.aX x).2
 .exact .none h
 simp only[cond_true]
 rw[hV] at ho
 have hcond:x.ag=d.ag/\x.aX=d.aX/\w6 d.aZ x=true:=by
  have:=ho.2
  rw[rm] at this
  split at this
  .assumption
  cases this
 rcases hf with⟨k,g,e,b,q1,q2,q3,q4⟩|q
 .have hsub:=aab q3
  have hl:=hs.sl
  have hnx:=hs.nx
  have hgen:d.ag=g:=by rw[<-hcond.1,q4];rfl
  have hep:d.aX=e:=by rw[<-hcond.2.1,q4];rfl
  have hkey:d.aZ=zE s.bE g:=by rw[<-hgen];exact h.dk oaa
  have hopen:rm d.aZ d.ag d.aX x=(⟨k,b⟩,true):=by
   rw[q4,hgen,hep,hkey]
   exact RD q2.1 (by show k<=100000;omega) (hb _ hsub) (hs.sd _ hsub) _ _ _
  rw[hopen]
  simp only
  cases hlate:xY d.bY ⟨k,b⟩
  .obtain⟨t,dd,t1,t2,t3,t4,t5,t6,t7,t8⟩:=Gw hp hlate
   have hmem:∀y∈qw ⟨k,b⟩ d.bY.aK,s.aG[(y.c8-1).toNat]?=some ⟨y.bb⟩/\y.c8<s.aw.bB:=λy hy=>by
    rcases Bi.1 hy with e|e
    .subst e;exact⟨q3,q2.2⟩
    exact h.pe y e
   have hpre:=Vh (l:=d.bY.be) (sub:=s.aG) (t:=t) h.pr hp.n (λk y hy=>⟨t2 k y hy,(hmem y (by rw[t1];exact acU _ (aab hy))).1⟩)
   have hnext:(oc d.bY ⟨k,b⟩).bB<=s.aw.bB:=by
    rw[t3]
    by_cases ht:t.length=0
    .rw[ht];have:=h.nx;simp;omega
    obtain⟨y,hy⟩:∃y,t[t.length-1]?=some y:=⟨_,v0 oaa⟩
    have e1:=t2 _ y hy
    have e2:=(hmem y (by rw[t1];exact acU _ (aab hy))).2
    omega
   have hak:=h.ak
   refine⟨⟨rfl,acM _,.inr ⟨rfl,rfl⟩,by simp only;rw[t3];omega,rfl,rfl,acM _,.inr ⟨rfl,rfl⟩,acN _,acM _⟩,
    {h with pr:=by simp only;rw[t4];exact hpre,pe:=λy hy=>?_,nx:=hnext,ak:=by simp only;rw[t3];omega},λm hm _=>?_⟩
   .simp only at hy
    rcases t6 with e|e
    .rw[e] at hy;exact hmem y (by rw[t1];exact List.mem_append_right _ hy)
    rw[e] at hy;simp at hy
   simp at hm;subst hm;exact acM _
  have e:oc d.bY ⟨k,b⟩=d.bY:=by rw[oc,hlate];rfl
  rw[e]
  refine⟨B2.refl d s,h,λm hm _=>?_⟩
  simp at hm;subst hm;exact acM _
 exfalso
 rcases q with q|⟨q1,q2⟩
 .omega
 rw[hcond.2.2] at q2;cases q2
end
theorem Xw {d:aJ} (h:SI d s a):SI (u6 d) s a/\B2 d s (u6 d) s:=by
 rw[u6]
 cases eqB d.bi 2
 .exact⟨h,B2.refl d s⟩
 have:=B1.keep h (r:=⟨{d with bi:=3},[]⟩) rfl rfl rfl rfl (by simp)
 exact⟨this.si,this.mo⟩
theorem vp (h:PI n) {d:aJ} (hd:n.av[i]?=some d) (hs:n.aF[i]?=some s) (ha:n.bk[i]?=some a) {r:aY} (st:B1 d s a r):PI (gT n i r):=by
 have hi:=(aaa.1 hd).1
 have hm:=h.setM hd hs st.mo (a':=a) st.si
 rw[gY hs,gY ha] at hm
 refine PI.sends _ hm λf hf x y hx hy=>?_
 obtain⟨m,hm',rfl⟩:=aa7.1 hf
 simp only[i6,abY] at hx hy
 have e1:(n.av.set i r.bm)[i]?=some r.bm:=by simp[hi]
 rw[e1] at hx;rw[hs] at hy
 cases hx;cases hy
 exact⟨λ_ _ h3=>.inl (st.sg m hm' h3),λh1 _=>by simp[i6] at h1,λh1 _ _=>by simp[i6] at h1⟩
structure D9 (d:aJ) (s:ah) (a:am) (r:bI):Prop where
 mo:B2 d s d r.aU
 si:SI d r.aU a
 sg:∀m∈r.dE,m.bh=2->WH r.aU m
theorem VZ (xs:List ae) (j:Nat):gh xs=gh (xs.take j)+gh (xs.drop j):=by
 simp only[gh]
 rw[<-acR,<-abb,List.take_append_drop]
theorem CN {l:List bV} {p:bV} (h:l[k]?=some p):fC l (k+1)=fC l k+p.bb.length:=by
 simp only[fC]
 rw[acg,h]
 simp
theorem Ep {l:List bV} {u:List ae} {A:Nat} (h:∀(i:Nat) x,u[i]?=some x->l[A+i]?=some ⟨x.bb⟩):∀j:Nat,j<=u.length->fC l (A+j)=fC l A+gh (u.take j)
 |0,_=>by simp[gh]
 |j+1,hj=>by
  obtain⟨x,hx⟩:∃x,u[j]?=some x:=⟨_,v0 oaa⟩
  rw[<-Nat.add_assoc,CN (h j x hx),Ep h j oaa,acg,hx]
  simp only[gh,Option.toList_some,abb,acR,aaB,abd,acQ,acV]
  omega
theorem Nd {l l':List bV} (h:l<+:l') (hk:k<=l.length):fC l' k=fC l k:=by
 obtain⟨z,rfl⟩:=h
 simp only[fC]
 rw[List.take_append_of_le_length hk]
theorem yF {x:aO} (h:tF x=true):0<=x.c8/\x.c8<=999999:=by
 simp only[tF,hV,bQ] at h;omega
section
variable {d:aJ} {s:ah} {a:am} (h:SI d s a) (g:SG s a)
theorem D9.none (h:SI d s a):D9 d s a ⟨s,[]⟩:=⟨B2.refl d s,h,by simp⟩
include h
theorem Re {l:List aH} (h1:s'.bE=s.bE) (h2:s'.aK=s.aK) (h3:s'.bL=s.bL) (h4:s'.bi=s.bi) (h5:s'.ag=s.ag) (h6:s'.aZ=s.aZ) (h7:s'.aG=s.aG) (h8:s'.aw=s.aw) (h9:s'.bU.er=s.bU.er) (hl:∀m∈l,m.bh≠2):D9 d s a ⟨s',l⟩:=by
 refine⟨⟨rfl,acM _,.inr ⟨rfl,rfl⟩,acM _,by rw[h1],by rw[h1],by rw[h1];exact acM _,.inr ⟨h5,h6⟩,by rw[h7];exact acN _,by rw[h8];exact acM _⟩,?_,λm hm e=>absurd e (hl m hm)⟩
 exact⟨by rw[h1];exact h.cl,by rw[h1,h3];exact h.pq,by rw[h3,h5];exact h.pg,by rw[h1,h2,h3];exact h.pv,by rw[h1,h5];exact h.sg,by rw[h4,h5];exact h.s1,by rw[h1,h5,h6];exact h.sk,h.dg,by rw[h1];exact h.dk,by rw[h7];exact h.pr,by rw[h7,h8];exact h.pe,by rw[h8];exact h.nx,by rw[h7,h8];exact h.wn,by rw[h8];exact h.ak,by rw[h7,h8,h9];exact h.ch⟩
include g
theorem RR (m:aH):D9 d s a (G7 s m):=by
 have hr:=yF g.sp.rcd
 simp only[G7]
 cases hb:eqB s.bE.c8 999999
 .have hb:=Ji hb
  simp only[cond_false]
  refine⟨⟨rfl,acM _,.inr ⟨rfl,rfl⟩,acM _,rfl,rfl,by simp only;omega,.inr ⟨rfl,rfl⟩,acN _,acM _⟩,?_,λx hx e=>?_⟩
  .have h1:=h.cl
   have h2:=h.sg
   exact {h with cl:=by simp only;omega,pq:=acM _,pg:=λ_=>by simp only;omega,pv:=λ_=>rfl,sg:=by simp only;omega,sk:=h.sk,dk:=h.dk}
  simp at hx;subst hx
  exact⟨s.bE.c8+1,⟨by omega,acM _⟩,rfl,rfl⟩
 exact .none h
theorem N4 (m:aH):D9 d s a (zP s m):=by
 rw[zP]
 cases hb:leB s.bL 0||(!eqB m.ag s.bL||(!eqB m.bW s.aK.yI||leB 999999 s.aX))
 .simp only[aaq] at hb
  have hp:=xq hb.1
  have h1:=h.pg hp
  simp only[cond_false,xr]
  refine⟨⟨rfl,acM _,.inr ⟨rfl,rfl⟩,acM _,rfl,rfl,acM _,.inl h1,acN _,acM _⟩,?_,λx hx e=>?_⟩
  .have h2:=h.pq
   have h3:=yF g.sp.rcd
   exact {h with pq:=by show(0:Int)<=s.bE.c8;omega,pg:=λe=>by simp at e,pv:=λe=>by simp at e,sg:=h2,s1:=λ_=>hp,sk:=λ_=>by show s.aK.fo=zE s.bE s.bL;rw[h.pv hp];rfl}
  simp[y6,wM] at hx;subst hx;simp at e
 exact .none h
omit g in
theorem N3 (m:aH):D9 d s a (zN s m):=by
 rw[zN]
 cases !sW s m||(ltB m.aX s.aX||(eqB m.aX s.aX&&!eqB m.bg s.bg))
 .exact Re h rfl rfl rfl rfl rfl rfl rfl rfl rfl (by simp[y6,wM])
 exact .none h
theorem RQ (hf:m.bW<=d.bY.bB\/Zk s m):D9 d s a (G6 s m):=by
 rw[G6]
 cases hb:!sW s m||ltB s.aw.bB m.bW
 .simp only[cond_false]
  simp only[aaq,Bool.not_eq_false'] at hb
  obtain⟨hk,hn⟩:=hb
  simp only[sW,hV] at hk
  rcases hf with hf|hf
  .have hg:=Ii g m.bW
   have hw:=g.sp.win
   have hd:=Hq hw hn
   have hle:=pP hn
   have f1:=hw.f
   have f2:=hw.n
   have hch:=h.ch
   have hak:=h.ak
   obtain⟨j,hj⟩:∃j,j=(m.bW-(s.aw.bB-s.aw.aA.length)).toNat:=⟨_,rfl⟩
   rw[<-hj] at hd
   have hjl:j<=s.aw.aA.length:=by omega
   have hnx:(kZ s.aw m.bW).bB=s.aw.bB:=by rw[hd]
   have hlen:(kZ s.aw m.bW).aA.length=s.aw.aA.length-j:=by rw[hd];simp
   have hacked:kc (kZ s.aw m.bW)=kc s.aw+j:=by simp only[kc,hnx,hlen];omega
   have ha0:0<=kc s.aw:=by simp only[kc];omega
   have hcut:=VZ s.aw.aA j
   have hb':fC s.aG ((kc s.aw).toNat+j)=fC s.aG (kc s.aw).toNat+gh (s.aw.aA.take j):=by
    refine Ep (λi x hx=>?_) j hjl
    have e1:=(hw.u i x hx).1
    have e2:=h.wn x (aab hx)
    rw[show(kc s.aw).toNat+i=(x.c8-1).toNat by simp only[kc];omega];exact e2
   refine⟨⟨rfl,acM _,.inr ⟨rfl,rfl⟩,acM _,rfl,rfl,acM _,.inr ⟨rfl,rfl⟩,acN _,by simp only[lT,hnx];exact acM _⟩,?_,by simp⟩
   refine⟨h.cl,h.pq,h.pg,h.pv,h.sg,h.s1,h.sk,h.dg,h.dk,h.pr,?_,?_,λx hx=>h.wn x (AI _ _ x hx),?_,?_⟩
   .simp only[lT,hnx];exact h.pe
   .simp only[lT,hnx];exact h.nx
   .show kc (kZ s.aw m.bW)<d.bY.bB
    rw[hacked];simp only[kc] at hak ⊢;omega
   rw[hg.2]
   show a.eg+(s.bU.er+(gh s.aw.aA-gh (kZ s.aw m.bW).aA))=fC s.aG (kc (kZ s.aw m.bW)).toNat
   rw[hacked,show(kc s.aw+(j:Int)).toNat=(kc s.aw).toNat+j by omega,hb',<-hch,hd]
   simp only;omega
  exfalso
  have e1:=pH hk.2.1
  rcases hf with q|⟨q1,q2⟩
  .omega
  rw[hk.2.2] at q2;cases q2
 exact .none h
theorem VJ (hf:m.bh=8->m.bW<=d.bY.bB\/Zk s m):D9 d s a (sUp s m):=by
 rw[sUp]
 cases lS m
 .exact .none h
 simp only[au]
 cases eqB m.bh 1
 .cases eqB m.bh 3
  .cases eqB m.bh 5
   .cases h8:eqB m.bh 8
    .exact .none h
    exact RQ h g (hf (pH h8))
   exact N3 h m
  exact N4 h g m
 exact RR h g m
theorem N2:D9 d s a ⟨lV s,[]⟩:=by
 have hr:=yF g.sp.rcd
 exact⟨⟨rfl,acM _,.inr ⟨rfl,rfl⟩,acM _,rfl,rfl,acM _,.inr ⟨rfl,rfl⟩,acN _,acM _⟩,
  {h with pq:=by show(0:Int)<=s.bE.c8;omega,pg:=λe=>by simp[lV] at e,pv:=λe=>by simp[lV] at e},by simp⟩
theorem RU (b:List Int):D9 d s a ⟨(ta s b).1,[]⟩:=by
 rw[ta]
 cases leB 24 (s.aG.length:Int)||ltB 60 (b.length:Int)
 .simp only[cond_false]
  have hp:s.aG<+:s.aG++[(⟨b⟩:bV)]:=List.prefix_append _ _
  have hnx:=g.sp.nx
  refine⟨⟨rfl,acM _,.inr ⟨rfl,rfl⟩,acM _,rfl,rfl,acM _,.inr ⟨rfl,rfl⟩,hp,acM _⟩,
   {h with pr:=h.pr.trans hp,pe:=λx hx=>⟨JV hp (h.pe x hx).1,(h.pe x hx).2⟩,wn:=λx hx=>JV hp (h.wn x hx),ch:=?_},by simp⟩
  show a.eg+s.bU.er=fC (s.aG++[(⟨b⟩:bV)]) (kc s.aw).toNat
  rw[Nd hp (by simp only[kc];omega)];exact h.ch
 exact .none h
end
theorem Dj.mono {x:ax} (h:Dj s x) (h1:s'.bE=s.bE) (h2:s'.aG=s.aG) (h3:s.aw.bB<=s'.aw.bB):Dj s' x:=by
 obtain⟨k,g,e,b,q1,q2,q3,q4⟩:=h
 exact⟨k,g,e,b,q1,⟨q2.1,by omega⟩,by rw[h2];exact q3,by rw[h1];exact q4⟩
structure TrS (d:aJ) (s:ah) (a:am) (s':ah) (a':am) (r:List ax):Prop where
 rc:s'.bE=s.bE
 gn:s'.ag=s.ag
 rk:s'.aZ=s.aZ
 su:s'.aG=s.aG
 st:s'.bi=s.bi
 wn:s.aw.bB<=s'.aw.bB
 si:SI d s' a'
 rd:∀x∈r,Dj s' x
theorem TrS.mo {d:aJ} {a':am} {r:List ax} (h:TrS d s a s' a' r):B2 d s d s':=
 ⟨rfl,acM _,.inr ⟨rfl,rfl⟩,acM _,by rw[h.rc],by rw[h.rc],by rw[h.rc];exact acM _,.inr ⟨h.gn,h.rk⟩,by rw[h.su];exact acN _,h.wn⟩
theorem SI.pay {d:aJ} {a':am} (h:SI d s a) (h1:s'.bE=s.bE) (h2:s'.aK=s.aK) (h3:s'.bL=s.bL) (h4:s'.bi=s.bi) (h5:s'.ag=s.ag) (h6:s'.aZ=s.aZ) (h7:s'.aG=s.aG) (h8:s'.aw=s.aw) (h9:a'.eg+s'.bU.er=a.eg+s.bU.er):SI d s' a':=
 ⟨by rw[h1];exact h.cl,by rw[h1,h3];exact h.pq,by rw[h3,h5];exact h.pg,by rw[h1,h2,h3];exact h.pv,by rw[h1,h5];exact h.sg,by rw[h4,h5];exact h.s1,by rw[h1,h5,h6];exact h.sk,h.dg,by rw[h1];exact h.dk,by rw[h7];exact h.pr,by rw[h7,h8];exact h.pe,by rw[h8];exact h.nx,by rw[h7,h8];exact h.wn,by rw[h8];exact h.ak,by rw[h9,h7,h8];exact h.ch⟩
theorem Nq (h:SG s a) (n:Int):(cQ s a n).2.eg+(cQ s a n).1.bU.er=a.eg+s.bU.er:=by
 rw[cQ]
 cases leB (jC s n) 0
 .have:=(Ao h.mo.acc s.bU.aC (Dx (jC s n) s.gG.et)).2.2.2.2.2.1
  simp only[cond_false,jk,this]
 rfl
theorem QX {d:aJ} (h:SI d s a) (g:SG s a) (n:Int):SI d (cQ s a n).1 (cQ s a n).2:=by
 obtain⟨q,hk⟩:=lF s a n
 have hp:=Nq g n
 exact h.pay (by rw[hk]) (by rw[hk]) (by rw[hk]) (by rw[hk]) (by rw[hk]) (by rw[hk]) (by rw[hk]) (by rw[hk]) hp
theorem Yi {d:aJ} (h:SI d s a) (g:SG s a) {x:bV} (e:qC s=some x):SI d {s with aw:=pC s.aw x.bb} a:=by
 obtain⟨hm,_,hx,hn,hl,hb⟩:=lR g.sp e
 have hnx:=h.nx
 have hac:kc (pC s.aw x.bb)=kc s.aw:=by simp only[kc,pC,List.length_append,aai,ab0];omega
 refine⟨h.cl,h.pq,h.pg,h.pv,h.sg,h.s1,h.sk,h.dg,h.dk,h.pr,λy hy=>⟨(h.pe y hy).1,by have:=(h.pe y hy).2;simp only[pC];omega⟩,by simp only[pC];omega,λy hy=>?_,by rw[hac];exact h.ak,by rw[hac];exact h.ch⟩
 simp only[pC,aac,ab4] at hy
 rcases hy with hy|hy
 .exact h.wn y hy
 subst hy;exact hx
theorem Im {d:aJ} (h:SI d s a) (h1:s.bi=1) {y:ae} (hy:s.aG[(y.c8-1).toNat]?=some ⟨y.bb⟩) (hk:1<=y.c8/\y.c8<s.aw.bB) (e:Int):Dj s (iF s.aZ s.ag e y):=by
 have hg:=h.s1 h1
 exact⟨y.c8,s.ag,e,y.bb,hg,hk,hy,by rw[h.sk hg]⟩
theorem Ip {d:aJ}:∀(k:Nat) {s:ah} {a:am} {r:List ax},SI d s a->SG s a->s.bi=1->(∀x∈r,Dj s x)->TrS d s a (f7 k s a r).1 (f7 k s a r).2.1 (f7 k s a r).2.2
 |0,s,a,r,h,g,h1,hr=>⟨rfl,rfl,rfl,rfl,rfl,acM _,h,hr⟩
 |k+1,s,a,r,h,g,h1,hr=>by
  rw[f7]
  cases e:qC s with
  |none=>exact⟨rfl,rfl,rfl,rfl,rfl,acM _,h,hr⟩
  |some x=>
   obtain⟨hm,_,hx,hn,hl,hb⟩:=lR g.sp e
   have he:=rY g (n:=(x.bb.length:Int)) oaa
   have hsi:=QX h g (x.bb.length:Int)
   obtain⟨q,hk⟩:=lF s a (x.bb.length:Int)
   have hw:=g.sp.win.n
   simp only
   cases hq:ltB 0 (jC (cQ s a (x.bb.length:Int)).1 (x.bb.length:Int))
   .simp only[cond_false]
    have e':qC (cQ s a (x.bb.length:Int)).1=some x:=by rw[hk];exact e
    have hsent:=Yi hsi he e'
    have hsg:=y9 he e' hq
    have hst:({(cQ s a (x.bb.length:Int)).1 with aw:=pC (cQ s a (x.bb.length:Int)).1.aw x.bb}:ah).bi=1:=by rw[hk];exact h1
    have hrad:∀y∈r++[iF (cQ s a (x.bb.length:Int)).1.aZ (cQ s a (x.bb.length:Int)).1.ag (cQ s a (x.bb.length:Int)).1.aX ⟨(cQ s a (x.bb.length:Int)).1.aw.bB,x.bb⟩],Dj {(cQ s a (x.bb.length:Int)).1 with aw:=pC (cQ s a (x.bb.length:Int)).1.aw x.bb} y:=by
     intro y hy
     rcases aac.1 hy with hy|hy
     .exact(hr y hy).mono (by rw[hk]) (by rw[hk]) (by rw[hk];simp only[pC];omega)
     simp at hy;subst hy
     exact Im hsent hst (y:=⟨(cQ s a (x.bb.length:Int)).1.aw.bB,x.bb⟩) (by rw[hk];exact hx) (by rw[hk];simp only[pC];omega) _
    have ih:=Ip k hsent hsg hst hrad
    refine⟨by rw[ih.rc,hk],by rw[ih.gn,hk],by rw[ih.rk,hk],by rw[ih.su,hk],by rw[ih.st,hk],?_,ih.si,ih.rd⟩
    refine acP ?_ ih.wn
    rw[hk];simp only[pC];omega
   simp only[cond_true]
   refine⟨by rw[hk],by rw[hk],by rw[hk],by rw[hk],by rw[hk],by rw[hk];exact acM _,hsi,λy hy=>(hr y hy).mono (by rw[hk]) (by rw[hk]) (by rw[hk];exact acM _)⟩
theorem M9 {d:aJ} (h:SI d s a) (g:SG s a) (h1:s.bi=1):∀x∈xz s,Dj s x:=by
 rw[xz,h1]
 simp only[bR,cond_true]
 intro x hx
 obtain⟨y,hy,rfl⟩:=aa7.1 hx
 have hy:=aaA hy
 obtain⟨k,hk⟩:=aap hy
 have hu:=(g.sp.win.u k y hk).1
 have hf:=g.sp.win.f
 have hlt:=(aaa.1 hk).1
 exact Im h h1 (h.wn y hy) oaa _
theorem RX {d:aJ} (h:SI d s a) (g:SG s a) (m:aS):TrS d s a (ip s a m).aU (ip s a m).d8 (ip s a m).cA/\∀x∈(ip s a m).ja,x.bh=7:=by
 rw[ip]
 cases h1:eqB s.bi 1
 .exact⟨⟨rfl,rfl,rfl,rfl,rfl,acM _,h,by simp⟩,by simp⟩
 have h1:=pH h1
 simp only[au]
 have hg:=A6 g
 have hq:=vu g.sp
 cases ltB 4 (iX s)
 .simp only[cond_false,Ik]
  have hsi:SI d {s with dX:=iX s,dP:=(mD s).2,bU:=(fr s a).2} (fr s a).1:=h.pay rfl rfl rfl rfl rfl rfl rfl rfl hg.2.2.2.1
  have ht:=Ip 2 hsi (g.upd hq (vx g.sp)) h1 (r:=[]) (by simp)
  refine⟨⟨ht.rc,ht.gn,ht.rk,ht.su,ht.st,ht.wn,ht.si,λx hx=>?_⟩,by simp⟩
  rcases aac.1 hx with hx|hx
  .have hx':Dj s x:=by
    rw[mD] at hx;revert hx
    cases Dm s
    .simp
    cases ltB 0 s.dP
    .exact M9 h g h1 x
    simp
   exact hx'.mono ht.rc ht.su ht.wn
  exact ht.rd x hx
 simp only[cond_true,FV]
 refine⟨⟨rfl,rfl,rfl,rfl,rfl,acM _,h.pay rfl rfl rfl rfl rfl rfl rfl rfl hg.2.2.2.1,by simp⟩,λx hx=>?_⟩
 obtain⟨c,_,rfl⟩:=aa7.1 hx
 rfl
theorem MP.key {nc:Nat} {d:aJ} (h:MP nc i d s a):d.dq.fo=s.bE.fo:=by
 have:=h.ids
 simp only[Fa,hV,eqB_t] at this
 exact this.2
theorem RF (h:PI n) {d:aJ} (hd:n.av[i]?=some d) (hs:n.aF[i]?=some s) (ha:n.bk[i]?=some a) {r:bI} (st:D9 d s a r):PI (Co n i r):=by
 have hi:=(aaa.1 hs).1
 have hm:=h.setM hd hs st.mo (a':=a) st.si
 rw[gY hd,gY ha] at hm
 refine PI.sends _ hm λf hf x y hx hy=>?_
 obtain⟨m,hm',rfl⟩:=aa7.1 hf
 simp only[i6,abY] at hx hy
 have e1:(n.aF.set i r.aU)[i]?=some r.aU:=by simp[hi]
 rw[e1] at hy;rw[hd] at hx
 cases hx;cases hy
 exact⟨λh1 _=>by simp[i6] at h1,λ_ h1=>by simp[i6] at h1,λ_ _ h3=>.inl (st.sg m hm' h3)⟩
theorem Vi (h:PI n) {d:aJ} (hd:n.av[i]?=some d) (hs:n.aF[i]?=some s) (ha:n.bk[i]?=some a) {t:bM} (st:TrS d s a t.aU t.d8 t.cA) (hp:∀x∈t.ja,x.bh=7):PI (vq n i t):=by
 have hi:=(aaa.1 hs).1
 have hm:=h.setM hd hs st.mo st.si
 rw[gY hd] at hm
 have e1:(n.aF.set i t.aU)[i]?=some t.aU:=by simp[hi]
 have hpg:=PI.sends (t.ja.map (i6 i false)) hm λf hf x y hx hy=>by
  obtain⟨m,hm',rfl⟩:=aa7.1 hf
  have hk:=hp m hm'
  exact⟨λh1 _=>by simp[i6] at h1,λ_ h1=>by simp[i6] at h1,λ_ _ h3=>by simp only[i6] at h3;omega⟩
 have hkeep:=iU (t.ja.map (i6 i false)) {n with aF:=n.aF.set i t.aU,bk:=n.bk.set i t.d8}
 refine PI.sends _ hpg λf hf x y hx hy=>?_
 obtain⟨m,hm',rfl⟩:=aa7.1 hf
 rw[hkeep.2.1] at hy
 simp only[rH,abY] at hy
 rw[e1] at hy;cases hy
 exact⟨λh1=>by simp[rH] at h1,λ_ _=>.inl (st.rd m hm'),λ_ h1=>by simp[rH] at h1⟩
theorem MI:∀(c i:Nat) {B:Int} {n:ab},NP B n->B+c<4611686018427387904->PI n->PI (nk c i n)
 |0,_,_,_,_,_,h=>h
 |c+1,i,B,n,hn,hB,h=>by
  rw[nk]
  cases hd:n.av[i]? with
  |none=>exact h
  |some d=>
   obtain⟨d',s,a,e1,e2,e3,hm⟩:=hn.at_ (aaa.1 hd).1
   rw[hd] at e1;cases e1
   exact MI c (i+1) (mu hn hd (u7 d) (AW hm.dp) hm.dc oaa) oaa (vp h hd e2 e3 (TJ (h.si i d s a hd e2 e3)))
theorem MK:∀(c i:Nat) {B:Int} {n:ab},NP B n->B+2000*c<4611686018427387904->PI n->PI (uG c i n)
 |0,_,_,_,_,_,h=>h
 |c+1,i,B,n,hn,hB,h=>by
  rw[uG]
  cases hs:n.aF[i]? with
  |none=>exact h
  |some s=>cases ha:n.bk[i]? with
   |none=>exact h
   |some a=>
    have hls:=hn.ls
    have hml:=mr hn.map
    obtain⟨d,s',a',e1,e2,e3,hm⟩:=hn.at_ (i:=i) (by have:=(aaa.1 hs).1;omega)
    rw[hs] at e2;rw[ha] at e3;cases e2;cases e3
    have ht:=RX (h.si i d s a e1 hs ha) hm.sg n.ei
    exact MK c (i+1) (Fy hn hs ha (yt hm.sg oaa) (F8 hm.sg hn.map) oaa) oaa (Vi h e1 hs ha ht.1 ht.2)
theorem Tz (h:PI n) (k:Nat):PI (jq n k):=⟨h.si,λf hf=>h.fi f (by
 simp only[jq,aac] at hf
 rcases hf with hf|hf
 .exact aaA hf
 exact List.mem_of_mem_drop hf)⟩
theorem EA (hn:NP B n) (h:PI n) (k:Nat):PI (jj n k):=by
 rw[jj]
 cases hf:n.aT[k]? with
 |none=>exact h
 |some f=>
  have hfm:=aab hf
  have hp:=hn.fs f hfm
  have h1:=Tz h k
  have hdd:=hp.d
  obtain⟨d,s,a,e1,e2,e3,hm⟩:=hn.at_ (i:=f.bm.toNat) oaa
  have hfi:=h.fi f hfm d s e1 e2
  have hsi:=h.si _ d s a e1 e2 e3
  have q1:(jq n k).av[f.bm.toNat]?=some d:=e1
  have q2:(jq n k).aF[f.bm.toNat]?=some s:=e2
  have q3:(jq n k).bk[f.bm.toNat]?=some a:=e3
  simp only
  cases zr (jq n k) f.bg
  .exact⟨h1.si,h1.fi⟩
  simp only[q1,q2,au]
  cases hu:f.eW
  .simp only[cond_false]
   cases eqB d.bg f.bg
   .exact⟨h1.si,h1.fi⟩
   simp only[au]
   cases hr:f.ef
   .exact vp h1 q1 q2 q3 (W4 hsi hm.key (yF hm.sg.sp.rcd).2 (λe=>hfi.dn hu hr e))
   exact vp h1 q1 q2 q3 (W2 hsi (N1.1 hm.dp.rc.v) hm.sg.sp hm.sg.b1 (hfi.rd hu hr))
  simp only[cond_true]
  cases hr:f.ef||!eqB f.bA.bg f.bg
  .simp only[cond_false]
   simp only[aaq] at hr
   exact RF h1 q1 q2 q3 (VJ hsi hm.sg (λe=>hfi.up hu hr.1 e))
  exact h1
theorem Xn {d:aJ} {f:bS} (h:(bif f.ef then f.eW||Ll d f.cA else bif f.eW then hUp s f.bA else HQ d f.bA)=true):FI d s f:=by
 refine⟨λh1 h2 h3=>?_,λh1 h2=>?_,λh1 h2 h3=>?_⟩
 .rw[h2,h1] at h
  simp only[hUp,h3,show eqB 8 3=false from by simp[eqB],bR,Bool.or_true,au] at h
  right
  rcases aam _ _ |>.mp h with q|q
  .exact .inl (mI q)
  rw[hV] at q;exact .inr ⟨pH q.1,by simpa using q.2⟩
 .rw[h2,h1] at h
  simp only[cond_true,aaJ,Ll] at h
  right
  rcases aam _ _ |>.mp h with q|q
  .exact .inl (mI q)
  rw[hV] at q;exact .inr ⟨pH q.1,by simpa using q.2⟩
 rw[h2,h1] at h
 simp only[HQ,h3,bR,au] at h
 right
 rcases aam _ _ |>.mp h with q|q
 .exact .inl (pH q)
 exact .inr (pH q)
theorem PI.same {n':ab} (h:PI n) (h1:n'.av=n.av) (h2:n'.aF=n.aF) (h3:n'.bk=n.bk) (h4:∀f∈n'.aT,f∈n.aT):PI n':=
 ⟨by rw[h1,h2,h3];exact h.si,λf hf=>by rw[h1,h2];exact h.fi f (h4 f hf)⟩
theorem own_PI (hn:NP B n) (h:PI n) (e:dN):PI (Fr n e).2:=by
 rw[Fr]
 cases inR e.cB 0 ((n.av.length:Int)-1)
 .exact h
 simp only[au]
 cases hd:n.av[e.cB.toNat]? with
 |none=>exact h
 |some d=>
  obtain⟨d',s,a,e1,e2,e3,hm⟩:=hn.at_ (aaa.1 hd).1
  rw[hd] at e1;cases e1
  have hsi:=h.si _ d s a hd e2 e3
  simp only[e2]
  cases eqB e.bh 5
  .simp only[cond_false]
   cases eqB e.bh 6
   .simp only[cond_false]
    cases eqB e.bh 7
    .simp only[cond_false]
     cases(ta s e.bb).2
     .exact h
     have st:=RU hsi hm.sg e.bb
     have hm':=h.setM hd e2 st.mo (a':=a) st.si
     rw[gY hd,gY e3] at hm'
     exact hm'
    simp only[cond_true]
    cases eqB d.bi 2
    .exact h
    have st:=Xw hsi
    have hm':=h.setM hd e2 st.2 (a':=a) st.1
    rw[gY e2,gY e3] at hm'
    exact hm'
   simp only[cond_true]
   cases eqB e.bg d.bg||!eL n.ei e.bg
   .exact vp h hd e2 e3 (TI hsi e.bg)
   exact h
  simp only[cond_true]
  cases eqB d.bi 0
  .exact h
  exact vp h hd e2 e3 (Zw hsi)
theorem R8 (hn:NP B n) (h:PI n) (k:Int) (up:Bool):PI (oQ n k up).2:=by
 rw[oQ]
 cases !inR k 0 (n.ev.fx-1)||(booB (tu n.ev k) up||eqB (lZ n.ev k up).fB 0)
 .simp only[cond_false]
  have key:∀(i:Nat) d s' a,n.av[i]?=some d->(zw n.ev (lZ n.ev k up) n.aF.length 0 n.aF)[i]?=some s'->n.bk[i]?=some a->∃s,n.aF[i]?=some s/\SI d s' a/\B2 d s d s':=by
   intro i d s' a hd hs ha
   rcases rZ n.ev (lZ n.ev k up) n.aF.length 0 n.aF i with q|⟨t,q1,q2⟩
   .rw[q] at hs;exact⟨s',hs,h.si i d s' a hd hs ha,B2.refl d s'⟩
   rw[q2] at hs;cases hs
   have hm:=hn.m i d t a hd q1 ha
   have st:=N2 (h.si i d t a hd q1 ha) hm.sg
   exact⟨t,q1,st.si,st.mo⟩
  refine⟨λi d s' a hd hs ha=>?_,λf hf d s' hd hs=>?_⟩
  .obtain⟨s,_,g,_⟩:=key i d s' a hd hs ha;exact g
  obtain⟨d',t,a,e1,e2,e3,hm⟩:=hn.at_ (i:=f.bm.toNat) (aaa.1 hd).1
  obtain⟨s,g1,_,g2⟩:=key _ d s' a hd hs e3
  exact(h.fi f hf d s hd g1).mono g2
 exact h
theorem KQ (hn:NP B n) (hB:B+10000<4611686018427387904) (h:PI n) (he:EP e) (hh:sN n e=true):PI (kv n e).2:=by
 rw[kv]
 split
 .rw[xh]
  cases hb:leB 100000 n.qO
  .simp only[cond_false]
   have hb:=xq hb
   have hl:=hn.ld
   have hnw:=hn.nw
   have h1:NP B {n with qO:=n.qO+1}:={hn with nw:=by simp only;omega}
   have p1:PI {n with qO:=n.qO+1}:=h.same rfl rfl rfl (λf hf=>hf)
   have p2:=MI n.av.length 0 h1 oaa p1
   have hnp:∀(c i:Nat) {B:Int} {n:ab},NP B n->B+c<4611686018427387904->NP (B+c) (nk c i n):=by
    intro c
    induction c with
    |zero=>intro i B n hn _;simpa [nk] using hn
    |succ c ih=>
     intro i B n hn hB
     rw[nk]
     cases hd:n.av[i]? with
     |none=>exact hn.mono oaa
     |some d=>
      obtain⟨d',s,a,e1,e2,e3,hm⟩:=hn.at_ (aaa.1 hd).1
      rw[hd] at e1;cases e1
      exact(ih (i+1) (mu hn hd (u7 d) (AW hm.dp) hm.dc oaa) oaa).mono oaa
   have h2:=hnp n.av.length 0 h1 oaa
   have hls:=h2.ls
   have hl2:=h2.ld
   exact MK _ 0 h2 oaa p2
  exact h
 split
 .rw[t9]
  cases inR e.cB 0 ((n.aT.length:Int)-1)
  .exact h
  simp only[au]
  cases eqB e.bh 2
  .simp only[cond_false]
   cases eqB e.bh 3
   .simp only[cond_false]
    cases leB 200 (n.aT.length:Int)
    .simp only[cond_false]
     cases hf:n.aT[e.cB.toNat]? with
     |none=>exact h
     |some f=>exact h.send (h.fi f (aab hf))
    exact h
   exact(Tz h _).same rfl rfl rfl (λf hf=>hf)
  exact EA hn h _
 split
 .exact own_PI hn h e
 split
 .rw[C0];cases !eL n.ei e.cB||booB (zr n e.cB) (eqB e.bh 10)
  .exact h.same rfl rfl rfl (λf hf=>hf)
  exact h
 split
 .exact R8 hn h _ _
 split
 .rename_i h13
  rw[xZ];cases hp:zL n e.b8
  .exact h
  refine h.send λd s hd hs=>?_
  rw[sN,h13,hp] at hh
  simp only[bR,Bool.not_true,aaJ,aam,aaD,decide_eq_true_eq] at hh
  rcases hh with⟨f,hf,rfl⟩|hh
  .exact h.fi _ hf d s hd hs
  rw[Uk,hd,hs] at hh
  exact Xn hh
 exact h
theorem new_PI {m:aS} {rs:List aO} {p:bP} {b:Int} (hv:uH rs=true):PI (iG m rs p b rs.length):=by
 refine⟨λi d s a hd hs ha=>?_,λf hf=>by simp[iG] at hf⟩
 obtain⟨hk,rfl⟩:=yi hd
 obtain⟨_,rfl⟩:=yi hs
 obtain⟨_,rfl⟩:=yi ha
 simp only[uH,hV,eM] at hv
 have hr:=hv.1 i _ (v0 hk)
 simp only[C6,hV] at hr
 have hq:=yF hr.1
 have hg:rs.getD i default=rs[i]:=Pb (v0 hk)
 refine⟨acM _,?_,λe=>?_,λe=>?_,?_,λe=>?_,λe=>?_,?_,λe=>?_,?_,?_,?_,?_,?_,?_⟩
 .simp only[nh];rw[hg];exact hq.1
 .simp[nh] at e
 .simp[nh] at e
 .simp only[nh];rw[hg];exact hq.1
 .simp[nh] at e
 .simp[nh] at e
 .simp only[uN];rw[hg];exact hq.1
 .simp[uN] at e
 .simp[uN]
 .simp[uN]
 .simp[uN,nh]
 .simp[nh]
 .simp[kc,nh,uN]
 simp[kc,nh,zp,fC]
theorem Reach.pi:∀{k:Nat} {n:ab},Reach k n->k<=1000000->PI n
 |_,_,.new h hm hp hl _,_=>new_PI h.2.2
 |_,_,.step h he hh,hk=>KQ (h.np oaa) oaa (h.pi oaa) he hh
section
variable {B:Int} {n:ab} (h:NP B n) {i:Nat} {d:aJ} {s:ah} {a:am} (hd:n.av[i]?=some d) (hs:n.aF[i]?=some s) (ha:n.bk[i]?=some a)
include h hd hs ha
omit hs ha in
theorem hasD:wk n (i:Int)=some true/\tZ n (i:Int)=some true:=by
 have h1:=h.ls
 have h2:=h.la
 have h3:=h.ld
 have hi:=(aaa.1 hd).1
 simp only[wk,tZ,gE,bO (n:=(n.av.length:Int)-1) oaa,bO (n:=(n.aF.length:Int)-1) oaa,bO (n:=(n.bk.length:Int)-1) oaa,bQ.2 (show(0:Int)<=(i:Int)/\(i:Int)<=(n.av.length:Int)-1 by omega),bQ.2 (show(0:Int)<=(i:Int)/\(i:Int)<=(n.aF.length:Int)-1 by omega),bQ.2 (show(0:Int)<=(i:Int)/\(i:Int)<=(n.bk.length:Int)-1 by omega),au]
 exact⟨trivial,trivial⟩
theorem QP:p3 n (i:Int)=some (a.eg+s.bU.er):=by
 obtain⟨e1,e2⟩:=hasD h hd
 have hm:=h.m i d s a hd hs ha
 have q1:=hm.sg.mo.acc.s
 have q2:=hm.sg.mo.acc.t
 have q3:=hm.sg.sp.q
 have q4:=q3.u
 have q5:=q3.g
 have q6:=q3.m
 simp only[p3,e2,bp,ha,hs,bO (n:=a.eg+s.bU.er) oaa,au]
theorem WL:jf s=some (kc s.aw):=by
 have hm:=h.m i d s a hd hs ha
 have hn:=hm.sg.sp.win.n
 have hl:=hm.sg.sp.win.l
 rw[jf,bO (n:=s.aw.bB-1) oaa,bO oaa];rfl
end
theorem KW {l:List bV}:∀{j k:Nat},j<=k->fC l j<=fC l k:=by
 intro j k h
 obtain⟨m,rfl⟩:∃m,k=j+m:=⟨k-j,by omega⟩
 clear h
 induction m with
 |zero=>exact acM _
 |succ m ih=>
  refine acP ih ?_
  rw[<-Nat.add_assoc]
  by_cases hk:j+m<l.length
  .rw[CN (v0 hk)];omega
  simp only[fC]
  rw[ab7 oaa,ab7 oaa];exact acM _
theorem QJ (l:List bV) (k:Nat):0<=fC l k:=by
 have:=KW (l:=l) (Nat.zero_le k)
 simpa [fC] using this
structure Paid (d:aJ) (s:ah) (a:am):Prop where
 le:d.bY.be.length<=s.aG.length
 eq:s.aG.take d.bY.be.length=d.bY.be
 ch:a.eg+s.bU.er<=fC s.aG d.bY.be.length
 to:a.eg+s.bU.er<=a.eE
theorem Qj {xs:List Int} (hl:xs.length<=1048576) {m:Int} (hm:3<=m/\m<=900):∃r,BL xs m=some r/\3<=r/\r<=m:=by
 have h0:0<=acO (xs.length:Int) 12/\acO (xs.length:Int) 12<=1048576:=by
  rw[Int.tdiv_eq_ediv_of_nonneg oaa];omega
 rw[BL]
 rw[bO (n:=acO (xs.length:Int) 12) oaa,bO (n:=3+acO (xs.length:Int) 12) oaa]
 cases hb:ltB m (3+acO (xs.length:Int) 12)
 .have:=pP hb;exact⟨_,rfl,by omega,by omega⟩
 exact⟨m,rfl,by omega,acM _⟩
structure SW (n:ab):Prop where
 np:∃B:Int,NP B n/\B<=100000000
 pi:PI n
 dl:1<=n.av.length/\n.av.length<=3
 re:∃k,Reach k n/\k<=200
 ru:∃k,D8 k n/\k<=200
theorem RN.good {B:Nat} (h:RN B l n) (hB:B<=200) (hl:1<=l/\l<=3):SW n:=by
 obtain⟨k,h1,h2,h3⟩:=h
 exact⟨⟨_,h1.re.np oaa,by omega⟩,h1.re.pi oaa,by omega,⟨k,h1.re,by omega⟩,k,h1,by omega⟩
theorem wRunG {xs:List Int} (hl:xs.length<=1048576) (hu:∀x∈xs,ye x) {c:bj} (hc:dM c) {a m:Int} (ha:0<=a/\a<=90) (hm:3<=m/\m<=60) {r:Int} (hr:BL xs m=some r):
 Wp (BU c (WR (a+r))) (λr=>dM r.2.2.2/\SW r.1/\SW r.2.2.1/\r.2.1.length<=1010/\∀e∈r.2.1,EP e):=by
 obtain⟨r',h1,h2,h3⟩:=Qj hl (m:=m) oaa
 rw[hr] at h1;cases h1
 rw[bO (n:=a+r) oaa]
 refine Wp.mono (w33Run hc oaa) λx hx=>?_
 obtain⟨g1,l,g2,g3,g4,g5,g6⟩:=hx
 exact⟨g1,g3.good oaa g2,g4.good oaa g2,g5,g6⟩
theorem Kx {xs:List Int} (hl:xs.length<=1048576) (hu:∀x∈xs,ye x):Wp (rN xs) SW:=by
 unfold rN
 obtain⟨c,e,hc,_⟩:=new_ok hl hu
 obtain⟨r,h1,_,_⟩:=Qj hl (m:=50) oaa
 refine Wp.eq e (Wp.eq h1 ?_)
 unfold yC
 exact Wp.call (P:=λr=>SW r.1) (Wp.call (wRunG hl hu hc (a:=40) (m:=50) oaa oaa h1) λx hx=>Wp.some hx.2.2.1) λx hx=>Wp.some hx
def B8:Nat->ab->ab
 |0,n=>n
 |c+1,n=>bif eqB (n.aT.length:Int) 0 then n else B8 c (jj n 0)
theorem OW:∀(c:Nat) {B:Int} {n:ab},NP B n->B+c<4611686018427387904->NP (B+c) (B8 c n)
 |0,B,n,h,_=>by simpa [B8] using h
 |c+1,B,n,h,hB=>by
  rw[B8]
  cases eqB (n.aT.length:Int) 0
  .have:=OW c (wa h 0 oaa) oaa
   exact this.mono oaa
  exact h.mono oaa
theorem OX:∀(c:Nat) {B:Int} {n:ab},NP B n->B+c<4611686018427387904->PI n->PI (B8 c n)
 |0,B,n,_,_,p=>p
 |c+1,B,n,h,hB,p=>by
  rw[B8]
  cases eqB (n.aT.length:Int) 0
  .exact OX c (wa h 0 oaa) oaa (EA h p 0)
  exact p
theorem H4:∀(c k fu:Nat) (m:Nat) {B:Int} {n:ab},NP B n->B+c<4611686018427387904->k+c=m->m<=4000->c<fu->iter (jT (m:Int)) fu ((k:Int),n)=some (B8 c n)
 |0,k,fu,m,B,n,h,hB,h1,h2,h3=>by
  cases fu with
  |zero=>omega
  |succ fu=>rw[iter];simp only[jT,ltB_f.2 (show(m:Int)<=(k:Int) by omega),B8,au]
 |c+1,k,fu,m,B,n,h,hB,h1,h2,h3=>by
  cases fu with
  |zero=>omega
  |succ fu=>
   rw[iter,B8]
   simp only[jT,ltB_t.2 (show(k:Int)<(m:Int) by omega),au]
   by_cases e:n.aT.length=0
   .rw[ltB_f.2 (show(n.aT.length:Int)<=0 by omega),eqB_t.2 (show(n.aT.length:Int)=0 by omega)];rfl
   rw[ltB_t.2 (show(0:Int)<(n.aT.length:Int) by omega),eqB_f.2 (show(n.aT.length:Int)≠0 by omega)]
   have hd:=HA h (k:=0) oaa
   simp only[au]
   rw[show(0:Int)=((0:Nat):Int) from rfl,hd]
   simp only[abX,WRs (k:=k)]
   exact H4 c (k+1) fu m (wa h 0 oaa) oaa oaa h2 oaa
theorem XV (h:NP B n) (hB:B+4000<4611686018427387904):qa n 4000=some (B8 4000 n):=by
 have:=H4 4000 0 FU 4000 h oaa oaa oaa (by have:=hO;omega)
 rw[qa,show iter (jT 4000) FU (0,n)=_ from this];rfl
def UM (n:ab):ab:=B8 4000 (xh n).2
def oP:Nat->ab->ab
 |0,n=>n
 |c+1,n=>oP c (UM n)
theorem HV (h:NP B n) (hB:B+14000<4611686018427387904):NP (B+14000) (UM n):=
 (OW 4000 (zn h oaa).2.2 oaa).mono oaa
theorem FH:∀(c k fu:Nat) (m:Nat) {B:Int} {n:ab},NP B n->B+14000*c<4611686018427387904->k+c=m->m<=200->c<fu->iter (sP (m:Int)) fu ((k:Int),n)=some (oP c n)
 |0,k,fu,m,B,n,h,hB,h1,h2,h3=>by
  cases fu with
  |zero=>omega
  |succ fu=>rw[iter];simp only[sP,ltB_f.2 (show(m:Int)<=(k:Int) by omega),cond_false,oP]
 |c+1,k,fu,m,B,n,h,hB,h1,h2,h3=>by
  cases fu with
  |zero=>omega
  |succ fu=>
   have ht:=zn h oaa
   rw[iter,oP]
   simp only[sP,ltB_t.2 (show(k:Int)<(m:Int) by omega),ht.2.1,XV ht.2.2 oaa,WRs (k:=k),au]
   exact FH c (k+1) fu m (HV h oaa) oaa oaa h2 oaa
theorem Vy (h:NP B n) {m:Nat} (hm:m<=200) (hB:B+14000*m<4611686018427387904):Bd n (m:Int)=some (oP m n):=by
 have:=FH m 0 FU m h hB oaa hm (by have:=hO;omega)
 simp only[Bd,net_ci h.okN,H1 h.okN,h.vn,gE,bQ.2 (show(0:Int)<=(m:Int)/\(m:Int)<=200 by omega),au]
 rw[show iter (sP (m:Int)) FU (0,n)=_ from this];rfl
def rootAt (r:aO) (g:Int):Int:=if g=0 then 0 else zE r g
def RadS (s:ah) (x:ax):Prop:=Dj s x\/w6 (rootAt s.bE x.ag) x=false
structure PR (n:ab):Prop where
 dz:∀d∈n.av,d.ag=0->d.aZ=0
 sz:∀s∈n.aF,s.ag=0->s.aZ=0
 rd:∀f∈n.aT,f.ef=true->f.eW=false/\∀s,n.aF[f.bm.toNat]?=some s->RadS s f.cA
section
variable {B:Int} {n:ab} (hn:NP B n) (h:PR n) {i:Nat} {d:aJ} {s:ah} {a:am} (hd:n.av[i]?=some d) (hs:n.aF[i]?=some s) (ha:n.bk[i]?=some a)
include hn h hd hs ha
end
section
variable {B:Int} {n:ab} (hn:NP B n) (p:PI n) (h:PR n) {i:Nat} {s:ah} (hs:n.aF[i]?=some s)
include hn p h hs
end
theorem Uy {ρ:Type} {L:Int->Option (ct Int ρ)} (xs:List α) (f:ρ) {c:Option ρ} (hl:xs.length<=9223372036854775806)
 (hs:∀(k:Nat) (x:α),xs[k]?=some x->k<xs.length->L (k:Int)=some (.next ((k+1:Nat):Int))) (he:L (xs.length:Int)=dn c):iter L FU 0=c:=by
 have:=lD (L:=L) xs (λ_ _=>true) f c hl (λk x hx hk=>by rw[hs k x hx hk];rfl) he
 rw[this,B3];rfl
theorem Lg:∀(xs:List bV) (v:Int),0<=v->v+60*xs.length<=1000000->(∀p∈xs,p.bb.length<=60)->kj (λ(v:Int) (x:bV)=>some (ct.next (WR (v+(x.bb.length:Int))))) some xs v=some (v+(xs.map λp=>(p.bb.length:Int)).sum)
 |[],v,_,_,_=>by simp[kj]
 |x::xs,v,h1,h2,h3=>by
  have hx:=h3 x (by simp)
  simp only[aai] at h2
  rw[kj]
  simp only[bO (n:=v+(x.bb.length:Int)) oaa]
  rw[Lg xs _ oaa oaa (λp hp=>h3 p (by simp[hp]))]
  simp only[aaB,acQ];congr 1;omega
theorem Hv:∀{l:List bV} (k:Nat),(∀p∈l,p.bb.length<=60)->fC l k<=60*(l.length:Int)
 |[],k,_=>by simp[fC]
 |p::l,0,_=>by simp only[fC,List.take_zero,abd,acV];omega
 |p::l,k+1,h=>by
  have h1:=Hv (l:=l) k (λq hq=>h q (by simp[hq]))
  have h2:=h p (by simp)
  simp only[fC] at h1 ⊢
  rw[List.take_succ_cons,aaB,acQ,aai];omega
theorem WU (h:SP s) (k:Int):mY s k=some (fC s.aG k.toNat):=by
 have hl:=h.sl
 obtain⟨m,hm,hm2,hm3⟩:∃m:Nat,m=min k.toNat s.aG.length/\m<=s.aG.length/\s.aG.take m=s.aG.take k.toNat:=
  ⟨_,rfl,Nat.min_le_right _ _,by rw[List.take_eq_take_min (i:=k.toNat)]⟩
 have hlt:(s.aG.take m).length=m:=by simp;omega
 have hspec:=eG (step:=iH s k) (s.aG.take m) (λj (v:Int)=>(v,(j:Int))) (λv x=>some (.next (WR (v+(x.bb.length:Int))))) some oaa
  (λj x v hx hj=>by
   rw[hlt] at hj
   have hx':s.aG[j]?=some x:=by rw[aat,if_pos hj] at hx;exact hx
   have h1:ltB (j:Int) k=true:=ltB_t.2 oaa
   have h2:ltB (j:Int) (s.aG.length:Int)=true:=cI oaa
   simp[iH,h1,h2,hx',WRs (k:=j)]) (λv=>by
   rw[hlt]
   have:ltB (m:Int) (s.aG.length:Int)=false\/ltB (m:Int) k=false:=by
    simp only[ltB_f];omega
   rcases this with h1|h1
   .simp[iH,h1]
   simp only[iH,h1];cases ltB (m:Int) (s.aG.length:Int)<;>rfl) 0
 simp only[mY]
 rw[show iter (iH s k) FU (0,0)=_ from hspec,Lg _ _ oaa (by simp;omega) (λp hp=>h.sd p (aaA hp))]
 simp only[abX,fC,hm3];congr 1;omega
section
variable {B:Int} {n:ab} (h:NP B n) {i:Nat} {d:aJ} {s:ah} {a:am} (hd:n.av[i]?=some d) (hs:n.aF[i]?=some s) (ha:n.bk[i]?=some a)
include h hd
include hs ha
end
def sr (i:Int) (l:List aD):Prop:=∀x∈l,x.aC=i
theorem Tg {i n:Int}:∀{l:List aD},sr i l->sr i (Dl l i n)
 |[],_=>λx hx=>by simp[Dl] at hx;subst hx;rfl
 |y::l,h=>by
  have h1:sr i l:=λx hx=>h x (by simp[hx])
  have hy:=h y (by simp)
  rw[Dl,if_neg oaa,if_pos hy]
  intro x hx
  rcases aae.1 hx with rfl|hx
  .rfl
  exact h1 x hx
theorem Ty {i n:Int}:∀{l:List aD},sr i l->sr i (IX l i n)
 |[],_=>λx hx=>by simp[IX] at hx
 |y::l,h=>by
  have h1:sr i l:=λx hx=>h x (by simp[hx])
  have hy:=h y (by simp)
  rw[IX,if_pos hy]
  split
  .intro x hx
   rcases aae.1 hx with rfl|hx
   .rfl
   exact h1 x hx
  exact h1
theorem Mb {i n:Int} (h:sr i a.aj):sr i (iu a i n).1.aj:=by
 rw[iu]
 cases ltB i 0||(!inR n 1 100000||(eqB a.bz 0||full a i))
 .exact Tg h
 exact h
theorem Hz {i n:Int} (h:sr i a.aj):sr i (u9 a i n).aj:=by
 rw[u9]
 cases ltB 0 n
 .exact h
 exact Ty h
theorem Np {n:Int} (h:sr s.bU.aC a.aj):sr s.bU.aC (cQ s a n).2.aj:=by
 rw[cQ]
 cases leB (jC s n) 0
 .exact Mb h
 exact h
def Ks (s:ah) (a:am):Int:=a.eg+a.bz+s.bU.cS
theorem Nr (h:SG s a) (n:Int):Ks (cQ s a n).1 (cQ s a n).2=Ks s a/\(cQ s a n).1.bU.er=s.bU.er:=by
 rw[cQ]
 cases leB (jC s n) 0
 .obtain⟨h1,h2,h3,h4,h5,h6,h7⟩:=Ao h.mo.acc s.bU.aC (Dx (jC s n) s.gG.et)
  refine⟨?_,rfl⟩
  simp only[cond_false,Ks,jk]
  rw[h5,h6];omega
 exact⟨rfl,rfl⟩
theorem Iq:∀(k:Nat) (s:ah) (a:am) (r:List ax),SG s a->sr s.bU.aC a.aj->
 Ks (f7 k s a r).1 (f7 k s a r).2.1=Ks s a/\sr s.bU.aC (f7 k s a r).2.1.aj
 |0,s,a,r,h,o=>⟨rfl,o⟩
 |k+1,s,a,r,h,o=>by
  rw[f7]
  cases e:qC s with
  |none=>exact⟨rfl,o⟩
  |some x=>
   obtain⟨hm,hx,_,hn,hl,hb⟩:=lR h.sp e
   have he:=rY h (n:=(x.bb.length:Int)) oaa
   obtain⟨q,hk⟩:=lF s a (x.bb.length:Int)
   have hid:=HF s a (x.bb.length:Int)
   have ht:=(Nr h (x.bb.length:Int)).1
   have ho:=Np (n:=(x.bb.length:Int)) o
   simp only
   cases hq:ltB 0 (jC (cQ s a (x.bb.length:Int)).1 (x.bb.length:Int))
   .simp only[cond_false]
    have ih:=Iq k {(cQ s a (x.bb.length:Int)).1 with aw:=pC (cQ s a (x.bb.length:Int)).1.aw x.bb} (cQ s a (x.bb.length:Int)).2
     (r++[iF (cQ s a (x.bb.length:Int)).1.aZ (cQ s a (x.bb.length:Int)).1.ag (cQ s a (x.bb.length:Int)).1.aX ⟨(cQ s a (x.bb.length:Int)).1.aw.bB,x.bb⟩])
     (y9 he (by rw[hk];exact e) hq) (by simp only;rw[hid];exact ho)
    simp only at ih
    rw[hid] at ih
    exact⟨ih.1.trans ht,ih.2⟩
   exact⟨ht,ho⟩
theorem QY (h:sr s.bU.aC a.aj):sr s.bU.aC (fr s a).1.aj:=by
 rw[fr]
 cases leB s.gG.et s.bU.er
 .exact h
 exact Hz h
theorem RY (h:SG s a) (m:aS) (o:sr s.bU.aC a.aj):
 Ks (ip s a m).aU (ip s a m).d8=Ks s a/\sr s.bU.aC (ip s a m).d8.aj:=by
 have hg:=A6 h
 have ho:=QY o
 have e:(fr s a).1.eg+(fr s a).1.bz+(fr s a).2.cS=Ks s a:=by
  obtain⟨_,g2,_,g4,_,g6⟩:=hg
  simp only[Ks];omega
 rw[ip]
 cases eqB s.bi 1
 .exact⟨rfl,o⟩
 simp only[au]
 cases ltB 4 (iX s)
 .simp only[cond_false,Ik]
  have hn:=Iq 2 _ _ [] (h.upd (vu h.sp) (vx h.sp)) (by simp only;rw[hg.2.2.1];exact ho)
  simp only at hn
  rw[hg.2.2.1] at hn
  exact⟨hn.1.trans e,hn.2⟩
 exact⟨e,ho⟩
def RA (n:ab):Prop:=∀(i:Nat) a,n.bk[i]?=some a->sr i a.aj
theorem It:∀(c i:Nat) (n:ab),(nk c i n).bk=n.bk
 |0,_,_=>rfl
 |c+1,i,n=>by
  rw[nk]
  cases n.av[i]? with
  |none=>rfl
  |some d=>exact(It c (i+1) _).trans (jw n i (qo d)).2.2.2.1
theorem ML:∀(c i:Nat) {B:Int} {n:ab},NP B n->B+2000*c<4611686018427387904->RA n->RA (uG c i n)
 |0,_,B,n,_,_,h=>h
 |c+1,i,B,n,hn,hB,h=>by
  rw[uG]
  cases hs:n.aF[i]? with
  |none=>exact h
  |some s=>cases ha:n.bk[i]? with
   |none=>exact h
   |some a=>
    have hls:=hn.ls
    have hml:=mr hn.map
    obtain⟨d,s',a',e1,e2,e3,hm⟩:=hn.at_ (i:=i) (by have:=(aaa.1 hs).1;omega)
    rw[hs] at e2;rw[ha] at e3;cases e2;cases e3
    have ho:=h i a ha
    rw[<-hm.si] at ho
    have ht:=(RY hm.sg n.ei ho).2
    rw[hm.si] at ht
    refine ML c (i+1) (Fy hn hs ha (yt hm.sg oaa) (F8 hm.sg hn.map) oaa) oaa λj x hx=>?_
    have k1:=iU ((ip s a n.ei).ja.map (i6 i false)) {n with aF:=n.aF.set i (ip s a n.ei).aU,bk:=n.bk.set i (ip s a n.ei).d8}
    have k2:=iU ((ip s a n.ei).cA.map (rH i (ip s a n.ei).aU.bg)) (sends {n with aF:=n.aF.set i (ip s a n.ei).aU,bk:=n.bk.set i (ip s a n.ei).d8} ((ip s a n.ei).ja.map (i6 i false)))
    have hx':(n.bk.set i (ip s a n.ei).d8)[j]?=some x:=by simpa [vq,k2.2.2.1,k1.2.2.1] using hx
    rcases oo hx' with⟨e1,e2⟩|⟨e1,e2⟩
    .subst e1;subst e2;exact ht
    exact h j x e2
theorem MH:∀(c i:Nat) {B:Int} {n:ab},NP B n->B+c<4611686018427387904->NP (B+c) (nk c i n)
 |0,_,_,_,hn,_=>by simpa [nk] using hn
 |c+1,i,B,n,hn,hB=>by
  rw[nk]
  cases hd:n.av[i]? with
  |none=>exact hn.mono oaa
  |some d=>
   obtain⟨d',s,a,e1,e2,e3,hm⟩:=hn.at_ (aaa.1 hd).1
   rw[hd] at e1;cases e1
   exact(MH c (i+1) (mu hn hd (u7 d) (AW hm.dp) hm.dc oaa) oaa).mono oaa
theorem Qr (hn:NP B n) (hB:B+10000<4611686018427387904) (h:RA n):RA (xh n).2:=by
 rw[xh]
 cases hb:leB 100000 n.qO
 .simp only[cond_false]
  have hb:=xq hb
  have hnw:=hn.nw
  have hl:=hn.ld
  have h1:NP B {n with qO:=n.qO+1}:={hn with nw:=by simp only;omega}
  have a3:=MH n.av.length 0 h1 oaa
  have hls:=a3.ls
  have hl2:=a3.ld
  exact ML _ 0 a3 oaa (λj x hx=>h j x (by rw[It] at hx;exact hx))
 exact h
theorem CO (n:ab) (k:Nat):(jj n k).bk=n.bk:=by
 rw[jj]
 cases n.aT[k]? with
 |none=>rfl
 |some f=>
  simp only
  cases zr (jq n k) f.bg
  .rfl
  simp only[au]
  cases f.eW
  .simp only[cond_false]
   cases(jq n k).av[f.bm.toNat]? with
   |none=>rfl
   |some d=>
    simp only
    cases eqB d.bg f.bg
    .rfl
    exact(jw (jq n k) f.bm.toNat _).2.2.2.1
  simp only[cond_true]
  cases f.ef||!eqB f.bA.bg f.bg
  .simp only[cond_false]
   cases(jq n k).aF[f.bm.toNat]? with
   |none=>rfl
   |some s=>exact(iU _ _).2.2.1
  rfl
theorem Tl (hn:NP B n) (hB:B+10000<4611686018427387904) (h:RA n) (e:dN):RA (kv n e).2:=by
 have keep:∀n':ab,n'.bk=n.bk->RA n':=λn' e j x hx=>h j x (by rw[<-e];exact hx)
 rw[kv]
 split
 .exact Qr hn hB h
 split
 .rw[t9]
  cases inR e.cB 0 ((n.aT.length:Int)-1)
  .exact h
  simp only[au]
  cases eqB e.bh 2
  .simp only[cond_false]
   cases eqB e.bh 3
   .simp only[cond_false]
    cases leB 200 (n.aT.length:Int)
    .simp only[cond_false]
     cases n.aT[e.cB.toNat]? with
     |none=>exact h
     |some f=>exact keep _ (mt n f).2.2.1
    exact h
   exact keep _ rfl
  exact keep _ (CO n _)
 split
 .rw[Fr]
  cases inR e.cB 0 ((n.av.length:Int)-1)
  .exact h
  simp only[au]
  cases n.av[e.cB.toNat]? with
  |none=>exact h
  |some d=>cases n.aF[e.cB.toNat]? with
   |none=>exact h
   |some s=>
    simp only
    cases eqB e.bh 5
    .simp only[cond_false]
     cases eqB e.bh 6
     .simp only[cond_false]
      cases eqB e.bh 7
      .simp only[cond_false]
       cases(ta s e.bb).2
       .exact h
       exact keep _ rfl
      simp only[cond_true]
      cases eqB d.bi 2
      .exact h
      exact keep _ rfl
     simp only[cond_true]
     cases eqB e.bg d.bg||!eL n.ei e.bg
     .exact keep _ (jw n _ _).2.2.2.1
     exact h
    simp only[cond_true]
    cases eqB d.bi 0
    .exact h
    exact keep _ (jw n _ _).2.2.2.1
 split
 .rw[C0];cases !eL n.ei e.cB||booB (zr n e.cB) (eqB e.bh 10)
  .exact keep _ rfl
  exact h
 split
 .rw[oQ];cases !inR e.cB 0 (n.ev.fx-1)||(booB (tu n.ev e.cB) (eqB e.bh 12)||eqB (lZ n.ev e.cB (eqB e.bh 12)).fB 0)
  .exact keep _ rfl
  exact h
 split
 .rw[xZ];cases zL n e.b8
  .exact h
  exact keep _ (mt n _).2.2.1
 exact h
theorem Reach.ra:∀{k:Nat} {n:ab},Reach k n->k<=100000->RA n
 |_,_,.new h hm hp hl hq,_=>λi a ha=>by
  obtain⟨_,rfl⟩:=yi ha
  intro x hx;simp[zp] at hx
 |_,_,.step (k:=k) h he hh,hk=>Tl (h.np oaa) oaa (h.ra oaa) _
theorem tickE (n:ab):kv n ⟨1,0,0,[],fL⟩=xh n:=by rw[kv,if_pos rfl]
theorem Yy (hn:NP B n) (hB:B+10000<4611686018427387904) (p:PI n):PI (xh n).2:=by
 have:=KQ hn hB p (e:=⟨1,0,0,[],fL⟩) (A1 (by intro x hx;simp at hx)) (tN n (by simp))
 rwa [tickE] at this
theorem XS {i m:Int} {t d:List aD} (o:sr i (t++⟨i,m⟩::d)) (h1:∀x∈t,x.aC<i) (h2:∀x∈d,i<x.aC):t++d=[]:=by
 have ht:t=[]:=by
  cases t with
  |nil=>rfl
  |cons x t=>have:=h1 x (by simp);have:=o x (by simp);omega
 have hd:d=[]:=by
  cases d with
  |nil=>rfl
  |cons x d=>have:=h2 x (by simp);have:=o x (by simp);omega
 rw[ht,hd];rfl
theorem XT {i:Int} {t d:List aD} (o:sr i (t++d)) (h1:∀x∈t,x.aC<i) (h2:∀x∈d,i<x.aC):t++d=[]:=by
 cases h:t++d with
 |nil=>rfl
 |cons x l=>
  exfalso
  have hx:=o x (by rw[h];simp)
  have:=yY h1 h2 x (by rw[h];simp)
  omega
theorem RH (ok:nV a) (i:Int):∃b,xN a i=some b/\nV b/\b.eE=a.eE/\b.eg=a.eg/\it b i=0/\(sr i a.aj->b.aj=[]):=by
 have hv:=tG.2 ok
 have ht:=ok.t
 have hav:=ok.v
 have hs:=ok.s
 have hl:=ok.l
 have he:=ok.e
 have hfind:eU a i=some (nK (λx=>eqB x.aC i) 0 a.aj):=A2 ok λv=>rfl
 rcases Je ok.o i with⟨t,m,d,e,h1,h2⟩|⟨t,d,e,h1,h2⟩
 .have hm:=ok.r ⟨i,m⟩ (by rw[e];simp)
  have hsum:=(py ok.r).2.2 ⟨i,m⟩ (by rw[e];simp)
  simp only at hm hsum
  have htl:t.length+1+d.length=a.aj.length:=by rw[e];simp;omega
  have ho:=ok.o
  rw[e] at ho
  have hs1:=py (h:=t) λx hx=>ok.r x (by rw[e];simp[hx])
  have hs2:=py (h:=d) λx hx=>ok.r x (by rw[e];simp[hx])
  have he':a.bz+a.eg+(tE t+(m+tE d))=a.eE:=by
   rw[e,px,sumR_cons] at he;exact he
  have hx:(t++(⟨i,m⟩:aD)::d)[t.length]?=some ⟨i,m⟩:=by simp
  refine⟨{a with bz:=a.bz+m,aj:=t++d},?_,⟨ht,by simp only;omega,hs,by simp;omega,λx hx=>ok.r x (by rw[e];rcases aac.1 hx with hx|hx<;>simp[hx]),ho.sublist (by simp),by simp only[px];omega⟩,rfl,rfl,nZ (yY h1 h2),λo=>by rw[e] at o;exact XS o h1 h2⟩
  simp only[xN,xy ok.ok,pG ok.ok,hv,hfind,au]
  rw[e,Fb h1,show ltB (t.length:Int) 0=false from ltB_f.2 oaa]
  have hdr:=Lu (a:={a with bz:=a.bz+m,aj:=t++(⟨i,m⟩:aD)::d}) (t:=t) (d:=d) (x:=⟨i,m⟩) rfl oaa
  simp only[bp,hx,abY,bO (n:=a.bz+m) oaa,hdr,au]
 refine⟨a,?_,ok,rfl,rfl,nZ (λx hx=>by rw[e] at hx;exact yY h1 h2 x hx),λo=>by rw[e] at o ⊢;exact XT o h1 h2⟩
 simp only[xN,xy ok.ok,pG ok.ok,hv,hfind,au]
 rw[e,Jt h1 h2]
 simp[ltB]
theorem WW {q:cP} (h:MOK a q):∃b,p4 a q=some b/\nV b/\b.eE=a.eE/\b.eg=a.eg+q.er/\it b q.aC=0/\(sr q.aC a.aj->b.bz=b.eE-b.eg):=by
 obtain⟨r1,r2,r3,r4⟩:=Ih h
 obtain⟨b,b1,b2,b3,b4,b5,b6⟩:=RH r1.acc q.aC
 refine⟨b,?_,b2,b3.trans r3,b4.trans r2,b5,λo=>?_⟩
 .simp only[p4,DN h.acc.ok,pQ.2 h,Ma h,au]
  rw[show(lc a q).2.aC=q.aC from rfl,b1];rfl
 have:=b6 (Hz o)
 have he:=b2.e
 rw[this] at he
 simp[tE] at he;omega
theorem K4:∀(c:Nat) (n:ab),(B8 c n).bk=n.bk
 |0,_=>rfl
 |c+1,n=>by
  rw[B8]
  cases eqB (n.aT.length:Int) 0
  .exact(K4 c _).trans (CO n 0)
  rfl
theorem C7:∀(c:Nat) {B:Int} {n:ab},NP B n->B+14000*c<4611686018427387904-10000->PI n->RA n->NP (B+14000*c) (oP c n)/\PI (oP c n)/\RA (oP c n)
 |0,B,n,h,_,p,r=>⟨by simpa [oP] using h,p,r⟩
 |c+1,B,n,h,hB,p,r=>by
  have ht:=(zn h oaa).2.2
  have hp:=Yy h oaa p
  have hr:=Qr h oaa r
  have h2:=HV h oaa
  have q:=C7 c h2 oaa (OX 4000 ht oaa hp) (λj x hx=>hr j x (by rw[<-K4 4000];exact hx))
  exact⟨q.1.mono oaa,q.2⟩
theorem QQ (h:NP B n) {d:aJ} (hd:n.av[i]?=some d) (hs:n.aF[i]?=some s) (ha:n.bk[i]?=some a):yU n (i:Int)=some (eqB (d.bY.be.length:Int) (s.aG.length:Int)&&eqB (kc s.aw) (s.aG.length:Int)):=by
 simp only[yU,(hasD h hd).1,bp,hd,hs,WL h hd hs ha,au]
 cases eqB (d.bY.be.length:Int) (s.aG.length:Int)<;>rfl
theorem Ah (xs:List Int) (hp:preL ye xs):qW xs=some true:=by
 simp only[qW,ZV,abX]
 cases hb:ltB 1048576 (xs.length:Int) with
 |true=>rfl
 |false=>
  have hl:=pP hb
  obtain⟨n0,hd,hg⟩:=(Kx (xs:=xs) oaa hp.2).ex
  obtain⟨B0,hn0,hB0⟩:=hg.np
  obtain⟨k0,hr0,hk0⟩:=hg.re
  have hs:=C7 80 hn0 oaa hg.pi (hr0.ra oaa)
  have e80:Bd n0 80=some (oP 80 n0):=Vy hn0 (m:=80) oaa oaa
  obtain⟨n,hnn⟩:∃n,n=oP 80 n0:=⟨_,rfl⟩
  rw[<-hnn] at hs e80
  obtain⟨B,hn,hB⟩:∃B:Int,NP B n/\B<=200000000:=⟨_,hs.1,by omega⟩
  have hp:=hs.2.1
  have hra:=hs.2.2
  have hld:=hn.ld
  have hls:=hn.ls
  have hla:=hn.la
  simp only[hd,Js,e80,au]
  refine Uy n.av false oaa (λi d hdi hi=>?_) (by simp only[nM,ci,H1 hn.okN,hn.vn,au])
  obtain⟨d',s,a,e1,e2,e3,hm⟩:=hn.at_ hi
  rw[hdi] at e1;cases e1
  have si:=hp.si i d s a hdi e2 e3
  have ho:=hra i a e3
  obtain⟨b,b1,b2,b3,b4,b5,b6⟩:=WW hm.sg.mo
  rw[hm.si] at b5 b6
  have hcs:=si.ch
  have hsl:=hm.sg.sp.sl
  have hv:=tG.2 b2
  have h24:fC s.aG 24=fC s.aG s.aG.length:=by rw[fC,fC,ab7 oaa,ab7 (Nat.le_refl _)]
  have hb24:mY s 24=some (fC s.aG s.aG.length):=by rw[WU hm.sg.sp,show(24:Int).toNat=24 from rfl,h24]
  have q1:=b2.s
  have q2:=b2.t
  have hbb:=QJ s.aG s.aG.length
  have hb2:=Hv s.aG.length hm.sg.sp.sd
  have hav:=b6 ho
  have lt1:ltB (i:Int) (n.aF.length:Int)=true:=cI oaa
  have lt2:ltB (i:Int) (n.bk.length:Int)=true:=cI oaa
  simp only[nM,cI hi,lt1,lt2,bp,e2,e3,b1,pG b2.ok,hv,QP hn hdi e2 e3,FE b2.ok,b5,b3,eqB_t.2 b4,bR,QQ hn hdi e2 e3,hb24,WRs (k:=i),bO (n:=a.eE-fC s.aG s.aG.length) oaa,au]
  cases hc:eqB (d.bY.be.length:Int) (s.aG.length:Int)&&eqB (kc s.aw) (s.aG.length:Int)
  .rfl
  rw[hV] at hc
  have h1:=pH hc.2
  rw[h1,abY] at hcs
  simp only[eqB_t.2 (show b.bz=a.eE-fC s.aG s.aG.length by omega),au]
end Go.AM
