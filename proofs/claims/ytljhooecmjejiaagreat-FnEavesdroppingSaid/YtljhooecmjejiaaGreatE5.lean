/- A part. -/
import Derived.Test.YtljhooecmjejiaaGreatE4
set_option linter.unusedVariables false
set_option linter.unusedSimpArgs false
open Nat renaming eq_of_beq_eq_true→To,beq→d0,lt_of_lt_of_le→Uc,zero_add→Tv,le_of_ble_eq_true→UM,lt_or_ge→T9,zero_le→Ud,le_refl→Tt,min_eq_left→Ul,le_trans→U0,ble→TC
open List renaming getElem?_eq_some_iff→Tm,all_eq_true→TX,mem_of_getElem?→Tn,getD_eq_getElem?_getD→U2,getElem?_append_left→Tu,getElem?_eq_getElem→v0,length_map→Us,mem_cons→Tq,length_append→Ut,mem_cons_of_mem→U5,getElem?_of_mem→T0,mem_append→TW,eq_nil_of_length_eq_zero→Ui,getElem?_take→TB,getElem?_append_right→Tz,pairwise_iff_getElem→Uh,nodup_append→U4,map_toArray→U3,nil_append→UZ,map_append→UK,map_cons→Uu,all_cons→TF,mem_map→Ur,map_nil→UN,range→TU
open Bool renaming and_eq_true→hV,or_eq_true→T8,eq_false_iff→UL,not_true→UY,false_or→U1
open Array renaming getElem?_eq_none→Ub,replicate→TZ
namespace Go.AM
open Go.RowKit
def BO (P:Program) (N:Nat) (ops:Array Oper) (o:Oper) (st st':St):Prop:=
 (o.guard=none∧AWO P N o st st')∨(∃j dj b,o.guard=some (j,b)∧(ops[j]?).bind (·.dst)=some dj∧dj<N∧gt st.sl dj=tB b∧AWO P N o st st')
def FH (ops:Array Oper) (done:List Nat) (h:Nat):Bool:=!p5 done h&&(TU ops.size).all fun j=>d0 j h||p5 done j||anc ops ops.size j h
def kls:List Inx→List Nat
 |[]=>[]
 |y::ys=>match y.kl with
  |some d=>d::kls ys
  |none=>kls ys
theorem J3 {d:Nat}:∀{ys:List Inx} {y:Inx},y∈ys→y.kl=some d→d∈kls ys
 |z::zs,y,hm,hk=>by
  rcases Tq.1 hm with rfl|hm
  ·simp[kls,hk]
  ·have:=J3 hm hk
   unfold kls
   split
   ·exact U5 _ this
   ·exact this
def Fx (ys:List Inx) (st s:St):Prop:=
 (∀k,gt s.sl k= .any∨(gt s.sl k=gt st.sl k∧∀d∈kls ys,(gt st.sl k).has d=false))∧(∀l x,go s.ob l=some x→go st.ob l=some x∧∀d∈kls ys,l≠d∧x.hasO d=false)∧s.nx=st.nx
theorem Ai {ys:List Inx} {st:St} (h:kls ys=[]):Fx ys st st:=by
 refine⟨fun k=>.inr ⟨rfl,?_⟩,fun l x hl=>⟨hl,?_⟩,rfl⟩<;>(rw[h];intro d hd;cases hd)
theorem Ah {ys:List Inx} {ds:List Nat} {sl sl':List (Nat×T)} {ob ob':List (Nat×Ob)} {nx:Nat} (h:kls ys=ds) (hk:AK ds sl ob=some (sl',ob')):Fx ys ⟨sl,ob,nx⟩ ⟨sl',ob',nx⟩:=by
 obtain⟨h1,h2⟩:=Gx hk
 subst h
 exact⟨h1,h2,rfl⟩
def DZ (P:Program) (N:Nat) (ops:Array Oper):List (Nat×Oper)→List Nat→List Nat→List Inx→St→St→(St→Prop)→Prop
 |[],done,seg,ys,_,st,K=>xl ops done seg ys=true∧∃s,Fx ys st s∧K s
 |(p,o)::r,done,seg,ys,base,st,K=>
  (∃y st1 st',DS2 P N ops o st st1 y∧uJ st1 st'∧DZ P N ops r done (seg++[p]) (ys++[y]) base st' K)∨
  (xl ops done seg ys=true∧FH ops (seg++done) p=true∧∃s st0 st1 st2,Fx ys st s∧cZ N s st0∧BO P N ops o st0 st1∧cZ N st1 st2∧DZ P N ops r (p::(seg++done)) [] [] st2 st2 K)
theorem fc {l:List Nat} {n:Nat}:p5 l n=true↔n∈l:=by
 simp only[p5,List.any_eq_true]
 constructor
 ·rintro⟨k,h1,h2⟩;rw[←To h2];exact h1
 ·intro h;exact⟨n,h,by simp⟩
theorem mJ {seg:List Nat} {j:Nat} (h:j<seg.length):seg[j]?=some (at0 seg j):=by
 unfold at0
 rw[U2,v0 h]
 rfl
section
variable {P:Program} {N:Nat} {cx:Cx} {ops:Array Oper} {base:St} {f:Nat→Nat} {done seg:List Nat} {ys:List Inx} {Q:Exit→Act→World→Prop}
theorem Hi (h:xl ops done seg ys=true):n9 (fB ys)=true∧seg.length=ys.length∧(seg++done).Nodup∧(∀i,i<ys.length→at0 seg i<ops.size)∧
 (∀i y,ys[i]?=some y→∀k∈gv y.x.needs,∀j,qa (fB ys) k=some j→if nlt j i then anc ops ops.size (at0 seg i) (at0 seg j)=true else(i=j∨anc ops ops.size (at0 seg j) (at0 seg i)=true))∧
 (∀i y,ys[i]?=some y→∀l∈p3 y,∀j z,ys[j]?=some z→mD z l=true→if nlt j i then anc ops ops.size (at0 seg i) (at0 seg j)=true else(i=j∨anc ops ops.size (at0 seg j) (at0 seg i)=true))∧
 (∀j,j<ops.size→p5 done j=false→(∀i,i<ys.length→at0 seg i≠j)→∀i,i<ys.length→anc ops ops.size j (at0 seg i)=true)∧
 (∀j z d,ys[j]?=some z→z.kl=some d→∀i y,ys[i]?=some y→i≠j→vZ y d=true→anc ops ops.size (at0 seg j) (at0 seg i)=true):=by
 simp only[xl,hV] at h
 obtain⟨⟨⟨⟨⟨⟨h1,h2⟩,h2'⟩,h2''⟩,h3⟩,h4⟩,h5⟩:=h
 have hlen:seg.length=ys.length:=To h2
 have key:∀(i j:Nat),(if nlt j i then anc ops ops.size (at0 seg i) (at0 seg j) else d0 i j||anc ops ops.size (at0 seg j) (at0 seg i))=true→if nlt j i then anc ops ops.size (at0 seg i) (at0 seg j)=true else(i=j∨anc ops ops.size (at0 seg j) (at0 seg i)=true):=by
  intro i j h
  split
  ·rename_i hji;simpa [hji] using h
  ·rename_i hji
   simp only[hji,Bool.false_eq_true,if_false,T8] at h
   rcases h with h|h
   ·exact .inl (To h)
   ·exact .inr h
 refine⟨h1,hlen,ij h2',fun i hi=>?_,fun i y hy k hk j hj=>?_,fun i y hy l hl j z hz ht=>?_,fun j hj hd hs i hi=>?_,fun j z d hz hd i y hy hij hs=>?_⟩
 ·exact cK (TX.1 h2'' (at0 seg i) (Tn (mJ (by omega))))
 ·have hil:=(Tm.1 hy).1
  have:=TX.1 h3 i (by simpa using hil)
  simp only[hy,hV] at this
  have:=TX.1 this.1 k hk
  simp only[hj] at this
  exact key i j this
 ·have hil:=(Tm.1 hy).1
  have hjl:=(Tm.1 hz).1
  have:=TX.1 h3 i (by simpa using hil)
  simp only[hy,hV] at this
  have:=TX.1 (TX.1 this.2 l hl) j (by simpa using hjl)
  simp only[hz,ht,UY,U1] at this
  exact key i j this
 ·have:=TX.1 h4 j (by simpa using hj)
  rw[T8,T8] at this
  rcases this with(h|h)|h
  ·rw[hd] at h;cases h
  ·obtain⟨n,hn⟩:=T0 (fc.1 h)
   have hns:=(Tm.1 hn).1
   have:=mJ hns
   rw[hn] at this
   exact absurd (Option.some.inj this).symm (hs n (by omega))
  ·exact TX.1 h (at0 seg i) (Tn (mJ (by omega)))
 ·have hjl:=(Tm.1 hz).1
  have hil:=(Tm.1 hy).1
  have h6:=TX.1 h5 j (by simpa using hjl)
  simp only[hz,hd] at h6
  have h7:=TX.1 h6 i (by simpa using hil)
  simp only[hy,hs,UY,Bool.or_false,T8] at h7
  rcases h7 with h7|h7
  ·exact absurd (To h7) hij
  ·exact h7
theorem Gt {listed:Array Bool} {a:Act} {w:World} {E:Env} {st:St} (hI:KS N cx base f ys listed a w E) (hdst:n9 (fB ys)=true) (hdone:∀j,j<ys.length→listed.getD (f j) false=true)
 (h1:∀k,gt st.sl k=gt (qJ base (fB ys)) k) (h2:st.ob=obX base ys) (h3:eB base.nx (fB ys) st.nx) {s:St} (hC:Fx ys st s):Rel N cx E s a w:=by
 have hr:=iD h3
 obtain⟨C1,C2,C3⟩:=hC
 have hDk:∀d,B1 f ys listed d→d∈kls ys:=fun d ⟨j,y,_,hy,hk⟩=>J3 (Tn hy) hk
 refine⟨hI.ok,fun l' x' hl=>?_,fun l' ob hl=>?_,fun k=>?_,hI.dfr,hI.size,fun l' b' h'=>by rw[C3];exact Uc (hI.td l' b' h') hr.1⟩
 ·rw[C3];rcases hI.dom l' x' hl with h|⟨j,y,ob,_,h4,h5⟩
  ·omega
  ·have:=hr.2 j y.x l' ob (by simp[fB,h4]) h5;omega
 ·obtain⟨hl,hn⟩:=C2 l' ob hl
  refine hI.obs l' ob ?_ (fun d hd=>hn d (hDk d hd))
  rw[←hl,h2,obX]
  refine nP rfl (fun j z hz hj=>?_)
  rw[Tv]
  exact hdone j (Tm.1 hz).1
 ·rcases C1 k with e|⟨e,hn⟩
  ·rw[e];trivial
  rw[e]
  have hn':∀d,B1 f ys listed d→(gt st.sl k).has d=false:=fun d hd=>hn d (hDk d hd)
  rw[h1 k] at hn' ⊢
  cases hw:qa (fB ys) k with
  |none=>
   have hno:∀z∈fB ys,z.d≠k:=by
    intro z hz e
    have:=List.findIdx?_eq_none_iff.1 hw z hz
    rw[e] at this;simp at this
   rw[uB _ _ hno] at hn' ⊢
   exact hI.old k (fun j y _ hy=>hno y.x (Ur.2 ⟨y,Tn hy,rfl⟩)) hn'
  |some j=>
   obtain⟨hjl,hjp,_⟩:=List.findIdx?_eq_some_iff_getElem.1 hw
   have hjd:(fB ys)[j].d=k:=To hjp
   have hjl':j<ys.length:=by simpa [fB] using hjl
   have h5:(fB ys)[j]=(ys[j]).x:=by simp[fB]
   have h9:=rN (base:=base) (fB ys) j (fB ys)[j] (v0 hjl) (fun j' y hy he=>oc hdst j' j y (fB ys)[j] hy (v0 hjl) he)
   rw[hjd] at h9
   have:=hI.out j ys[j] (hdone j hjl') (v0 hjl') (fun d hd=>by rw[←h5,←h9];exact hn' d hd)
   rw[←h5,hjd] at this
   rw[h9];exact this
theorem G1 {listed:Array Bool} {a:Act} {w:World} {E:Env} (hR:Rel N cx E base a w) (hl:∀j,j<ys.length→listed.getD (f j) false=false):KS N cx base f ys listed a w E:=by
 refine⟨hR.ok,fun l x h=>.inl (hR.dom l x h),fun l ob h _=>?_,fun j y h hy _=>?_,fun k _ _=>hR.sl k,hR.dfr,hR.size,hR.td⟩
 ·refine hR.obs l ob ?_
  rw[nP (q:=fun _=>false) (B:=base.ob) rfl (fun j z hz hj=>by rw[Tv];exact hl j (Tm.1 hz).1)] at h
  rw[th (n:=0) (fun j=>by simp)] at h
  simpa [obF] using h
 ·rw[hl j (Tm.1 hy).1] at h;cases h
theorem GJ {l:List Nat} (h:l.Nodup):∀(i j:Nat) (x:Nat),l[i]?=some x→l[j]?=some x→i=j:=by
 intro i j x hi hj
 obtain⟨hi',e1⟩:=Tm.1 hi
 obtain⟨hj',e2⟩:=Tm.1 hj
 rcases Nat.lt_trichotomy i j with h'|h'|h'
 ·exact absurd (e1.trans e2.symm) (Uh.1 h i j hi' hj' h')
 ·exact h'
 ·exact absurd (e2.trans e1.symm) (Uh.1 h j i hj' hi' h')
theorem MW {K:St→Prop} {rk:Nat→Nat} (hedge:Edg ops rk) (hQ:∀E st a w,Rel N cx E st a w→K st→Q .normal a w):
 ∀{l:List (Nat×Oper)} {done seg:List Nat} {ys:List Inx} {base st:St},DZ P N ops l done seg ys base st K→seg.length=ys.length→(∀q∈l,ops[q.1]?=some q.2)→(∀j,j<ops.size→j∈seg∨j∈done∨∃q∈l,q.1=j)→
  (∀(i:Nat) (o:Oper) (y:Inx),ops[at0 seg i]?=some o→ys[i]?=some y→Mj P N ops base (ys.take i) o y)→
  (∀k,gt st.sl k=gt (qJ base (fB ys)) k)→st.ob=obX base ys→eB base.nx (fB ys) st.nx→
  ∀(listed:Array Bool) (a:Act) (w:World) (E:Env),listed.size=ops.size→sD ops listed→(∀j,listed.getD j false=p5 done j)→Rel N cx E base a w→wpAny P .any ops Q (unl ops listed) listed a w:=by
 intro l
 induction l with
 |nil=>
  intro done seg ys base st hD hlen hops hcov htold h1 h2 h3 listed a w E hsz hcl hls hR
  obtain⟨hseg,s,hcl0,hK⟩:=hD
  obtain⟨c1,c1',c1'',c2,c3,c4,c5,c6⟩:=Hi hseg
  obtain⟨nd1,nd2,nd3⟩:=U4.1 c1''
  have hnd:∀i,i<ys.length→p5 done (at0 seg i)=false:=fun i hi=>by
   rw[UL];intro h
   exact nd3 _ (Tn (mJ (by omega))) _ (fc.1 h) rfl
  refine DE (f:=at0 seg) (done:=p5 done) hedge c2 (fun i j hi hj e=>GJ nd1 i j _ (mJ (by omega)) (by rw[e];exact mJ (by omega))) hnd h3 c1 c3 c4 c6 c5 htold (fun listed' a' w' E' hsz' hcl' hd' hs' hp' hI'=>?_) _ listed a w E rfl hsz hcl (fun j hj=>by rw[hls j];exact hj) (fun j hj _=>by rw[hls j];exact hj) (G1 hR (fun j hj=>by rw[hls];exact hnd j hj))
  have hall:∀j,j<ops.size→listed'.getD j false=true:=fun j hj=>by
   rcases hcov j hj with h|h|⟨q,hq,_⟩
   ·obtain⟨i,hi⟩:=T0 h
    have his:=(Tm.1 hi).1
    have:=mJ his;rw[hi] at this
    rw[Option.some.inj this];exact hs' i (by omega)
   ·exact hd' j (fc.2 h)
   ·cases hq
  have hu:unl ops listed'=0:=by
   unfold unl
   rw[List.length_eq_zero_iff,List.filter_eq_nil_iff]
   intro j hj
   rw[hall j (by simpa using hj)]
   simp
  rw[hu]
  refine⟨?_,hQ E' s a' w' (Gt hI' c1 hs' h1 h2 h3 hcl0) hK⟩
  rw[List.eq_nil_iff_forall_not_mem]
  intro i hi
  obtain⟨k1,k2,_⟩:=jy hsz' hi
  rw[hall i k1] at k2;cases k2
 |cons q r ih=>
  obtain⟨p,o⟩:=q
  intro done seg ys base st hD hlen hops hcov htold h1 h2 h3 listed a w E hsz hcl hls hR
  have hat:ops[p]?=some o:=hops (p,o) (by simp)
  rcases hD with⟨y,st1,st',hds,hsame,hr⟩|⟨hseg,hbar,s,st0,st1,st2,hcl0,hw0,hbo,hw1,hr⟩
  ·obtain⟨k1,k2,k3,k4⟩:=L6 hds hsame h1 h2 h3
   refine ih hr (by simp[hlen]) (fun q hq=>hops q (by simp[hq])) (fun j hj=>?_) (fun i o' y' ho' hy'=>?_) k2 k3 k4 listed a w E hsz hcl hls hR
   ·rcases hcov j hj with h|h|⟨q,hq,e⟩
    ·exact .inl (by simp[h])
    ·exact .inr (.inl h)
    ·rcases Tq.1 hq with rfl|hq
     ·exact .inl (by simp[←e])
     ·exact .inr (.inr ⟨q,hq,e⟩)
   ·rcases T9 i ys.length with h|h
    ·rw[Tu h] at hy'
     rw[List.take_append_of_le_length (by omega)]
     have e:at0 (seg++[p]) i=at0 seg i:=by unfold at0;rw[U2,U2,Tu (by omega)]
     rw[e] at ho'
     exact htold i o' y' ho' hy'
    ·have hi:i=ys.length:=by
      have:=(Tm.1 hy').1
      simp at this;omega
     subst hi
     simp at hy'
     subst hy'
     rw[List.take_left]
     have e:at0 (seg++[p]) ys.length=p:=by unfold at0;rw[U2,←hlen];simp
     rw[e,hat] at ho'
     cases ho'
     exact k1
  ·obtain⟨c1,c1',c1'',c2,c3,c4,c5,c6⟩:=Hi hseg
   obtain⟨nd1,nd2,nd3⟩:=U4.1 c1''
   have hlt:p<ops.size:=by
    rcases T9 p ops.size with h|h
    ·exact h
    ·rw[Ub h] at hat;cases hat
   have hnd:∀i,i<ys.length→p5 done (at0 seg i)=false:=fun i hi=>by
    rw[UL];intro h
    exact nd3 _ (Tn (mJ (by omega))) _ (fc.1 h) rfl
   refine DE (f:=at0 seg) (done:=p5 done) hedge c2 (fun i j hi hj e=>GJ nd1 i j _ (mJ (by omega)) (by rw[e];exact mJ (by omega))) hnd h3 c1 c3 c4 c6 c5 htold (fun listed' a' w' E' hsz' hcl' hd' hs' hp' hI'=>?_) _ listed a w E rfl hsz hcl (fun j hj=>by rw[hls j];exact hj) (fun j hj _=>by rw[hls j];exact hj) (G1 hR (fun j hj=>by rw[hls];exact hnd j hj))
   have hseg':∀j,j∈seg→listed'.getD j false=true:=fun j h=>by
    obtain⟨i,hi⟩:=T0 h
    have his:=(Tm.1 hi).1
    have:=mJ his;rw[hi] at this
    rw[Option.some.inj this];exact hs' i (by omega)
   have hls':∀j,listed'.getD j false=p5 (seg++done) j:=fun j=>by
    cases hm:p5 (seg++done) j with
    |true=>
     rcases TW.1 (fc.1 hm) with h|h
     ·exact hseg' j h
     ·exact hd' j (fc.2 h)
    |false=>
     have hn:j∉seg++done:=fun h=>by rw[fc.2 h] at hm;cases hm
     refine hp' j ?_ (fun i hi e=>hn ?_)
     ·rw[UL];intro h;exact hn (TW.2 (.inr (fc.1 h)))
     ·rw[←e];exact TW.2 (.inl (Tn (mJ (by omega))))
   have hRel:=Gt hI' c1 hs' h1 h2 h3 hcl0
   simp only[FH,hV] at hbar
   obtain⟨hpd,hbar⟩:=hbar
   have hun:listed'.getD p false=false:=by rw[hls'];simpa using hpd
   have hus:=oT (ops:=ops) hsz' hlt hun
   rw[hus]
   refine⟨fun h0=>absurd h0 (A4 hedge hsz' hus),fun q hq=>?_⟩
   obtain⟨hio,hunp,o',ho',hd⟩:=jy hsz' hq
   have hp:q=p:=by
    have hb:=TX.1 hbar q (by simpa using hio)
    rw[T8,T8] at hb
    rcases hb with(hb|hb)|hb
    ·exact To hb
    ·rw[hls',hb] at hunp;cases hunp
    ·have:=vl hcl' hb ⟨o',ho',hd⟩
     rw[hun] at this;cases this
   subst hp
   rw[hat] at ho'
   cases ho'
   obtain⟨E0,hR0⟩:=hw0 cx E' a' w' hRel
   have hrun:∀(h:AWO P N o st0 st1),o.wp P a' w' (wpAny P .any ops Q (unl ops (listed'.setIfInBounds q true)) (listed'.setIfInBounds q true)) Q:=by
    intro h
    refine oV (fun _ _ _ h=>h.elim) (Oper.wp_mono ?_ (h cx E0 a' w' hR0))
    rintro a2 w2 ⟨E2,hR2⟩
    obtain⟨E3,hR3⟩:=hw1 cx E2 a2 w2 hR2
    refine ih hr rfl (fun q hq=>hops q (by simp[hq])) (fun j hj=>?_) (fun i o' y' ho' hy'=>by simp at hy') (fun k=>rfl) rfl rfl _ a2 w2 E3 (by simpa using hsz') (sM hsz' hlt hat hd hcl') (fun j=>?_) hR3
    ·rcases hcov j hj with h|h|⟨z,hz,e⟩
     ·exact .inr (.inl (by simp[h]))
     ·exact .inr (.inl (by simp[h]))
     ·rcases Tq.1 hz with rfl|hz
      ·exact .inr (.inl (by simp[←e]))
      ·exact .inr (.inr ⟨z,hz,e⟩)
    ·rw[bX (by omega)]
     split
     ·rename_i h;subst h;symm;exact fc.2 (by simp)
     ·rename_i hne
      rw[hls' j]
      cases hm:p5 (seg++done) j with
      |true=>symm;exact fc.2 (U5 _ (fc.1 hm))
      |false=>
       symm;rw[UL];intro h
       rcases Tq.1 (fc.1 h) with e|h
       ·exact hne e.symm
       ·rw[fc.2 h] at hm;cases hm
   unfold wpOp
   simp only[hat]
   rcases hbo with⟨hg,hawo⟩|⟨j,dj,b,hg,hj,hdj,hb,hawo⟩
   ·rw[if_pos (by simp[Region.wanted,hg])]
    exact .inl (hrun hawo)
   ·have hy:=BX (ops:=ops) hR0 hj hdj hb
    rw[if_pos (by simp[Region.wanted,hg,hy])]
    exact .inl (hrun hawo)
end
def GO (l:List Oper):List Nat→Option (List (Nat×Oper))
 |[]=>some []
 |i::is=>match l[i]?,GO l is with
  |some o,some r=>some ((i,o)::r)
  |_,_=>none
def PA (n:Nat) (is:List Nat):Bool:=(TU n).all fun j=>p5 is j
theorem ow {l:List Oper}:∀{is:List Nat} {r:List (Nat×Oper)},GO l is=some r→(∀q∈r,l[q.1]?=some q.2)∧(∀j∈is,∃q∈r,q.1=j)
 |[],r,h=>by simp[GO] at h;subst h;simp
 |i::is,r,h=>by
  simp only[GO] at h
  split at h
  ·rename_i o r' h1 h2
   simp at h;subst h
   obtain⟨k1,k2⟩:=ow h2
   refine⟨fun q hq=>?_,fun j hj=>?_⟩
   ·rcases Tq.1 hq with rfl|hq
    ·exact h1
    ·exact k1 q hq
   ·rcases Tq.1 hj with rfl|hj
    ·exact⟨_,List.mem_cons_self ..,rfl⟩
    ·obtain⟨q,hq,e⟩:=k2 j hj;exact⟨q,U5 _ hq,e⟩
  ·cases h
theorem pV {P:Program} {N id:Nat} {l:List Oper} {st:St} {AQ:Exit→St→Prop} (is:List Nat) {r:List (Nat×Oper)} (hm:P.follows .mixedOrders=true:=by exact Try.follows) (he:D8 l.toArray=true:=by kernel_rfl) (hc:PA l.length is=true:=by kernel_rfl) (ho:GO l is=some r:=by exact rfl)
 (h:DZ P N l.toArray r [] [] [] st st (fun s=>AQ .normal s)):AWC P N (.region id l.toArray true) st AQ:=by
 intro cx E a w hR
 refine wp_region_any hm ?_
 have hR':=w7 hR
 have hedge:∀i o,l.toArray[i]?=some o→∀e∈o.after,Region.binds .any e=true→e.on<i:=by
  intro i o ho e hm hb
  have hi:i<l.toArray.size:=by
   rcases T9 i l.toArray.size with h|h
   ·exact h
   ·rw[Ub h] at ho;cases ho
  have:=TX.1 he i (by simpa using hi)
  simp only[ho] at this
  have:=TX.1 this e (by simpa using hm)
  simp only[hb,UY,U1] at this
  exact cK this
 have hfull:unl l.toArray (TZ l.toArray.size false)=l.toArray.size:=by
  unfold unl
  rw[List.filter_eq_self.2]
  ·simp
  ·intro i hi;rw[fj];rfl
 have:=MW (P:=P) (cx:=cx) (Q:=AO N cx AQ) (MX hedge) (fun E st a w hR hK=>⟨E,st,hR,hK⟩) h rfl (fun q hq=>by have:=(ow ho).1 q hq;simpa using this) (fun j hj=>by
  have hj':j<l.length:=by simpa using hj
  have:=TX.1 hc j (by simpa using hj')
  exact .inr (.inr ((ow ho).2 j (fc.1 this)))) (fun i o y _ hy=>by simp at hy) (fun k=>rfl) rfl rfl (TZ l.toArray.size false) a _ E (by simp) (fun i o ho hd=>by rw[fj] at hd;cases hd) (fun j=>by rw[fj];simp[p5]) hR'
 rw[hfull] at this
 exact this
section
variable {P:Program} {N:Nat} {ops:Array Oper} {l:List (Nat×Oper)} {o:Oper} {st st' base:St} {x:Inf} {y:Inx} {K:St→Prop} {ys:List Inx} {dn seg:List Nat} {p:Nat}
theorem H8 (hs:xl ops dn seg ys=true) (hk:kls ys=[]) (h:K st):DZ P N ops [] dn seg ys base st K:=⟨hs,st,Ai hk,h⟩
theorem iV {ds:List Nat} {sl sl':List (Nat×T)} {ob ob':List (Nat×Ob)} {nx:Nat} (hs:xl ops dn seg ys=true) (hk:kls ys=ds) (hA:AK ds sl ob=some (sl',ob')) (h:K ⟨sl',ob',nx⟩):DZ P N ops [] dn seg ys base ⟨sl,ob,nx⟩ K:=⟨hs,_,Ah hk hA,h⟩
theorem iA (hg:o.guard=none) (h:NS P N o st st' x) (h':DZ P N ops l dn (seg++[p]) (ys++[⟨x,[],none⟩]) base st' K):DZ P N ops ((p,o)::l) dn seg ys base st K:=.inl ⟨_,st',st',.inl ⟨hg,GL h⟩,.refl _,h'⟩
theorem MV {j:Nat} {dj:Tmp} {b:Bool} (hg:o.guard=some (j,b)) (hj:(ops[j]?).bind (·.dst)=some dj) (hdj:nlt dj N=true) (hb:gt st.sl dj=tB b) (h:NS P N o st st' x)
 (h':DZ P N ops l dn (seg++[p]) (ys++[⟨{x with needs:=(.tmp dj,tB b)::x.needs},[],none⟩]) base st' K):DZ P N ops ((p,o)::l) dn seg ys base st K:=.inl ⟨_,st',st',.inr (.inl ⟨j,dj,b,_,hg,hj,cK hdj,hb,GL h,rfl⟩),.refl _,h'⟩
theorem xS (hg:o.guard=none) (h:NX P N o st st' y) (h':DZ P N ops l dn (seg++[p]) (ys++[y]) base st' K):DZ P N ops ((p,o)::l) dn seg ys base st K:=.inl ⟨_,st',st',.inl ⟨hg,h⟩,.refl _,h'⟩
theorem PO {j:Nat} {dj d:Tmp} {b:Bool} (hg:o.guard=some (j,b)) (hj:(ops[j]?).bind (·.dst)=some dj) {t:T} (hdj:nlt dj N=true) (ht:gt st.sl dj=t) (hb:noG b t=true) (hd:o.dst=some d) (hN:nlt d N=true)
 (h':DZ P N ops l dn (seg++[p]) (ys++[⟨⟨d,[(.tmp dj,t)],[],.tup [],[]⟩,[],none⟩]) base ⟨(d,.tup [])::st.sl,st.ob,st.nx⟩ K):DZ P N ops ((p,o)::l) dn seg ys base st K:=
 .inl ⟨_,_,_,.inr (.inr ⟨j,dj,b,d,hg,hj,cK hdj,by rw[ht];exact hb,hd,cK hN,by rw[ht],rfl⟩),.refl _,h'⟩
theorem f8 {st0 st1:St} (hg:o.guard=none) (h:AWO P N o st0 st1):BO P N ops o st0 st1:=.inl ⟨hg,h⟩
theorem bO {s:St}:cZ N s s:=fun _ E _ _ h=>⟨E,h⟩
theorem Au {st0 st1 st2:St} (hs:xl ops dn seg ys=true) (hkl:kls ys=[]) (hb:FH ops (seg++dn) p=true) (hw:cZ N st st0) (h:BO P N ops o st0 st1) (hw2:cZ N st1 st2) {dn':List Nat} (hlo:p::(seg++dn)=dn') (h':DZ P N ops l dn' [] [] st2 st2 K):DZ P N ops ((p,o)::l) dn seg ys base st K:=by
 subst hlo
 exact .inr ⟨hs,hb,st,st0,st1,st2,Ai hkl,hw,h,hw2,h'⟩
end
section
variable {P:Program} {N:Nat} {ops:Array Oper} {l:List (Nat×Oper)} {o:Oper} {sl:List (Nat×T)} {ob:List (Nat×Ob)} {nx:Nat} {base:St} {K:St→Prop} {ys:List Inx} {dn seg:List Nat} {p:Nat}
theorem zgs {j:Nat} {dj d:Tmp} {b:Bool} {t:T} (hg:o.guard=some (j,b)) (hj:(ops[j]?).bind (·.dst)=some dj) (hdj:nlt dj N=true) (ht:gt sl dj=t) (hb:noG b t=true) (hd:o.dst=some d) (hN:nlt d N=true)
 (h':DZ P N ops l dn (seg++[p]) (ys++[⟨⟨d,[(.tmp dj,t)],[],.tup [],[]⟩,[],none⟩]) base ⟨(d,.tup [])::sl,ob,nx⟩ K):DZ P N ops ((p,o)::l) dn seg ys base ⟨sl,ob,nx⟩ K:=PO (st:=⟨sl,ob,nx⟩) hg hj hdj ht hb hd hN h'
theorem cwx {d:Tmp} {ty:TypeId} {ps:String} {af:Array Edge} {gd:Option (Nat×Bool)} {f:FuncId} {args:List Operand} {tys:Array TypeId} {ob':List (Nat×Ob)} {o:Nat} {x0 x1 y:Ob} {ts ts':List T} {eqs:List (Nat×Nat)} {res:List RV} {out:T} {nw:List (Nat×Ob)} {n:Nat}
 (hF:FnW P f x1 ts' y res) (ht:yc sl args=some ts:=by exact rfl) (ho:go ob o=some x0:=by exact rfl) (hl:x0.loc=x1:=by exact rfl) (hfx:x0.free=true:=by exact rfl) (hfy:y.free=true:=by exact rfl) (ha:yK [] o ts=some (ts',eqs):=by exact rfl) (he:Eqs eqs:=by repeat (first|exact trivial|refine⟨by first|rfl|exact lm _|simp,?_⟩)) (hi:Cb nx res=some (out,nw,n):=by exact rfl) (hw:Is nx nw n=true:=by exact rfl) (hN:nlt d N=true:=by exact rfl) (hob:apO nw ((o,y)::ob)=some ob':=by exact rfl):
 NX P N ⟨some d,.call ⟨.value (.func f),args.toArray,tys⟩,ty,ps,af,gd⟩ ⟨sl,ob,nx⟩ ⟨(d,out)::sl,ob',n⟩ ⟨⟨d,args.zip ts,[(o,x0)],out,nw⟩,[(o,y)],none⟩:=by
 subst hl
 rw[sJ hob]
 obtain⟨t1,t2⟩:=o7 ht
 exact⟨qQ (KX hF t1 hfx hfy ha he hi),.inl ⟨rfl,cK hN⟩,t2,⟨ho,trivial⟩,zG hw,rfl⟩
theorem ww {cx:Cx} {E:Env} {w:World} {o b c:Nat} {cs:Array Value} (ok:cQ cx E w) (hr:E.r o=some (b,c)) (hF:¬E.F b):cQ cx E (w.setRow b cs):=by
 have hsz:(w.setRow b cs).heap.size=w.heap.size:=by simp
 refine⟨fun k hk=>by rw[hsz];exact ok.fb k hk,ok.gf,ok.gn,fun o b c h=>by rw[hsz];exact ok.rb o b c h,ok.inj,ok.os,ok.tape,ok.output,by rw[hsz];exact ok.size,fun k hk hW=>?_,ok.pin,ok.ff,fun k hg hk'=>(ok.gc k hg hk').of_eq (di w b k cs (fun e=>hF (by subst e;exact hg))),ok.sf.setRow hr⟩
 rw[di _ _ _ _ (fun e=>by
  subst e
  rcases(ok.rb o k c hr).2 with h|h
  ·omega
  ·exact hW h.1)]
 exact ok.block k hk hW
theorem Gc {cx:Cx} {E:Env} {w:World} {o b c:Nat} {cs:Array Value} {ob':Ob} (ok:cQ cx E w) (hr:E.r o=some (b,c)) (hF:¬E.F b):KR [(o,ob')] E w E (w.setRow b cs):=by
 refine⟨fun _ _ h=>h,fun _ h=>h,fun _ h=>h,fun _ h=>.inl h,fun k hk hne=>di w b k cs (fun e=>?_),fun l ob k c' hm h=>?_,rfl,rfl,rfl⟩
 ·subst e;exact hne o ob' c (by simp) hr
 ·simp at hm;obtain⟨rfl,_⟩:=hm;rw[hr] at h;cases h;exact hF
theorem spx {ty:TypeId} {ps:String} {af:Array Edge} {gd:Option (Nat×Bool)} {x y:Operand} {t:TypeId} {n o k:Nat} {vt:TypeId} {cs cs' ns:List C} {v:V} (q:Nat) (hq:TC N q=true:=by exact rfl) [ht:TyN P t n] (hx:opT sl x= .v (.c (.p o k)):=by exact rfl) (hy:opT sl y= .v v:=by exact rfl) (ho:go ob o=some (.var vt cs):=by exact rfl) (hv:vcs v=some ns:=by exact rfl)
 (hn:d0 ns.length n=true:=by exact rfl) (hst:ns.all C.sto=true:=by exact rfl) (hs:qK k ns cs=some cs':=by exact rfl):
 NX P N ⟨none,.store t x y,ty,ps,af,gd⟩ ⟨sl,ob,nx⟩ ⟨(q,.any)::sl,(o,.var vt cs')::ob,nx⟩ ⟨⟨q,[(x,.v (.c (.p o k))),(y,.v v)],[(o,.var vt cs)],.any,[]⟩,[(o,.var vt cs')],none⟩:=by
 refine⟨qQ ?_,.inr ⟨rfl,UM hq,rfl⟩,⟨hx,hy,trivial⟩,⟨ho,trivial⟩,rfl,rfl⟩
 intro cx E a w ok hne hnob hfr
 have h1:cvT E w (.v (.c (.p o k))) (a.eval x):=hne x _ (.head _)
 have h2:cvT E w (.v v) (a.eval y):=hne y _ (.tail _ (.head _))
 obtain⟨b,c,hr,hu⟩:=h1
 have h3:cy E w o (.var vt cs):=hnob o _ (.head _)
 obtain⟨b',c',arr,hr',hh,hcv,hF⟩:=h3
 rw[hr] at hr';cases hr'
 have hvc:=Fo hv h2
 have hl1:=gz hvc
 have hl2:=gz hcv
 have hnn:=To hn
 have hle:=(pM hs).2
 have hsz:(a.eval y).cells.size=n:=by simp at hl1;omega
 have hrun:=pN (P:=P) (t:=t) (n:=n) (k:=k) hsz (Me hv hst h2) hh (by simp at hl2;omega)
 unfold Oper.wp
 simp only[execOp,hu,Sem.run_bind,hrun,Result.andThen_ok,Sem.run_pure,Oper.upon_skip,Act.put]
 have hk:=i7 (cs:=(arr.toList.take k++(a.eval y).cells.toList++arr.toList.drop (k+n)).toArray) (w:=w) ok hr hF
 refine⟨undef,E,trivial,ww ok hr hF,?_,trivial,(fun _ _ h=>by cases h),fun l ob' hm=>?_,fun l p h=>.inl h⟩
 ·exact Gc ok hr hF
 ·simp at hm;obtain⟨rfl,rfl⟩:=hm
  refine⟨b,c,_,hr,iK _ hh,?_,hF⟩
  refine nV hk (xI hs hvc hcv ?_ fun i=>?_)
  ·simp at hl2 ⊢;omega
  ·rw[show(arr.toList.take k++(a.eval y).cells.toList++arr.toList.drop (k+n)).toArray.toList=arr.toList.take k++(a.eval y).cells.toList++arr.toList.drop (k+n) from rfl]
   exact jL (by simpa using hsz) (by simp at hl2 ⊢;omega) i
end
end Go.AM
namespace Go.AM
open Go.RowKit
def sw (p q l:Nat):Nat:=bif d0 l p then q else bif d0 l q then p else l
theorem D1 (a b:Nat):d0 a b=decide (a=b):=by
 by_cases h:a=b
 ·subst h;simp
 ·rw[pW h];simp[h]
theorem BP (p q l:Nat):sw p q (sw p q l)=l:=by
 unfold sw
 simp only[D1]
 by_cases h1:l=p
 ·subst h1
  by_cases h2:q=l
  ·simp[h2]
  ·simp[h2]
 ·by_cases h2:l=q
  ·subst h2;simp[h1]
  ·simp[h1,h2]
theorem SQ {p q a b:Nat} (h:sw p q a=sw p q b):a=b:=by rw[←BP p q a,h,BP]
theorem OP {p q:Nat} (hp:rsv p=false) (hq:rsv q=false) (l:Nat):(rsv l=true→sw p q l=l)∧(rsv (sw p q l)=true→sw p q l=l):=by
 unfold sw
 simp only[D1]
 by_cases h1:l=p
 ·subst h1;simp[hp,hq]
 ·by_cases h2:l=q
  ·subst h2;simp[h1,hp,hq]
  ·simp[h1,h2]
theorem sw_lt {p q n:Nat} (hp:p<n) (hq:q<n) {l:Nat} (h:sw p q l<n):l<n:=by
 rw[←BP p q l]
 generalize sw p q l=m at h
 unfold sw
 simp only[D1]
 by_cases h1:m=p
 ·subst h1;simp[hq]
 ·by_cases h2:m=q
  ·subst h2;simp[h1,hp]
  ·simp[h1,h2,h]
def swC (p q:Nat):C→C
 | .w o n=>.w (sw p q o) n
 | .wn o n=>.wn (sw p q o) n
 | .s o a b c=>.s (sw p q o) a b c
 | .p o k=>.p (sw p q o) k
 | .e o a b c=>.e (sw p q o) a b c
 |c=>c
def QQ (p q:Nat):List C→List C
 |[]=>[]
 |c::cs=>swC p q c::QQ p q cs
def swV (p q:Nat):V→V
 | .c c=>.c (swC p q c)
 | .agg cs=>.agg (QQ p q cs)
def SO (p q:Nat):List V→List V
 |[]=>[]
 |c::cs=>swV p q c::SO p q cs
def swT (p q:Nat):T→T
 | .v v=>.v (swV p q v)
 | .tup vs=>.tup (SO p q vs)
 | .any=>.any
def SM (p q:Nat):Ob→Ob
 | .var t cs=>.var t (QQ p q cs)
 |o=>o
def swS (p q:Nat):List (Nat×T)→List (Nat×T)
 |[]=>[]
 |(k,t)::r=>(k,swT p q t)::swS p q r
def swO (p q:Nat):List (Nat×Ob)→List (Nat×Ob)
 |[]=>[]
 |(k,t)::r=>(sw p q k,SM p q t)::swO p q r
def Env.sw (E:Env) (p q:Nat):Env:={E with r:=fun l=>E.r (AM.sw p q l),n:=fun l=>E.n (AM.sw p q l)}
theorem ON {E:Env} {w:World} {p q:Nat} {c:C} {u:Value} (h:cvC E w c u):cvC (E.sw p q) w (swC p q c) u:=by
 have e:∀o,(E.sw p q).r (sw p q o)=E.r o:=fun o=>by simp[Env.sw,BP]
 cases c with
 |w o n=>obtain⟨b,c,h1,h2⟩:=h;exact⟨b,c,(e o).trans h1,h2⟩
 |wn o n=>
  have e2:(E.sw p q).n (sw p q o)=E.n o:=by simp[Env.sw,BP]
  rcases h with⟨h1,h2⟩|⟨h0,b,c,h1,h2⟩
  ·exact .inl ⟨by rw[e2];exact h1,h2⟩
  ·exact .inr ⟨by rw[e2];exact h0,b,c,(e o).trans h1,h2⟩
 |s o a b c=>obtain⟨A,c',b',k,h1,h2⟩:=h;exact⟨A,c',b',k,(e o).trans h1,h2⟩
 |p o k=>obtain⟨b,c,h1,h2⟩:=h;exact⟨b,c,(e o).trans h1,h2⟩
 |e o a b c=>obtain⟨b',c',h1,h2⟩:=h;exact⟨b',c',(e o).trans h1,h2⟩
 |_=>exact h
theorem Fk {E:Env} {w:World} {p q:Nat}:∀{cs:List C} {us:List Value},CV E w cs us→CV (E.sw p q) w (QQ p q cs) us
 |[],[],h=>h
 |[],_::_,h=>h.elim
 |_::_,[],h=>h.elim
 |_::_,_::_,h=>⟨ON h.1,Fk h.2⟩
theorem OO {E:Env} {w:World} {p q:Nat} {c:V} {u:Value} (h:cvV E w c u):cvV (E.sw p q) w (swV p q c) u:=by
 cases c with
 |c c=>exact ON h
 |agg cs=>obtain⟨arr,h1,h2⟩:=h;exact⟨arr,h1,Fk h2⟩
theorem KD {E:Env} {w:World} {p q:Nat}:∀{cs:List V} {us:List Value},VV E w cs us→VV (E.sw p q) w (SO p q cs) us
 |[],[],h=>h
 |[],_::_,h=>h.elim
 |_::_,[],h=>h.elim
 |_::_,_::_,h=>⟨OO h.1,KD h.2⟩
theorem SN {E:Env} {w:World} {p q:Nat} {t:T} {u:Value} (h:cvT E w t u):cvT (E.sw p q) w (swT p q t) u:=by
 cases t with
 |v v=>exact OO h
 |tup vs=>obtain⟨arr,h1,h2⟩:=h;exact⟨arr,h1,KD h2⟩
 |any=>trivial
theorem QR {E:Env} {w:World} {p q o:Nat} {ob:Ob} (h:cy E w (sw p q o) ob):cy (E.sw p q) w o (SM p q ob):=by
 cases ob with
 |var t cs=>obtain⟨b,c,arr,h1,h2,h3,h4⟩:=h;exact⟨b,c,arr,h1,h2,Fk h3,h4⟩
 |row t sz els g m=>exact h
 |rown t sz els g=>exact h
 |abs l y=>exact h
theorem Nj {p q:Nat}:∀(sl:List (Nat×T)) (k:Nat),gt (swS p q sl) k=swT p q (gt sl k)
 |[],k=>rfl
 |(j,t)::r,k=>by
  simp only[swS,gt]
  cases d0 j k
  ·exact Nj r k
  ·rfl
theorem Ni {p q:Nat}:∀(ob:List (Nat×Ob)) (o:Nat),go (swO p q ob) o=(go ob (sw p q o)).map (SM p q)
 |[],o=>rfl
 |(j,t)::r,o=>by
  simp only[swO,go,D1]
  by_cases h:j=sw p q o
  ·subst h;simp[BP]
  ·have h2:sw p q j≠o:=fun e=>h (by rw[←e,BP])
   simp only[h,h2,decide_false,cond_false]
   exact Ni r o
theorem HN {N p q nx:Nat} {sl:List (Nat×T)} {ob:List (Nat×Ob)} (hp:rsv p=false:=by exact rfl) (hq:rsv q=false:=by exact rfl) (hpn:nlt p nx=true:=by exact rfl) (hqn:nlt q nx=true:=by exact rfl):cZ N ⟨sl,ob,nx⟩ ⟨swS p q sl,swO p q ob,nx⟩:=by
 intro cx E a w hR
 have ok:=hR.ok
 refine⟨E.sw p q,⟨ok.fb,ok.gf,ok.gn,fun o b c h=>?_,fun o o' b c c' h h'=>SQ (ok.inj _ _ _ _ _ h h'),ok.os,ok.tape,ok.output,ok.size,ok.block,fun o x hr h=>?_,ok.ff,ok.gc,?_⟩,fun o x h=>sw_lt (cK hpn) (cK hqn) (hR.dom _ x h),fun o ob' h=>?_,fun k=>?_,hR.dfr,hR.size,hR.td⟩
 ·obtain⟨h1,h2⟩:=ok.rb _ b c h
  refine⟨h1,h2.imp id fun h3=>⟨h3.1,?_⟩⟩
  have:=(OP hp hq o).2 h3.2
  rw[this] at h3;exact h3.2
 ·have h':E.r (sw p q o)=some x:=h
  rw[(OP hp hq o).1 (EJ hr)] at h'
  exact ok.pin o x hr h'
 ·have sf:=ok.sf
  exact⟨fun l b h=>⟨(sf.tb l b h).1,(sf.tb l b h).2.1,fun o c=>(sf.tb l b h).2.2.1 _ c,(sf.tb l b h).2.2.2⟩,sf.tt,fun b h=>⟨(sf.zc b h).1,(sf.zc b h).2.1,fun o c=>(sf.zc b h).2.2.1 _ c,(sf.zc b h).2.2.2⟩,sf.zs,sf.ze⟩
 ·rw[Ni] at h
  cases hg:go ob (sw p q o) with
  |none=>rw[hg] at h;cases h
  |some x=>rw[hg] at h;cases h;exact QR (hR.obs _ x hg)
 ·rw[Nj];exact SN (hR.sl k)
def wnC (o n:Nat):C→C
 | .w k m=>bif d0 k o then .w k n else .w k m
 | .wn k m=>bif d0 k o then .wn k n else .wn k m
 |c=>c
def Ph (o n:Nat):C→List (Nat×Nat)
 | .w k m=>bif d0 k o then [(m,n)] else []
 | .wn k m=>bif d0 k o then [(m,n)] else []
 |_=>[]
def Pg (o n:Nat):List C→List C
 |[]=>[]
 |c::cs=>wnC o n c::Pg o n cs
def HO (o n:Nat):List C→List (Nat×Nat)
 |[]=>[]
 |c::cs=>Ph o n c++HO o n cs
def wnT (o n:Nat):T→T
 | .v (.c c)=>.v (.c (wnC o n c))
 | .v (.agg cs)=>.v (.agg (Pg o n cs))
 |t=>t
def Ti (o n:Nat):T→List (Nat×Nat)
 | .v (.c c)=>Ph o n c
 | .v (.agg cs)=>HO o n cs
 |_=>[]
def wnS (o n:Nat):List (Nat×T)→List (Nat×T)
 |[]=>[]
 |(k,t)::r=>(k,wnT o n t)::wnS o n r
def L9 (o n:Nat):List (Nat×T)→List (Nat×Nat)
 |[]=>[]
 |(_,t)::r=>Ti o n t++L9 o n r
def wnO (o n:Nat):List (Nat×Ob)→List (Nat×Ob)
 |[]=>[]
 |(k,.var t cs)::r=>(k,.var t (Pg o n cs))::wnO o n r
 |p::r=>p::wnO o n r
def Jc (o n:Nat):List (Nat×Ob)→List (Nat×Nat)
 |[]=>[]
 |(_,.var _ cs)::r=>HO o n cs++Jc o n r
 |_::r=>Jc o n r
theorem Pf {E:Env} {w:World} {o n:Nat} {c:C} {u:Value} (he:Eqs (Ph o n c)) (h:cvC E w c u):cvC E w (wnC o n c) u:=by
 cases c with
 |w k m=>
  simp only[wnC,Ph] at he ⊢
  cases hk:d0 k o with
  |false=>exact h
  |true=>rw[hk] at he;have:m=n:=he.1;subst this;exact h
 |wn k m=>
  simp only[wnC,Ph] at he ⊢
  cases hk:d0 k o with
  |false=>exact h
  |true=>rw[hk] at he;have:m=n:=he.1;subst this;exact h
 |_=>exact h
theorem Fq {E:Env} {w:World} {o n:Nat}:∀{cs:List C} {us:List Value},Eqs (HO o n cs)→CV E w cs us→CV E w (Pg o n cs) us
 |[],[],_,h=>h
 |[],_::_,_,h=>h.elim
 |_::_,[],_,h=>h.elim
 |_::_,_::_,he,h=>by obtain⟨h1,h2⟩:=ea he;exact⟨Pf h1 h.1,Fq h2 h.2⟩
theorem Tj {E:Env} {w:World} {o n:Nat} {t:T} {u:Value} (he:Eqs (Ti o n t)) (h:cvT E w t u):cvT E w (wnT o n t) u:=by
 cases t with
 |v v=>
  cases v with
  |c c=>exact Pf he h
  |agg cs=>obtain⟨arr,h1,h2⟩:=h;exact⟨arr,h1,Fq he h2⟩
 |_=>exact h
theorem Pe {N o n nx:Nat} {sl:List (Nat×T)} {ob:List (Nat×Ob)} (he:Eqs (L9 o n sl)) (he2:Eqs (Jc o n ob)):cZ N ⟨sl,ob,nx⟩ ⟨wnS o n sl,wnO o n ob,nx⟩:=by
 intro cx E a w hR
 refine⟨E,hR.ok,hR.dom,fun p x h=>?_,fun k=>?_,hR.dfr,hR.size,hR.td⟩
 ·have key:∀(ob:List (Nat×Ob)) (x:Ob),Eqs (Jc o n ob)→go (wnO o n ob) p=some x→∃y,go ob p=some y∧(cy E w p y→cy E w p x):=by
   intro ob
   induction ob with
   |nil=>intro x _ h;cases h
   |cons q r ih=>
    intro x he h
    obtain⟨k,v⟩:=q
    cases v with
    |var t cs=>
     obtain⟨h1,h2⟩:=ea (show Eqs (HO o n cs++Jc o n r) from he)
     simp only[wnO,go] at h ⊢
     cases hk:d0 k p with
     |false=>rw[hk] at h;exact ih x h2 h
     |true=>
      rw[hk] at h
      cases h
      exact⟨_,rfl,fun⟨b,c,arr,k1,k2,k3,k4⟩=>⟨b,c,arr,k1,k2,Fq h1 k3,k4⟩⟩
    |row t sz els g m=>
     simp only[wnO,go] at h ⊢
     cases hk:d0 k p with
     |false=>rw[hk] at h;exact ih x he h
     |true=>rw[hk] at h;cases h;exact⟨_,rfl,id⟩
    |rown t sz els g=>
     simp only[wnO,go] at h ⊢
     cases hk:d0 k p with
     |false=>rw[hk] at h;exact ih x he h
     |true=>rw[hk] at h;cases h;exact⟨_,rfl,id⟩
    |abs l y=>
     simp only[wnO,go] at h ⊢
     cases hk:d0 k p with
     |false=>rw[hk] at h;exact ih x he h
     |true=>rw[hk] at h;cases h;exact⟨_,rfl,id⟩
  obtain⟨y,h1,h2⟩:=key ob x he2 h
  exact h2 (hR.obs p y h1)
 ·have key:∀(sl:List (Nat×T)),Eqs (L9 o n sl)→(cvT E w (gt sl k) (a.tmps.getD k undef)→cvT E w (gt (wnS o n sl) k) (a.tmps.getD k undef)):=by
   intro sl
   induction sl with
   |nil=>intro _ h;exact h
   |cons q r ih=>
    intro he h
    obtain⟨j,t⟩:=q
    obtain⟨h1,h2⟩:=ea (show Eqs (Ti o n t++L9 o n r) from he)
    simp only[wnS,gt] at h ⊢
    cases hj:d0 j k with
    |false=>rw[hj] at h;exact ih h2 h
    |true=>rw[hj] at h;exact Tj h1 h
  exact key sl he (hR.sl k)
theorem clo_w {N:Nat} {AQ:Exit→St→Prop} {e:Exit} {s m:St} [c:Clo N AQ] (hw:cZ N s m) (h:AQ e m):AQ e s:=c.h _ _ _ hw h
def nlC:C→C
 | .nil=>.d true (.l [])
 |c=>c
def So:List C→List C
 |[]=>[]
 |c::cs=>nlC c::So cs
theorem Sn {E:Env} {w:World} {c:C} {u:Value} (h:cvC E w c u):cvC E w (nlC c) u:=by
 cases c with
 |nil=>
  have h:u= .slice none 0 0:=h
  subst h
  show rdD _ _ _ _
  rw[rdD]
  exact⟨none,0,rfl,Tt _,.inl rfl⟩
 |_=>exact h
theorem J9 {E:Env} {w:World}:∀{cs:List C} {us:List Value},CV E w cs us→CV E w (So cs) us
 |[],[],h=>h
 |[],_::_,h=>h.elim
 |_::_,[],h=>h.elim
 |_::_,_::_,h=>⟨Sn h.1,J9 h.2⟩
theorem Pc {N nx o:Nat} {sl:List (Nat×T)} {ob:List (Nat×Ob)} {ty:TypeId} {cs:List C} (ho:go ob o=some (.var ty cs):=by exact rfl):cZ N ⟨sl,ob,nx⟩ ⟨sl,(o,.var ty (So cs))::ob,nx⟩:=by
 intro cx E a w hR
 refine⟨E,hR.ok,hR.dom,fun p x h=>?_,hR.sl,hR.dfr,hR.size,hR.td⟩
 by_cases hp:o=p
 ·subst hp
  rw[cg] at h;cases h
  obtain⟨b,c,arr,h1,h2,h3,h4⟩:=hR.obs o _ ho
  exact⟨b,c,arr,h1,h2,J9 h3,h4⟩
 ·rw[bA _ _ hp] at h;exact hR.obs p x h
def uU (o n:Nat):List (Nat×T)→Option (List (Nat×T))
 |[]=>some []
 |(k,.v (.c c))::r=>match uU o n r with
  |some r'=>match c with
   | .w q m=>bif d0 q o then some ((k,.v (.c (.w q n)))::r') else some ((k,.v (.c (.w q m)))::r')
   | .wn q m=>bif d0 q o then some ((k,.v (.c (.wn q n)))::r') else some ((k,.v (.c (.wn q m)))::r')
   |c=>some ((k,.v (.c c))::r')
  |none=>none
 |(k,t)::r=>match uU o n r with
  |some r'=>some ((k,wnT o n t)::r')
  |none=>none
theorem KP {o n:Nat}:∀{sl sl':List (Nat×T)},uU o n sl=some sl'→sl'=wnS o n sl
 |[],sl',h=>by simp[uU] at h;subst h;rfl
 |(k,t)::r,sl',h=>by
  cases hr:uU o n r with
  |none=>
   exfalso
   cases t with
   |v v=>cases v<;>simp[uU,hr] at h
   |tup vs=>simp[uU,hr] at h
   |any=>simp[uU,hr] at h
  |some r'=>
   have:=KP hr
   subst this
   cases t with
   |v v=>
    cases v with
    |c c=>
     cases c with
     |w q m=>
      simp only[uU,hr] at h
      simp only[wnS,wnT,wnC]
      cases hq:d0 q o<;>rw[hq] at h<;>cases h<;>rfl
     |wn q m=>
      simp only[uU,hr] at h
      simp only[wnS,wnT,wnC]
      cases hq:d0 q o<;>rw[hq] at h<;>cases h<;>rfl
     |_=>simp only[uU,hr] at h;cases h;rfl
    |agg cs=>simp only[uU,hr] at h;cases h;rfl
   |tup vs=>simp only[uU,hr] at h;cases h;rfl
   |any=>simp only[uU,hr] at h;cases h;rfl
def Fr (o n:Nat):List (Nat×Ob)→Option (List (Nat×Ob))
 |[]=>some []
 |(k,.var t cs)::r=>match Fr o n r with
  |some r'=>some ((k,.var t (Pg o n cs))::r')
  |none=>none
 |p::r=>match Fr o n r with
  |some r'=>some (p::r')
  |none=>none
theorem KO {o n:Nat}:∀{sl sl':List (Nat×Ob)},Fr o n sl=some sl'→sl'=wnO o n sl
 |[],sl',h=>by simp[Fr] at h;subst h;rfl
 |(k,t)::r,sl',h=>by
  cases hr:Fr o n r with
  |none=>exfalso;cases t<;>simp[Fr,hr] at h
  |some r'=>
   have:=KO hr
   subst this
   cases t<;>simp only[Fr,hr] at h<;>cases h<;>rfl
theorem qN {N o n nx:Nat} {sl sl':List (Nat×T)} {ob ob':List (Nat×Ob)} (hs:uU o n sl=some sl':=by exact rfl) (ho:Fr o n ob=some ob':=by exact rfl) (he:Eqs (L9 o n sl):=by repeat (first|exact trivial|refine⟨by first|rfl|simp,?_⟩)) (he2:Eqs (Jc o n ob):=by repeat (first|exact trivial|refine⟨by first|rfl|simp,?_⟩)):cZ N ⟨sl,ob,nx⟩ ⟨sl',ob',nx⟩:=by
 rw[KP hs,KO ho];exact Pe he he2
end Go.AM
namespace Go.AM
open Go.RowKit
section
variable {P:Program} {N:Nat} {d:Tmp} {ty:TypeId} {ps:String} {af:Array Edge} {gd:Option (Nat×Bool)} {x y z:Operand}
def Env.mv (E:Env) (o q b c:Nat):Env:={E with r:=fun l=>if l=q then some (b,c) else if l=o then none else E.r l}
theorem Gv {t:TypeId} {e sz by_ o q n:Nat} {els ys:List (List D)} {g gy:Bool} {c:C} {nob:List (Nat×Ob)} [ht:TySl P t e sz by_] (hrv:rsv o=false)
 (ho:go nob o=some (.row e sz els g true)) (hs:Src nob c ys gy) (hn:els.length=n) (hsz:∀e∈ys,e.length=sz) (hb:(n+ys.length)*by_≤140737488355328) (h63:n+ys.length≤9223372036854775807):
 AWK P ⟨some d,.call ⟨.builtin .append,#[x,y],#[t,t]⟩,ty,ps,af,gd⟩ [(x,.v (.c (.w o n))),(y,.v (.c c))] nob (.v (.c (.w q (n+ys.length)))) [(q,.row e sz (els++ys) (g&&gy) true)] [] (some o):=by
 intro cx E a w ok hne hnob hfr
 have hob:∀l x,go nob l=some x→cy E w l x:=fun l x h=>hnob l x (vu h)
 obtain⟨hq1,hq2⟩:=hfr q _ (.head _)
 have h1:cvT E w (.v (.c (.w o n))) (a.eval x):=hne x _ (.head _)
 have h2:cvT E w (.v (.c c)) (a.eval y):=hne y _ (.tail _ (.head _))
 obtain⟨b,cc,hr,hu⟩:=h1
 obtain⟨b',c',arr,hr',hh,ha,hlc,hmx,hes,hrd,hFm,_⟩:=hob o _ ho
 rw[hr] at hr';cases hr'
 have hF:=hFm rfl
 have hoq:o≠q:=fun e=>by rw[e,hq1] at hr;cases hr
 obtain⟨A,k,hv,hyk,hA⟩:=zT hob hs h2
 obtain⟨ii,zz,i1,i2,i3,i4,i5⟩:=ht.i
 have hbl:=(ok.rb o b cc hr)
 have hown:w.ownsRow 0 e sz (.slice (some ⟨b,0,none⟩) n cc) n (arr.toList.take (n*sz)):=
  ⟨by simp[ha];rw[Ul (by omega)],.inr ⟨b,cc,arr,rfl,Ud _,hh,by omega,hmx,ha,rfl⟩⟩
 have hsrc:∃news:List Value,news.length=ys.length*sz∧(∀u∈news,u.oneCell'=true)∧(∀(j:Nat) (xd:D),ys.flatten[j]?=some xd→∃u,news[j]?=some u∧rdD w (E.H gy) xd u)∧
  ∃v' w',(Builtin.append_ #[t,t] ty #[.slice (some ⟨b,0,none⟩) n cc,.slice A ys.length k]).run P w= .ok v' w'∧w'.ownsRow 0 e sz v' (n+ys.length) (arr.toList.take (n*sz)++news)∧w.grownBy w' (some b)∧v'≠.slice none 0 0∧(v'.ownBlock=some b∨v'.ownBlock=some w.heap.size):=by
  have hgood:∀ad,A=some ad→∀news:List Value,news.length=ys.length*sz→(∀(j:Nat) (u:Value),news[j]?=some u→w.cell? (ad.add j)=some u)→(∀u∈news,u.oneCell'=true)→
   ∃v' w',(Builtin.append_ #[t,t] ty #[.slice (some ⟨b,0,none⟩) n cc,.slice A ys.length k]).run P w= .ok v' w'∧w'.ownsRow 0 e sz v' (n+ys.length) (arr.toList.take (n*sz)++news)∧w.grownBy w' (some b)∧v'≠.slice none 0 0∧(v'.ownBlock=some b∨v'.ownBlock=some w.heap.size):=by
   intro ad hAd news n1 n2 n3
   obtain⟨v',w',r1,r2,r3,r4,r5⟩:=run_append_own_at (P:=P) w 0 t ty e ii zz sz by_ ht.u i1 i4 i2 i3 i5 ht.p _ n _ hown ad ys.length k news n1 n2 n3 (by unfold maxLen;omega) hb (Ud _)
   exact⟨v',w',by rw[hAd];exact r1,r2,r3,(fun h=>by have h9:=(r4.1 h).1;simp at h9),r5⟩
  rcases hA with h0|⟨b2,off,rfl,hrd2⟩
  ·subst h0
   refine⟨[],by simp,by simp,by simp,?_⟩
   cases A with
   |none=>exact⟨_,w,oy w ht.u i1 hown k,by simpa using hown,⟨rfl,rfl,rfl,Tt _,fun _ _ _=>rfl⟩,by simp,.inl rfl⟩
   |some ad=>exact hgood ad rfl [] (by simp) (by simp) (by simp)
  ·obtain⟨us,q1,q2,q3,q4⟩:=tp (eX.1 hrd2)
   exact⟨us,by rw[q1,gE hsz],q3,q4,hgood _ rfl us (by rw[q1,gE hsz]) q2 q3⟩
 obtain⟨news,n1,n2,n3,v',w',r1,r2,r3,r4,r5⟩:=hsrc
 obtain⟨_,r2⟩:=r2
 rcases r2 with⟨rfl,_⟩|⟨bn,cap,cur,rfl,_,hhn,hcap,hcapm,hcur,htk⟩
 ·exact absurd rfl r4
 unfold Oper.wp
 simp only[execOp,resolve,invoke,builtin,Sem.run_bind,Sem.run_pure,Result.andThen_ok,U3,Uu,UN,hu,hv,r1,Oper.upon_value]
 have hbn:bn=b∨bn=w.heap.size:=by simpa [Value.ownBlock] using r5
 have hsame:∀k,k<w.heap.size→k≠b→w'.heap[k]?=w.heap[k]?:=fun k hk hne=>r3.block k hk (fun e=>hne (by injection e))
 have hnF:¬E.F bn:=by
  rcases hbn with rfl|rfl
  ·exact hF
  ·exact fun h=>by have:=ok.fb _ h;omega
 have hbig:bn<w'.heap.size:=by
  rcases T9 bn w'.heap.size with h|h
  ·exact h
  ·rw[Ub h] at hhn;cases hhn
 have hnew:∀l bl cl,l≠o→E.r l=some (bl,cl)→bl≠bn:=by
  intro l bl cl hne hl e
  subst e
  rcases hbn with h|h
  ·subst h;exact hne (ok.inj l o _ _ _ hl hr)
  ·have:=(ok.rb l bl cl hl).1;omega
 have hHb:∀g k,E.H g k→k≠b∧k<w.heap.size:=fun g k hk=>⟨fun e=>by subst e;cases g;exact hF hk;exact hF (ok.gf _ hk),ok.hb hk⟩
 have kH:∀(g:Bool) (k:Nat),E.H g k→w'.heap[k]?=w.heap[k]?:=fun g k hk=>hsame k (hHb g k hk).2 (hHb g k hk).1
 have kI:∀(g:Bool) (k:Nat),E.H g k→(E.mv o q bn cap).H g k:=fun _ _ h=>h
 have hbnew:cx.w0.heap.size≤b:=by
  rcases hbl.2 with h|h
  ·exact h
  ·rw[hrv] at h;cases h.2
 have hmv:∀l bl cl,(E.mv o q bn cap).r l=some (bl,cl)→(l=q∧bl=bn∧cl=cap)∨(l≠q∧l≠o∧E.r l=some (bl,cl)):=by
  intro l bl cl hl
  simp only[Env.mv] at hl
  split at hl
  ·cases hl;exact .inl ⟨by assumption,rfl,rfl⟩
  ·split at hl
   ·cases hl
   ·exact .inr ⟨by assumption,by assumption,hl⟩
 refine⟨_,E.mv o q bn cap,rfl,⟨fun k hk=>Uc (ok.fb k hk) r3.size,ok.gf,ok.gn,fun l bl cl hl=>?_,fun l l' bl cl cl' hl hl'=>?_,by rw[r3.os];exact ok.os,by rw[r3.tape];exact ok.tape,by rw[r3.output];exact ok.output,U0 ok.size r3.size,fun k hk hW=>?_,fun l xx hv hl=>?_,ok.ff,fun k hk hk'=>(ok.gc k hk hk').of_eq (hsame k (hHb false k hk).2 (hHb false k hk).1),ok.sf.turn hr rfl rfl (fun _ h=>.inl h) (fun l bl cl hl=>?_) r3.size hsame⟩,
  ⟨fun l xx hl hlr=>?_,fun _ h=>h,fun _ h=>h,fun _ h=>.inl h,fun k hk _ hkl=>hsame k hk (fun e=>hkl o cc rfl (e▸hr)),(fun _ _ _ _ h=>by cases h),fun l bl cl hl hlr=>?_,rfl,rfl,rfl⟩,⟨bn,cap,by simp[Env.mv],rfl⟩,fun l ob hm=>?_,(fun _ _ h=>by cases h),fun l xx hl=>?_⟩
 ·rcases hmv l bl cl hl with⟨_,rfl,rfl⟩|⟨_,_,hl⟩
  ·refine⟨hbig,.inl ?_⟩
   rcases hbn with h|h
   ·rw[h];exact hbnew
   ·rw[h];exact ok.size
  ·have:=ok.rb l bl cl hl;exact⟨Uc this.1 r3.size,this.2⟩
 ·rcases hmv l bl cl hl with⟨h1,h2,h3⟩|⟨h1,h2,h3⟩<;>rcases hmv l' bl cl' hl' with⟨k1,k2,k3⟩|⟨k1,k2,k3⟩
  ·omega
  ·exact absurd h2 (hnew l' _ _ k2 k3)
  ·exact absurd k2 (hnew l _ _ h2 h3)
  ·exact ok.inj l l' bl cl cl' h3 k3
 ·rw[hsame k (by have:=ok.size;omega) (by omega)];exact ok.block k hk hW
 ·obtain⟨bl,cl⟩:=xx
  rcases hmv l bl cl hl with⟨rfl,_⟩|⟨_,_,hl⟩
  ·rw[nu hq2] at hv;cases hv
  ·exact ok.pin l _ hv hl
 ·rcases hmv l bl cl hl with⟨_,rfl,_⟩|⟨_,_,hl⟩
  ·rcases hbn with h|h
   ·left;exact⟨o,_,h▸hr⟩
   ·right;omega
  ·exact .inl ⟨l,cl,hl⟩
 ·simp only[Env.mv]
  rw[if_neg (fun e=>by rw[e,hq1] at hlr;cases hlr),if_neg (fun e=>hl (by rw[e]))]
  exact hlr
 ·cases hl
  rw[hr] at hlr;cases hlr;exact hF
 ·simp at hm;obtain⟨rfl,rfl⟩:=hm
  have hall:∀e'∈els++ys,e'.length=sz:=fun e' he'=>by
   rcases TW.1 he' with h|h
   ·exact hes e' h
   ·exact hsz e' h
  refine⟨bn,cap,cur,by simp[Env.mv],hhn,hcur,by simp;omega,hcapm,hall,?_,fun _=>hnF,fun h=>by cases h⟩
  rw[eX]
  refine lJ fun j xd hj=>?_
  rw[Tv,et hhn]
  rw[List.flatten_append] at hj
  have hfl:els.flatten.length=n*sz:=by rw[gE hes,hn]
  have hxs:(arr.toList.take (n*sz)).length=n*sz:=by simp[ha];rw[Ul (by omega)]
  have hcurj:∀u,(arr.toList.take (n*sz)++news)[j]?=some u→cur[j]?=some u:=by
   intro u hu
   rw[←htk,TB] at hu
   split at hu
   ·simpa using hu
   ·cases hu
  by_cases hjn:j<n*sz
  ·rw[Tu (by omega)] at hj
   obtain⟨u,u1,u2⟩:=kF (eX.1 hrd) hj
   rw[Tv,et hh] at u1
   refine⟨u,hcurj u ?_,cj (kH _) (kI _) _ _ (mY ok u2 (by simp;intro a _;exact a))⟩
   rw[Tu (by omega),TB,if_pos hjn]
   simpa using u1
  ·rw[Tz (by omega),hfl] at hj
   obtain⟨u,u1,u2⟩:=n3 _ _ hj
   refine⟨u,hcurj u ?_,cj (kH _) (kI _) _ _ (mY ok u2 (by simp))⟩
   rw[Tz (by omega),hxs]
   exact u1
 ·obtain⟨bl,cl⟩:=xx
  rcases hmv l bl cl hl with⟨rfl,_⟩|⟨_,_,hl⟩
  ·exact .inr ⟨_,.head _⟩
  ·exact .inl hl
theorem rS {t:TypeId} {e sz by_ q:Nat} {ys:List (List D)} {gy:Bool} {c:C} {nob:List (Nat×Ob)} [ht:TySl P t e sz by_]
 (hs:Src nob c ys gy) (hne0:ys≠[]) (hsz:∀e∈ys,e.length=sz) (hb:ys.length*by_≤140737488355328) (h63:ys.length≤9223372036854775807)
 {cx:Cx} {E:Env} {a:Act} {w:World} (ok:cQ cx E w) (hob:∀l x,go nob l=some x→cy E w l x) (hq1:E.r q=none) (hq2:rsv q=false) (hu:a.eval x= .slice none 0 0) (h2:cvT E w (.v (.c c)) (a.eval y)):
 Oper.wp P ⟨some d,.call ⟨.builtin .append,#[x,y],#[t,t]⟩,ty,ps,af,gd⟩ a w (fun a' w'=>∃v E',a'=a.put (some d) v∧cQ cx E' w'∧Ext E w E' w'∧cvT E' w' (.v (.c (.w q ys.length))) v∧(∀l ob,(l,ob)∈[(q,Ob.row e sz ys gy true)]→cy E' w' l ob)∧
  (∀l x,E'.r l=some x→E.r l=some x∨∃ob,(l,ob)∈[(q,Ob.row e sz ys gy true)])) (fun _ _ _=>False):=by
 obtain⟨A,k,hv,hyk,hA⟩:=zT hob hs h2
 obtain⟨ii,zz,i1,i2,i3,i4,i5⟩:=ht.i
 have hown:=World.ownsRow_nil w 0 e sz
 rcases hA with h0|⟨b2,off,rfl,hrd2⟩
 ·exact absurd h0 hne0
 obtain⟨news,q1,q2,q3,n3⟩:=tp (eX.1 hrd2)
 have n1:news.length=ys.length*sz:=by rw[q1,gE hsz]
 obtain⟨v',w',r1,r2,r3,r4,r5⟩:=run_append_own_at (P:=P) w 0 t ty e ii zz sz by_ ht.u i1 i4 i2 i3 i5 ht.p _ 0 _ hown ⟨b2,off,none⟩ ys.length k news n1 q2 q3 (by unfold maxLen;omega) (by simpa using hb) (Ud _)
 have hnn:v'≠.slice none 0 0:=fun h=>hne0 (Ui (r4.1 h).2)
 obtain⟨_,r2⟩:=r2
 rcases r2 with⟨rfl,_⟩|⟨bn,cap,cur,rfl,_,hhn,hcap,hcapm,hcur,htk⟩
 ·exact absurd rfl hnn
 simp only[Tv,UZ] at r1 hcap htk hnn r4 r5
 unfold Oper.wp
 simp only[execOp,resolve,invoke,builtin,Sem.run_bind,Sem.run_pure,Result.andThen_ok,U3,Uu,UN,hu,hv,r1,Oper.upon_value]
 have hbn:bn=w.heap.size:=by simpa [Value.ownBlock] using r5
 have hsame:∀k,k<w.heap.size→w'.heap[k]?=w.heap[k]?:=fun k hk=>r3.block k hk (fun e=>by simp[Value.ownBlock] at e)
 have hnF:¬E.F bn:=fun h=>by have:=ok.fb _ h;omega
 have hbig:bn<w'.heap.size:=by
  rcases T9 bn w'.heap.size with h|h
  ·exact h
  ·rw[Ub h] at hhn;cases hhn
 have kH:∀(g:Bool) (k:Nat),E.H g k→w'.heap[k]?=w.heap[k]?:=fun g k hk=>hsame k (ok.hb hk)
 have kI:∀(g:Bool) (k:Nat),E.H g k→(E.new q bn cap).H g k:=fun _ _ h=>h
 have hmv:∀l bl cl,(E.new q bn cap).r l=some (bl,cl)→(l=q∧bl=bn∧cl=cap)∨(l≠q∧E.r l=some (bl,cl)):=by
  intro l bl cl hl
  simp only[Env.new] at hl
  split at hl
  ·cases hl;exact .inl ⟨by assumption,rfl,rfl⟩
  ·exact .inr ⟨by assumption,hl⟩
 refine⟨_,E.new q bn cap,rfl,⟨fun k hk=>Uc (ok.fb k hk) r3.size,ok.gf,ok.gn,fun l bl cl hl=>?_,fun l l' bl cl cl' hl hl'=>?_,by rw[r3.os];exact ok.os,by rw[r3.tape];exact ok.tape,by rw[r3.output];exact ok.output,U0 ok.size r3.size,fun k hk hW=>?_,fun l xx hv hl=>?_,ok.ff,fun k hk hk'=>(ok.gc k hk hk').of_eq (hsame k (ok.fb k hk)),ok.sf.grow rfl rfl (fun _ h=>.inl h) (fun l bl cl hl=>?_) r3.size hsame⟩,
  ⟨fun l xx hlr=>?_,fun _ h=>h,fun _ h=>h,fun _ h=>.inl h,hsame,rfl,rfl,rfl⟩,⟨bn,cap,by simp[Env.new],rfl⟩,fun l ob hm=>?_,fun l xx hl=>?_⟩
 ·rcases hmv l bl cl hl with⟨_,rfl,rfl⟩|⟨_,hl⟩
  ·exact⟨hbig,.inl (by rw[hbn];exact ok.size)⟩
  ·have:=ok.rb l bl cl hl;exact⟨Uc this.1 r3.size,this.2⟩
 ·rcases hmv l bl cl hl with⟨h1,h2,h3⟩|⟨h1,h3⟩<;>rcases hmv l' bl cl' hl' with⟨k1,k2,k3⟩|⟨k1,k3⟩
  ·omega
  ·have:=(ok.rb l' bl cl' k3).1;omega
  ·have:=(ok.rb l bl cl h3).1;omega
  ·exact ok.inj l l' bl cl cl' h3 k3
 ·rw[hsame k (by have:=ok.size;omega)];exact ok.block k hk hW
 ·obtain⟨bl,cl⟩:=xx
  rcases hmv l bl cl hl with⟨rfl,_⟩|⟨_,hl⟩
  ·rw[nu hq2] at hv;cases hv
  ·exact ok.pin l _ hv hl
 ·rcases hmv l bl cl hl with⟨_,rfl,_⟩|⟨_,hl⟩
  ·right;omega
  ·exact .inl ⟨l,cl,hl⟩
 ·simp only[Env.new]
  rw[if_neg (fun e=>by rw[e,hq1] at hlr;cases hlr)]
  exact hlr
 ·simp at hm;obtain⟨rfl,rfl⟩:=hm
  refine⟨bn,cap,cur,by simp[Env.new],hhn,hcur,by omega,hcapm,hsz,?_,fun _=>hnF,fun h=>by cases h⟩
  rw[eX]
  refine lJ fun j xd hj=>?_
  rw[Tv,et hhn]
  obtain⟨u,u1,u2⟩:=n3 _ _ hj
  refine⟨u,?_,cj (kH _) (kI _) _ _ u2⟩
  have:=u1
  rw[←htk,TB] at this
  split at this
  ·simpa using this
  ·cases this
 ·obtain⟨bl,cl⟩:=xx
  rcases hmv l bl cl hl with⟨rfl,_⟩|⟨_,hl⟩
  ·exact .inr ⟨_,.head _⟩
  ·exact .inl hl
theorem Es {t:TypeId} {e sz by_ q:Nat} {ys:List (List D)} {gy:Bool} {c:C} {nob:List (Nat×Ob)} [ht:TySl P t e sz by_]
 (hs:Src nob c ys gy) (hne0:ys≠[]) (hsz:∀e∈ys,e.length=sz) (hb:ys.length*by_≤140737488355328) (h63:ys.length≤9223372036854775807):
 AWN P ⟨some d,.call ⟨.builtin .append,#[x,y],#[t,t]⟩,ty,ps,af,gd⟩ [(x,.v (.c .nil)),(y,.v (.c c))] nob (.v (.c (.w q ys.length))) [(q,.row e sz ys gy true)]:=by
 intro cx E a w ok hne hnob hfr
 obtain⟨hq1,hq2⟩:=hfr q _ (.head _)
 exact rS hs hne0 hsz hb h63 ok (fun l x h=>hnob l x (vu h)) hq1 hq2 (hne x _ (.head _)) (hne y _ (.tail _ (.head _)))
end
section
variable {P:Program} {N:Nat} {d:Tmp} {ty:TypeId} {ps:String} {af:Array Edge} {gd:Option (Nat×Bool)} {x y:Operand} {sl:List (Nat×T)} {ob:List (Nat×Ob)} {nx:Nat} {α:Type} {enc:α→List D}
theorem apx {t:TypeId} {e sz by_ o n nx':Nat} {ys zs:List α} {zd:List (List D)} {g gy gg:Bool} {c:C} {nob:List (Nat×Ob)} (ls:List Nat) [TySl P t e sz by_] (H:cM by_ (ys++zs).length=true) (hzd:zs.map enc=zd:=by exact rfl) (henc:∀a,(enc a).length=sz:=by exact fun _=>rfl)
 (hp:rZ ob ls=some nob:=by exact rfl) (hd:nlt d N=true:=by exact rfl) (hx:opT sl x= .v (.c (.w o n)):=by exact rfl) (hy:opT sl y= .v (.c c):=by exact rfl) (hn:ys.length=n:=by first|rfl|simp) (hs:Src nob c zd gy:=by first|exact .d|exact .nil|exact .w rfl (by first|rfl|exact lm _|simp)|exact .wn rfl (by first|rfl|exact lm _|simp)) (ho:go nob o=some (.row e sz (ys.map enc) g true):=by exact rfl) (hg:(g&&gy)=gg:=by exact rfl) (hrv:rsv o=false:=by exact rfl) (hnx:nxt nx=some nx':=by exact rfl):
 NX P N ⟨some d,.call ⟨.builtin .append,#[x,y],#[t,t]⟩,ty,ps,af,gd⟩ ⟨sl,ob,nx⟩ ⟨(d,.v (.c (.w nx (ys++zs).length)))::sl,(nx,.row e sz ((ys++zs).map enc) gg true)::ob,nx'⟩
  ⟨⟨d,[(x,.v (.c (.w o n))),(y,.v (.c c))],nob,.v (.c (.w nx (ys++zs).length)),[(nx,.row e sz ((ys++zs).map enc) gg true)]⟩,[],some o⟩:=by
 subst hzd;subst hg
 simp only[cM,decide_eq_true_eq,Ut] at H
 have:=Gv (P:=P) (d:=d) (ty:=ty) (ps:=ps) (af:=af) (gd:=gd) (x:=x) (y:=y) (t:=t) (e:=e) (sz:=sz) (by_:=by_) (q:=nx) (n:=n) hrv ho hs (by simpa using hn) (Gz henc zs) (by subst hn;simp only[Us];exact H.1) (by subst hn;simp only[Us];omega)
 rw[←UK,Us,←hn,←Ut] at this
 exact⟨by subst hn;exact this,.inl ⟨rfl,cK hd⟩,⟨hx,hy,trivial⟩,qs hp,lH hnx,rfl⟩
theorem B2 {t:TypeId} {e sz by_ o n nx':Nat} {ys zs:List α} {zd:List (List D)} {g gy:Bool} {c:C} {nob:List (Nat×Ob)} (ls:List Nat) [TySl P t e sz by_] (H:cM by_ (ys++zs).length=true) (hzd:zs.map enc=zd:=by exact rfl) (henc:∀a,(enc a).length=sz:=by exact fun _=>rfl) (hfl:∀a,rW (enc a)=true:=by exact fun _=>rfl)
 (hp:rZ ob ls=some nob:=by exact rfl) (hd:nlt d N=true:=by exact rfl) (hx:opT sl x= .v (.c (.w o n)):=by exact rfl) (hy:opT sl y= .v (.c c):=by exact rfl) (hn:ys.length=n:=by first|rfl|simp) (hs:Src nob c zd gy:=by first|exact .d|exact .nil|exact .w rfl (by first|rfl|exact lm _|simp)|exact .wn rfl (by first|rfl|exact lm _|simp)) (ho:go nob o=some (.row e sz (ys.map enc) g true):=by exact rfl) (hrv:rsv o=false:=by exact rfl) (hnx:nxt nx=some nx':=by exact rfl):
 NX P N ⟨some d,.call ⟨.builtin .append,#[x,y],#[t,t]⟩,ty,ps,af,gd⟩ ⟨sl,ob,nx⟩ ⟨(d,.v (.c (.w nx (ys++zs).length)))::sl,(nx,.row e sz ((ys++zs).map enc) true true)::ob,nx'⟩
  ⟨⟨d,[(x,.v (.c (.w o n))),(y,.v (.c c))],nob,.v (.c (.w nx (ys++zs).length)),[(nx,.row e sz ((ys++zs).map enc) true true)]⟩,[],some o⟩:=by
 obtain⟨h1,h2,h3,h4,h5,h6⟩:=apx (P:=P) (N:=N) (t:=t) (x:=x) (y:=y) (enc:=enc) (d:=d) (ty:=ty) (ps:=ps) (af:=af) (gd:=gd) (sl:=sl) (ob:=ob) (nx:=nx) ls H hzd henc hp hd hx hy hn hs ho rfl hrv hnx
 refine⟨?_,h2,h3,h4,lH hnx,rfl⟩
 intro cx E a w ok hne hnob hfr
 refine Oper.wp_mono ?_ (h1 cx E a w ok hne hnob (fun l x hm=>by simp at hm;obtain⟨rfl,_⟩:=hm;exact hfr _ _ (.head _)))
 rintro a' w' ⟨v,E',k1,k2,k3,k4,k5,k6,k7⟩
 refine⟨v,E',k1,k2,k3,k4,fun l x hm=>?_,k6,fun l x hl=>(k7 l x hl).imp id (fun⟨x',hm⟩=>by simp at hm;obtain⟨rfl,_⟩:=hm;exact⟨_,.head _⟩)⟩
 simp at hm;obtain⟨rfl,rfl⟩:=hm
 obtain⟨b,c,arr,j1,j2,j3,j4,j5,j6,j7,j8,j9⟩:=k5 _ _ (.head _)
 refine⟨b,c,arr,j1,j2,j3,by simpa using j4,j5,by simpa using j6,?_,j8,fun h=>by cases h⟩
 have:rdLL w' (E'.H true) ((ys++zs).map enc) b 0:=uh (fun e he=>by obtain⟨a,_,rfl⟩:=Ur.1 he;exact hfl a) j7
 simpa using this
end
theorem dx {N nx o:Nat} {sl:List (Nat×T)} {ob:List (Nat×Ob)} {ty:TypeId} {cs cs':List C} {e:List (Nat×Nat)} (ho:go ob o=some (.var ty cs):=by exact rfl) (hv:K5 ob cs=some (cs',e):=by exact rfl) (he:Eqs e:=by repeat (first|exact trivial|refine⟨by first|rfl|exact lm _|simp,?_⟩)):cZ N ⟨sl,ob,nx⟩ ⟨sl,(o,.var ty cs')::ob,nx⟩:=by
 intro cx E a w hR
 refine⟨E,hR.ok,hR.dom,fun p x h=>?_,hR.sl,hR.dfr,hR.size,hR.td⟩
 by_cases hp:o=p
 ·subst hp
  rw[cg] at h;cases h
  obtain⟨b,c,arr,h1,h2,h3,h4⟩:=hR.obs o _ ho
  exact⟨b,c,arr,h1,h2,D7 hR.obs hv he h3,h4⟩
 ·rw[bA _ _ hp] at h;exact hR.obs p x h
theorem uG {N nx nx':Nat} {sl:List (Nat×T)} {ob:List (Nat×Ob)} (h:TC nx nx'=true):cZ N ⟨sl,ob,nx⟩ ⟨sl,ob,nx'⟩:=by
 intro cx E a w hR
 have:=UM h
 exact⟨E,hR.ok,fun o x ho=>Uc (hR.dom o x ho) this,hR.obs,hR.sl,hR.dfr,hR.size,fun l b hb=>Uc (hR.td l b hb) this⟩
end Go.AM
namespace Go.AM
open Go.RowKit
theorem cQ.setN {cx:Cx} {E:Env} {w:World} (ok:cQ cx E w) (n:Nat→Prop):cQ cx {E with n:=n} w:=
 ⟨ok.fb,ok.gf,ok.gn,ok.rb,ok.inj,ok.os,ok.tape,ok.output,ok.size,ok.block,ok.pin,ok.ff,ok.gc,⟨ok.sf.tb,ok.sf.tt,ok.sf.zc,ok.sf.zs,ok.sf.ze⟩⟩
def mq (f:C→Option C):List C→Option (List C)
 |[]=>some []
 |c::cs=>match f c,mq f cs with
  |some x,some xs=>some (x::xs)
  |_,_=>none
def Eo (f:C→Option C):V→Option V
 | .c c=>match f c with
  |some x=>some (.c x)
  |none=>none
 | .agg cs=>match mq f cs with
  |some x=>some (.agg x)
  |none=>none
def yL (f:C→Option C):List V→Option (List V)
 |[]=>some []
 |c::cs=>match Eo f c,yL f cs with
  |some x,some xs=>some (x::xs)
  |_,_=>none
def wO (f:C→Option C):T→Option T
 | .v v=>match Eo f v with
  |some x=>some (.v x)
  |none=>none
 | .tup vs=>match yL f vs with
  |some x=>some (.tup x)
  |none=>none
 | .any=>some .any
def ya (f:C→Option C):List (Nat×T)→Option (List (Nat×T))
 |[]=>some []
 |(k,t)::r=>match wO f t,ya f r with
  |some x,some xs=>some ((k,x)::xs)
  |_,_=>none
def vC (f:C→Option C) (g:Nat→Ob→Option Ob):List (Nat×Ob)→Option (List (Nat×Ob))
 |[]=>some []
 |(k,.var t cs)::r=>match mq f cs,vC f g r with
  |some x,some xs=>some ((k,.var t x)::xs)
  |_,_=>none
 |(k,.row t sz els gg m)::r=>match g k (.row t sz els gg m),vC f g r with
  |some x,some xs=>some ((k,x)::xs)
  |_,_=>none
 |(k,.rown t sz els gg)::r=>match g k (.rown t sz els gg),vC f g r with
  |some x,some xs=>some ((k,x)::xs)
  |_,_=>none
 |(k,.abs j y)::r=>match g k (.abs j y),vC f g r with
  |some x,some xs=>some ((k,x)::xs)
  |_,_=>none
section
variable {f:C→Option C} {E E':Env} {w w':World} (hf:∀c c' u,f c=some c'→cvC E w c u→cvC E' w' c' u)
include hf
theorem qr:∀{cs cs':List C} {us:List Value},mq f cs=some cs'→CV E w cs us→CV E' w' cs' us
 |[],cs',us,h,hc=>by
  simp[mq] at h;subst h
  cases us with
  |nil=>trivial
  |cons _ _=>exact hc.elim
 |c::cs,cs',us,h,hc=>by
  cases us with
  |nil=>exact hc.elim
  |cons u us=>
   simp only[mq] at h
   split at h
   ·rename_i h1 h2;simp at h;subst h;exact⟨hf _ _ _ h1 hc.1,qr h2 hc.2⟩
   ·cases h
theorem J0 {v v':V} {u:Value} (h:Eo f v=some v') (hv:cvV E w v u):cvV E' w' v' u:=by
 cases v with
 |c c=>
  simp only[Eo] at h
  split at h
  ·rename_i h1;simp at h;subst h;exact hf _ _ _ h1 hv
  ·cases h
 |agg cs=>
  simp only[Eo] at h
  split at h
  ·rename_i h1;simp at h;subst h;obtain⟨arr,hu,hc⟩:=hv;exact⟨arr,hu,qr hf h1 hc⟩
  ·cases h
theorem GE:∀{cs cs':List V} {us:List Value},yL f cs=some cs'→VV E w cs us→VV E' w' cs' us
 |[],cs',us,h,hc=>by
  simp[yL] at h;subst h
  cases us with
  |nil=>trivial
  |cons _ _=>exact hc.elim
 |c::cs,cs',us,h,hc=>by
  cases us with
  |nil=>exact hc.elim
  |cons u us=>
   simp only[yL] at h
   split at h
   ·rename_i h1 h2;simp at h;subst h;exact⟨J0 hf h1 hc.1,GE h2 hc.2⟩
   ·cases h
theorem wP {v v':T} {u:Value} (h:wO f v=some v') (hv:cvT E w v u):cvT E' w' v' u:=by
 cases v with
 |v v=>
  simp only[wO] at h
  split at h
  ·rename_i h1;simp at h;subst h;exact J0 hf h1 hv
  ·cases h
 |tup vs=>
  simp only[wO] at h
  split at h
  ·rename_i h1;simp at h;subst h;obtain⟨arr,hu,hc⟩:=hv;exact⟨arr,hu,GE hf h1 hc⟩
  ·cases h
 |any=>simp[wO] at h;subst h;trivial
theorem wN {k:Nat} {u:Value}:∀{sl sl':List (Nat×T)},ya f sl=some sl'→cvT E w (gt sl k) u→cvT E' w' (gt sl' k) u
 |[],sl',h,_=>by simp[ya] at h;subst h;trivial
 |(j,t)::r,sl',h,hc=>by
  simp only[ya] at h
  split at h
  ·rename_i h1 h2
   simp at h;subst h
   by_cases hj:j=k
   ·subst hj;rw[dL] at hc ⊢;exact wP hf h1 hc
   ·rw[cR _ _ hj] at hc ⊢;exact wN h2 hc
  ·cases h
end
theorem rh {f:C→Option C} {g:Nat→Ob→Option Ob} {l:Nat} {y:Ob}:∀{ob ob':List (Nat×Ob)},vC f g ob=some ob'→go ob' l=some y→
 (∃t cs cs',go ob l=some (.var t cs)∧mq f cs=some cs'∧y= .var t cs')∨(∃x,go ob l=some x∧(∀t cs,x≠.var t cs)∧g l x=some y)
 |[],ob',h,hy=>by simp[vC] at h;subst h;cases hy
 |(k,x)::r,ob',h,hy=>by
  cases x with
  |var t cs=>
   simp only[vC] at h
   split at h
   ·rename_i h1 h2
    simp at h;subst h
    by_cases hk:k=l
    ·subst hk;rw[cg] at hy ⊢;cases hy;exact .inl ⟨t,cs,_,rfl,h1,rfl⟩
    ·rw[bA _ _ hk] at hy ⊢;exact rh h2 hy
   ·cases h
  |row t sz els gg m=>
   simp only[vC] at h
   split at h
   ·rename_i h1 h2
    simp at h;subst h
    by_cases hk:k=l
    ·subst hk;rw[cg] at hy ⊢;cases hy;exact .inr ⟨_,rfl,by simp,h1⟩
    ·rw[bA _ _ hk] at hy ⊢;exact rh h2 hy
   ·cases h
  |rown t sz els gg=>
   simp only[vC] at h
   split at h
   ·rename_i h1 h2
    simp at h;subst h
    by_cases hk:k=l
    ·subst hk;rw[cg] at hy ⊢;cases hy;exact .inr ⟨_,rfl,by simp,h1⟩
    ·rw[bA _ _ hk] at hy ⊢;exact rh h2 hy
   ·cases h
  |abs j z=>
   simp only[vC] at h
   split at h
   ·rename_i h1 h2
    simp at h;subst h
    by_cases hk:k=l
    ·subst hk;rw[cg] at hy ⊢;cases hy;exact .inr ⟨_,rfl,by simp,h1⟩
    ·rw[bA _ _ hk] at hy ⊢;exact rh h2 hy
   ·cases h
def L5 (o:Nat):C→Option C
 | .w l n=>match d0 l o with
  |true=>some (.wn l n)
  |false=>some (.w l n)
 | .wn l n=>match d0 l o with
  |true=>some .any
  |false=>some (.wn l n)
 |c=>some c
def OW (o:Nat) (k:Nat):Ob→Option Ob
 | .row t sz els g true=>match d0 k o with
  |true=>some (.rown t sz els g)
  |false=>some (.row t sz els g true)
 |x=>some x
theorem c8 {N nx rt sz:Nat} {els:List (List D)} {g:Bool} {sl sl':List (Nat×T)} {ob ob':List (Nat×Ob)} (o:Nat) (ho:go ob o=some (.row rt sz els g true):=by exact rfl) (hs:ya (L5 o) sl=some sl':=by exact rfl) (hb:vC (L5 o) (OW o) ob=some ob':=by exact rfl):cZ N ⟨sl,ob,nx⟩ ⟨sl',ob',nx⟩:=by
 intro cx E a w hR
 have hf:∀c c' u,L5 o c=some c'→cvC E w c u→cvC {E with n:=fun l=>l≠o∧E.n l} w c' u:=by
  intro c c' u h hc
  cases c with
  |w l n=>
   simp only[L5] at h
   split at h
   ·rename_i hb
    have:=To hb
    subst this
    cases h
    exact .inr ⟨fun h=>h.1 rfl,hc⟩
   ·cases h;exact hc
  |wn l n=>
   simp only[L5] at h
   split at h
   ·cases h;trivial
   ·rename_i hb
    have:=gq hb
    cases h
    rcases hc with⟨h1,h2⟩|⟨h1,h2⟩
    ·exact .inl ⟨⟨this,h1⟩,h2⟩
    ·exact .inr ⟨fun h=>h1 h.2,h2⟩
  |_=>simp only[L5] at h;cases h;exact hc
 refine⟨{E with n:=fun l=>l≠o∧E.n l},hR.ok.setN _,hR.dom,fun l y hl=>?_,fun k=>wN hf hs (hR.sl k),hR.dfr,hR.size,hR.td⟩
 rcases rh hb hl with⟨t,cs,cs',h1,h2,rfl⟩|⟨x,h1,h2,h3⟩
 ·obtain⟨b,c,arr,k1,k2,k3,k4⟩:=hR.obs l _ h1
  exact⟨b,c,arr,k1,k2,qr hf h2 k3,k4⟩
 ·have hx:=hR.obs l x h1
  cases x with
  |var t cs=>exact absurd rfl (h2 t cs)
  |row t sz els g m=>
   cases m with
   |true=>
    simp only[OW] at h3
    split at h3
    ·rename_i hb
     have:=To hb
     subst this
     cases h3
     obtain⟨b,c,arr,k1,k2,k3,k4,k5,k6,k7,k8,_⟩:=hx
     exact .inr ⟨fun h=>h.1 rfl,b,c,arr,k1,k2,k3,k4,k5,k6,k7,k8 rfl⟩
    ·cases h3;exact hx
   |false=>simp only[OW] at h3;cases h3;exact hx
  |rown t sz els g=>
   simp only[OW] at h3
   cases h3
   have hlo:l≠o:=fun e=>by subst e;rw[ho] at h1;cases h1
   rcases hx with⟨k1,k2⟩|⟨k1,k2⟩
   ·exact .inl ⟨⟨hlo,k1⟩,k2⟩
   ·exact .inr ⟨fun h=>k1 h.2,k2⟩
  |abs j y=>
   simp only[OW] at h3
   cases h3
   have hlo:l≠o:=fun e=>by subst e;rw[ho] at h1;cases h1
   rcases hx with⟨k1,k2⟩|⟨k1,k2⟩
   ·exact .inl ⟨⟨hlo,k1⟩,k2⟩
   ·exact .inr ⟨fun h=>k1 h.2,k2⟩
def O0 (o:Nat):C→Option C
 | .wn l n=>match d0 l o with
  |true=>some (.w l n)
  |false=>some (.wn l n)
 |c=>some c
def QW (o:Nat) (k:Nat):Ob→Option Ob
 | .rown t sz els g=>match d0 k o with
  |true=>some (.row t sz els g true)
  |false=>some (.rown t sz els g)
 |x=>some x
theorem iP {N nx ty sz:Nat} {els:List (List D)} {g:Bool} {sl sl':List (Nat×T)} {ob ob':List (Nat×Ob)} (o:Nat) (ho:go ob o=some (.rown ty sz els g):=by exact rfl) (hne:els≠[]) (hs:ya (O0 o) sl=some sl':=by exact rfl) (hb:vC (O0 o) (QW o) ob=some ob':=by exact rfl):cZ N ⟨sl,ob,nx⟩ ⟨sl',ob',nx⟩:=by
 intro cx E a w hR
 have hn:¬E.n o:=by
  rcases hR.obs o _ ho with⟨_,h⟩|⟨h,_⟩
  ·exact absurd h hne
  ·exact h
 have hf:∀c c' u,O0 o c=some c'→cvC E w c u→cvC E w c' u:=by
  intro c c' u h hc
  cases c with
  |wn l n=>
   simp only[O0] at h
   split at h
   ·rename_i hb
    have:=To hb
    subst this
    cases h
    rcases hc with⟨h1,_⟩|⟨_,h2⟩
    ·exact absurd h1 hn
    ·exact h2
   ·cases h;exact hc
  |_=>simp only[O0] at h;cases h;exact hc
 refine⟨E,hR.ok,hR.dom,fun l y hl=>?_,fun k=>wN hf hs (hR.sl k),hR.dfr,hR.size,hR.td⟩
 rcases rh hb hl with⟨t,cs,cs',h1,h2,rfl⟩|⟨x,h1,h2,h3⟩
 ·obtain⟨b,c,arr,k1,k2,k3,k4⟩:=hR.obs l _ h1
  exact⟨b,c,arr,k1,k2,qr hf h2 k3,k4⟩
 ·have hx:=hR.obs l x h1
  cases x with
  |var t cs=>exact absurd rfl (h2 t cs)
  |row t sz els g m=>simp only[QW] at h3;cases h3;exact hx
  |rown t sz els g=>
   simp only[QW] at h3
   split at h3
   ·rename_i hb
    have:=To hb
    subst this
    cases h3
    rcases hx with⟨k1,k2⟩|⟨_,b,c,arr,k1,k2,k3,k4,k5,k6,k7,k8⟩
    ·exact absurd k1 hn
    ·exact⟨b,c,arr,k1,k2,k3,k4,k5,k6,k7,fun _=>k8,fun h=>by cases h⟩
   ·cases h3;exact hx
  |abs j y=>simp only[QW] at h3;cases h3;exact hx
def CA (n:Nat):List (Nat×T)→Bool
 |[]=>true
 |(_,t)::r=>t.lt n&&CA n r
def yM (n:Nat):List (Nat×Ob)→Bool
 |[]=>true
 |(l,x)::r=>(nlt l n&&x.lt n)&&yM n r
theorem KA {n:Nat}:∀{sl:List (Nat×T)} (k:Nat),CA n sl=true→(gt sl k).lt n=true
 |[],k,_=>rfl
 |(j,t)::r,k,h=>by
  simp only[CA,hV] at h
  by_cases hj:j=k
  ·subst hj;rw[dL];exact h.1
  ·rw[cR _ _ hj];exact KA k h.2
theorem ti {n:Nat}:∀{ob:List (Nat×Ob)} {l:Nat} {x:Ob},yM n ob=true→go ob l=some x→l<n∧x.lt n=true
 |(k,y)::r,l,x,h,hl=>by
  simp only[yM,hV] at h
  by_cases hk:k=l
  ·subst hk;rw[cg] at hl;cases hl;exact⟨cK h.1.1,h.1.2⟩
  ·rw[bA _ _ hk] at hl;exact ti h.2 hl
section
variable {E:Env} {w:World} {n:Nat} {p:Nat→Prop} (hp:∀l,l<n→(p l↔E.n l))
include hp
theorem FW {c:C} {u:Value} (hl:c.lt n=true) (h:cvC E w c u):cvC {E with n:=p} w c u:=by
 cases c with
 |wn o m=>
  have:=hp o (cK hl)
  rcases h with⟨h1,h2⟩|⟨h1,h2⟩
  ·exact .inl ⟨this.2 h1,h2⟩
  ·exact .inr ⟨fun k=>h1 (this.1 k),h2⟩
 |_=>exact h
theorem DH:∀{cs:List C} {us:List Value},cs.all (C.lt n)=true→CV E w cs us→CV {E with n:=p} w cs us
 |[],[],_,_=>trivial
 |c::cs,u::us,hl,h=>by
  simp only[TF,hV] at hl
  exact⟨FW hp hl.1 h.1,DH hl.2 h.2⟩
 |[],_::_,_,h=>h.elim
 |_::_,[],_,h=>h.elim
theorem FX {v:V} {u:Value} (hl:v.lt n=true) (h:cvV E w v u):cvV {E with n:=p} w v u:=by
 cases v with
 |c c=>exact FW hp hl h
 |agg cs=>obtain⟨arr,hu,h⟩:=h;exact⟨arr,hu,DH hp hl h⟩
theorem Jh:∀{cs:List V} {us:List Value},cs.all (V.lt n)=true→VV E w cs us→VV {E with n:=p} w cs us
 |[],[],_,_=>trivial
 |c::cs,u::us,hl,h=>by
  simp only[TF,hV] at hl
  exact⟨FX hp hl.1 h.1,Jh hl.2 h.2⟩
 |[],_::_,_,h=>h.elim
 |_::_,[],_,h=>h.elim
theorem MI {t:T} {u:Value} (hl:t.lt n=true) (h:cvT E w t u):cvT {E with n:=p} w t u:=by
 cases t with
 |v v=>exact FX hp hl h
 |tup ts=>obtain⟨arr,hu,h⟩:=h;exact⟨arr,hu,Jh hp hl h⟩
 |any=>trivial
theorem IA {o:Nat} {x:Ob} (ho:o<n) (hl:x.lt n=true) (h:cy E w o x):cy {E with n:=p} w o x:=by
 cases x with
 |var t cs=>obtain⟨b,c,arr,k1,k2,k3,k4⟩:=h;exact⟨b,c,arr,k1,k2,DH hp hl k3,k4⟩
 |row t sz els g m=>exact h
 |rown t sz els g=>
  rcases h with⟨h1,h2⟩|⟨h1,h2⟩
  ·exact .inl ⟨(hp o ho).2 h1,h2⟩
  ·exact .inr ⟨fun k=>h1 ((hp o ho).1 k),h2⟩
 |abs j y=>
  rcases h with⟨h1,h2⟩|⟨h1,h2⟩
  ·exact .inl ⟨(hp o ho).2 h1,h2⟩
  ·exact .inr ⟨fun k=>h1 ((hp o ho).1 k),h2⟩
end
theorem Sy {N nx nx' ty sz:Nat} {g:Bool} {sl:List (Nat×T)} {ob:List (Nat×Ob)} (hs:CA nx sl=true) (hb:yM nx ob=true) (hq:nxt nx=some nx') {cx:Cx} {E:Env} {a:Act} {w:World} (hR:Rel N cx E ⟨sl,ob,nx⟩ a w):
 Rel N cx {E with n:=fun l=>l=nx∨E.n l} ⟨sl,(nx,.rown ty sz [] g)::ob,nx'⟩ a w:=by
 have hp:∀l,l<nx→((l=nx∨E.n l)↔E.n l):=fun l h=>⟨fun k=>k.resolve_left (by omega),.inr⟩
 have hn:nx'=nx+1:=by
  unfold nxt at hq
  cases hr:rsv nx with
  |true=>rw[hr] at hq;cases hq
  |false=>rw[hr] at hq;exact(Option.some.inj hq).symm
 refine⟨hR.ok.setN _,fun o x h=>by have:=hR.dom o x h;simp only at this ⊢;omega,fun l x hl=>?_,fun k=>MI hp (KA k hs) (hR.sl k),hR.dfr,hR.size,fun l b h=>by have:=hR.td l b h;simp only at this ⊢;omega⟩
 by_cases e:nx=l
 ·subst e;rw[cg] at hl;cases hl;exact .inl ⟨.inl rfl,rfl⟩
 ·rw[bA _ _ e] at hl
  obtain⟨h1,h2⟩:=ti hb hl
  exact IA hp h1 h2 (hR.obs l x hl)
def LV:Nat→C→List C→Option (List C)
 |0,x,.nil::cs=>some (x::cs)
 |j+1,x,c::cs=>match LV j x cs with
  |some r=>some (c::r)
  |none=>none
 |_,_,_=>none
theorem EX {E E':Env} {w:World} {x:C} (hx:cvC E' w x (.slice none 0 0)):∀{j:Nat} {cs cs':List C} {us:List Value},LV j x cs=some cs'→CV E w cs us→CV E' w cs us→CV E' w cs' us
 |0,.nil::cs,cs',us,h,h1,h2=>by
  simp[LV] at h;subst h
  cases us with
  |nil=>exact h1.elim
  |cons u us=>have:u= .slice none 0 0:=h1.1;subst this;exact⟨hx,h2.2⟩
 |j+1,c::cs,cs',us,h,h1,h2=>by
  simp only[LV] at h
  split at h
  ·rename_i h3
   simp at h;subst h
   cases us with
   |nil=>exact h1.elim
   |cons u us=>exact⟨h2.1,EX hx h3 h1.2 h2.2⟩
  ·cases h
theorem c7 {N nx nx' o j:Nat} {sl:List (Nat×T)} {ob:List (Nat×Ob)} {vt:TypeId} {cs cs':List C} (ty sz:Nat) (g:Bool) (ho:go ob o=some (.var vt cs):=by exact rfl) (hj:LV j (.wn nx 0) cs=some cs':=by exact rfl) (hs:CA nx sl=true:=by exact rfl) (hb:yM nx ob=true:=by exact rfl) (hq:nxt nx=some nx':=by exact rfl):
 cZ N ⟨sl,ob,nx⟩ ⟨sl,(o,.var vt cs')::(nx,.rown ty sz [] g)::ob,nx'⟩:=by
 intro cx E a w hR
 have h:=Sy (ty:=ty) (sz:=sz) (g:=g) hs hb hq hR
 refine⟨_,h.ok,h.dom,fun l x hl=>?_,h.sl,h.dfr,h.size,h.td⟩
 by_cases e:o=l
 ·subst e
  rw[cg] at hl;cases hl
  have hne:nx≠o:=fun e=>by have:=(ti hb ho).1;omega
  have h2:=h.obs o (.var vt cs) (by rw[bA _ _ hne];exact ho)
  obtain⟨b,c,arr,k1,k2,k3,k4⟩:=hR.obs o _ ho
  obtain⟨b',c',arr',m1,m2,m3,m4⟩:=h2
  have k1':E.r o=some (b',c'):=m1
  rw[k1] at k1';cases k1'
  rw[k2] at m2;cases m2
  exact⟨b,c,arr,k1,k2,EX (x:=.wn nx 0) (Or.inl ⟨Or.inl rfl,rfl,rfl⟩) hj k3 m3,k4⟩
 ·rw[bA _ _ e] at hl;exact h.obs l x hl
section
variable {P:Program} {N:Nat} {d:Tmp} {ty:TypeId} {ps:String} {af:Array Edge} {gd:Option (Nat×Bool)} {x y z:Operand} {sl:List (Nat×T)} {ob:List (Nat×Ob)} {nx:Nat}
theorem NJ {d:Option Tmp} {t:TypeId} {o n e sz by_:Nat} [ht:TySl P t e sz by_]:AWN P ⟨d,.call ⟨.builtin .len,#[x],#[t]⟩,ty,ps,af,gd⟩ [(x,.v (.c (.wn o n)))] [] (tI n) []:=
 b7 fun E ac w hn _=>by
  rcases hn x _ (.head _) with⟨_,h0,hu⟩|⟨_,b,c,hr,hu⟩
  ·subst h0;exact⟨_,by simp[execOp,resolve,invoke,builtin,hu,Builtin.len_,underlying,ht.u,goInt];rfl,by simp[cvT,cvV,cvC,rdD]⟩
  ·exact⟨_,by simp[execOp,resolve,invoke,builtin,hu,Builtin.len_,underlying,ht.u,goInt];rfl,by simp[cvT,cvV,cvC,rdD]⟩
theorem lwn {t:TypeId} {o n e sz by_:Nat} [TySl P t e sz by_] (hx:opT sl x= .v (.c (.wn o n))) (hN:nlt d N=true):NS0 P N ⟨some d,.call ⟨.builtin .len,#[x],#[t]⟩,ty,ps,af,gd⟩ sl ob nx d (tI n) ⟨d,[(x,.v (.c (.wn o n)))],[],tI n,[]⟩:=db (st:=⟨sl,ob,nx⟩) NJ rfl hN ⟨hx,trivial⟩ trivial rfl
theorem GM {st:St} {t:TypeId} {e sz by_ o n:Nat} {els ys:List (List D)} {g gy:Bool} {c:C} {sl':List (Nat×T)} {ob':List (Nat×Ob)} [ht:TySl P t e sz by_] (hrv:rsp o=false) (hnv:rsv st.nx=false) (hd:d<N)
 (hx:opT st.sl x= .v (.c (.wn o n))) (hy:opT st.sl y= .v (.c c)) (ho:go st.ob o=some (.rown e sz els g)) (hs:Src st.ob c ys gy) (hk:mn o st.sl=some sl') (hkb:kj o st.ob=some ob')
 (hn:els.length=n) (hne:ys≠[]) (hol:o<st.nx) (hsz:∀e∈ys,e.length=sz) (hb:(n+ys.length)*by_≤140737488355328) (h63:n+ys.length≤9223372036854775807):
 AWO P N ⟨some d,.call ⟨.builtin .append,#[x,y],#[t,t]⟩,ty,ps,af,gd⟩ st ⟨(d,.v (.c (.w o (n+ys.length))))::sl',(o,.row e sz (els++ys) (g&&gy) true)::ob',st.nx⟩:=by
 intro cx E a w hR
 have h1:=hR.op x;rw[hx] at h1
 have h2:=hR.op y;rw[hy] at h2
 have h3:=hR.obs o _ ho
 rcases h1 with⟨hE,h0,hu⟩|⟨hE,b,cc,hr,hu⟩
 ·subst h0
  have hels:els=[]:=Ui hn
  subst hels
  have hq1:E.r st.nx=none:=by
   cases hq:E.r st.nx with
   |none=>rfl
   |some p=>have:=hR.dom _ _ hq;omega
  have hoq:o≠st.nx:=by omega
  refine Oper.wp_mono ?_ (rS (P:=P) (d:=d) (ty:=ty) (ps:=ps) (af:=af) (gd:=gd) (t:=t) (q:=st.nx) hs hne hsz (by simpa using hb) (by omega) hR.ok hR.obs hq1 hnv hu h2)
  rintro a' w' ⟨v,E1,rfl,ok1,ext,hv,hob1,hdom⟩
  obtain⟨bn,cap,hrq,hvu⟩:=hv
  obtain⟨bn',cap',arr,hrq',hhn,j3,j4,j5,j6,j7,j8,_⟩:=hob1 _ _ (.head _)
  rw[hrq] at hrq';cases hrq'
  have hrE:∀l p,E1.r l=some p→l=st.nx∨E.r l=some p:=fun l p h=>by
   rcases hdom l p h with h|⟨ob,h⟩
   ·exact .inr h
   ·simp at h;exact .inl h.1
  let E2:Env:={E1 with r:=fun l=>if l=o then some (bn,cap) else if l=st.nx then none else E1.r l,n:=fun l=>l≠o∧E.n l}
  have hr2:∀l b c,E2.r l=some (b,c)→(l=o∧b=bn∧c=cap)∨(l≠o∧l≠st.nx∧E1.r l=some (b,c)):=by
   intro l b c h
   have h:(if l=o then some (bn,cap) else if l=st.nx then none else E1.r l)=some (b,c):=h
   split at h
   ·cases h;exact .inl ⟨by assumption,rfl,rfl⟩
   ·split at h
    ·cases h
    ·exact .inr ⟨by assumption,by assumption,h⟩
  have hback:∀l b c,E2.r l=some (b,c)→∃l',E1.r l'=some (b,c):=by
   intro l b c h
   rcases hr2 l b c h with⟨_,rfl,rfl⟩|⟨_,_,h⟩
   ·exact⟨st.nx,hrq⟩
   ·exact⟨l,h⟩
  have ok2:cQ cx E2 w':=by
   refine⟨ok1.fb,ok1.gf,ok1.gn,fun l b c h=>?_,fun l l' b c c' h h'=>?_,ok1.os,ok1.tape,ok1.output,ok1.size,ok1.block,fun l p hv h=>?_,ok1.ff,ok1.gc,⟨fun l b h=>?_,ok1.sf.tt,fun b h=>?_,ok1.sf.zs,ok1.sf.ze⟩⟩
   ·rcases hr2 l b c h with⟨_,rfl,rfl⟩|⟨_,_,h⟩
    ·obtain⟨k1,k2⟩:=ok1.rb _ _ _ hrq
     exact⟨k1,.inl (k2.resolve_right (fun k=>by rw[hnv] at k;cases k.2))⟩
    ·exact ok1.rb l b c h
   ·rcases hr2 l b c h with⟨rfl,rfl,rfl⟩|⟨k1,k2,k3⟩<;>rcases hr2 l' _ c' h' with⟨rfl,e1,e2⟩|⟨m1,m2,m3⟩
    ·rfl
    ·exact absurd (ok1.inj _ _ _ _ _ m3 hrq) m2
    ·subst e1;exact absurd (ok1.inj _ _ _ _ _ k3 hrq) k2
    ·exact ok1.inj _ _ _ _ _ k3 m3
   ·obtain⟨b,c⟩:=p
    rcases hr2 l b c h with⟨rfl,_⟩|⟨_,_,h⟩
    ·rw[hrv] at hv;cases hv
    ·exact ok1.pin l _ hv h
   ·obtain⟨k1,k2,k3,k4⟩:=ok1.sf.tb l b h
    exact⟨k1,k2,fun l' c hl=>(hback l' b c hl).elim fun l'' h''=>k3 l'' c h'',k4⟩
   ·obtain⟨k1,k2,k3,k4⟩:=ok1.sf.zc b h
    exact⟨k1,k2,fun l' c hl=>(hback l' b c hl).elim fun l'' h''=>k3 l'' c h'',k4⟩
  have kp:=iq.of_ext hR.ok ext
  have kb:ku o E w E2 w':=⟨fun l p hl h=>by
   show(if l=o then some (bn,cap) else if l=st.nx then none else E1.r l)=some p
   rw[if_neg hl,if_neg (fun e=>by subst e;rw[hq1] at h;cases h)]
   exact kp.r _ _ h,kp.H,kp.heap,kp.T,kp.Z,fun l hl=>⟨fun h=>h.2,fun h=>⟨hl,h⟩⟩⟩
  have hFb:∀b,b<w.heap.size→¬E.F b→¬E2.F b:=fun b hb hn h=>(ext.F' b h).elim hn (by omega)
  refine⟨E2,ok2,fun l p h=>?_,fun l ob hl=>?_,fun k=>?_,hR.dfr,by simpa [Act.put] using hR.size,fun l b h=>hR.td l b (by rw[←ext.T];exact h)⟩
  ·obtain⟨b,c⟩:=p
   rcases hr2 l b c h with⟨rfl,_⟩|⟨_,k2,h⟩
   ·exact hol
   ·rcases hrE _ _ h with h|h
    ·exact absurd h k2
    ·exact hR.dom _ _ h
  ·by_cases hlo:o=l
   ·subst hlo
    rw[cg] at hl;cases hl
    refine⟨bn,cap,arr,by show(if o=o then _ else _)=_;rw[if_pos rfl],hhn,j3,by simpa using j4,j5,by simpa using j6,?_,fun _=>j8 rfl,fun h=>by cases h⟩
    simp only[UZ]
    exact cm (fun _ _=>rfl) (fun b hb=>by cases g<;>cases gy<;>first|exact hb|exact ok1.gf b hb) rfl _ _ j7
   ·rw[bA _ _ hlo] at hl
    rcases qp hkb hl with⟨t',cs,cs',k1,k2,rfl⟩|⟨t',sz',els',g',m',k1,rfl⟩|⟨t',sz',els',g',k1,rfl⟩|⟨j',y',k1,rfl⟩
    ·obtain⟨bl,cl,arrl,l1,l2,l3,l4⟩:=hR.obs l _ k1
     have hbl:=(hR.ok.rb _ _ _ l1).1
     exact⟨bl,cl,arrl,kb.r _ _ (Ne.symm hlo) l1,(ext.heap bl hbl).trans l2,uk kb k2 l3,hFb bl hbl l4⟩
    ·obtain⟨bl,cl,arrl,l1,l2,l3,l4,l5,l6,l7,l8,l9⟩:=hR.obs l _ k1
     have hbl:=(hR.ok.rb _ _ _ l1).1
     have hb2:=ext.heap bl hbl
     exact⟨bl,cl,arrl,kb.r _ _ (Ne.symm hlo) l1,hb2.trans l2,l3,l4,l5,l6,cm (kb.heap _) (kb.H _) hb2 _ _ l7,fun hm=>hFb bl hbl (l8 hm),fun hm=>⟨kb.H false _ (l9 hm).1,fun hg=>kb.H true _ ((l9 hm).2 hg)⟩⟩
    ·rcases hR.obs l _ k1 with⟨m1,m2⟩|⟨l0,bl,cl,arrl,l1,l2,l3,l4,l5,l6,l7,l8⟩
     ·exact .inl ⟨⟨Ne.symm hlo,m1⟩,m2⟩
     ·have hbl:=(hR.ok.rb _ _ _ l1).1
      have hb2:=ext.heap bl hbl
      exact .inr ⟨fun h=>l0 h.2,bl,cl,arrl,kb.r _ _ (Ne.symm hlo) l1,hb2.trans l2,l3,l4,l5,l6,cm (kb.heap _) (kb.H _) hb2 _ _ l7,hFb bl hbl l8⟩
    ·rcases hR.obs l _ k1 with⟨m1,m2⟩|⟨l0,bl,cl,l1,l2,l3⟩
     ·exact .inl ⟨⟨Ne.symm hlo,m1⟩,m2⟩
     ·have hbl:=(hR.ok.rb _ _ _ l1).1
      have hb2:=ext.heap bl hbl
      exact .inr ⟨fun h=>l0 h.2,bl,cl,kb.r _ _ (Ne.symm hlo) l1,y'.st _ _ _ _ _ _ l2 (fun k hk=>(kb.T _ k hk).1) hb2 (fun k hk=>(kb.T _ k hk).2),hFb bl hbl l3⟩
  ·rw[fO (by rw[hR.size];exact hd)]
   by_cases hdk:d=k
   ·subst hdk;rw[dL,if_pos rfl];exact⟨bn,cap,by show(if o=o then _ else _)=_;rw[if_pos rfl],by simpa using hvu⟩
   ·rw[cR _ _ hdk,if_neg hdk]
    rcases tf hk k with h|⟨h,h'⟩
    ·rw[h];trivial
    ·rw[h];exact D4 kb h' (hR.sl k)
 ·rcases h3 with⟨hE',_⟩|⟨_,b',c',arr,hr',hh,ha,hlc,hmx,hes,hrd,hF⟩
  ·exact absurd hE' hE
  ·rw[hr] at hr';cases hr'
   exact yD hR hrv hd hr hu hh ha hlc hmx hes hrd hF hy hs hk hkb hn hsz hb h63
variable {α:Type} {enc:α→List D}
theorem xL {t:TypeId} {e sz by_ o n:Nat} {ys zs:List α} {zd:List (List D)} {g gy gg:Bool} {c:C} {sl':List (Nat×T)} {ob':List (Nat×Ob)} [TySl P t e sz by_] (H:cM by_ (ys++zs).length=true) (hne:zs≠[]) (hzd:zs.map enc=zd) (henc:∀a,(enc a).length=sz) (hn:ys.length=n) (hs:Src ob c zd gy) (hd:nlt d N=true)
 (hx:opT sl x= .v (.c (.wn o n))) (hy:opT sl y= .v (.c c)) (ho:go ob o=some (.rown e sz (ys.map enc) g)) (hk:mn o sl=some sl') (hkb:kj o ob=some ob') (hg:(g&&gy)=gg) (hrv:rsp o=false) (hnv:rsv nx=false) (hol:nlt o nx=true):
 AWO P N ⟨some d,.call ⟨.builtin .append,#[x,y],#[t,t]⟩,ty,ps,af,gd⟩ ⟨sl,ob,nx⟩ ⟨(d,.v (.c (.w o (ys++zs).length)))::sl',(o,.row e sz ((ys++zs).map enc) gg true)::ob',nx⟩:=by
 subst hzd;subst hg
 simp only[cM,decide_eq_true_eq,Ut] at H
 have:=GM (st:=⟨sl,ob,nx⟩) (P:=P) (N:=N) (d:=d) (ty:=ty) (ps:=ps) (af:=af) (gd:=gd) (t:=t) (e:=e) (sz:=sz) (by_:=by_) hrv hnv (cK hd) hx hy ho hs hk hkb (by simpa using hn) (by simpa using hne) (cK hol) (Gz henc zs) (by subst hn;simp only[Us];exact H.1) (by subst hn;simp only[Us];omega)
 rw[←UK,Us,←hn,←Ut] at this
 exact this
end
end Go.AM
namespace Go.AM
open Go.RowKit
def A5 (p q:Nat):C→Option C
 | .w l n=>match d0 l p,d0 l q with
  |true,_=>some .any
  |false,true=>some (.w p n)
  |false,false=>some (.w l n)
 | .wn l n=>match d0 l p,d0 l q with
  |true,_=>some .any
  |false,true=>some (.wn p n)
  |false,false=>some (.wn l n)
 | .s l a b c=>match d0 l p,d0 l q with
  |true,_=>some .any
  |false,true=>some (.s p a b c)
  |false,false=>some (.s l a b c)
 | .p l k=>match d0 l p,d0 l q with
  |true,_=>some .any
  |false,true=>some (.p p k)
  |false,false=>some (.p l k)
 | .e l a b c=>match d0 l p,d0 l q with
  |true,_=>some .any
  |false,true=>some (.e p a b c)
  |false,false=>some (.e l a b c)
 |c=>some c
def zj (p q:Nat):List (Nat×Ob)→Option (List (Nat×Ob))
 |[]=>some []
 |(k,.var t cs)::r=>match d0 k p,d0 k q,mq (A5 p q) cs,zj p q r with
  |true,_,_,some r'=>some r'
  |false,true,some cs',some r'=>some ((p,.var t cs')::r')
  |false,false,some cs',some r'=>some ((k,.var t cs')::r')
  |_,_,_,_=>none
 |(k,.row t sz els g m)::r=>match d0 k p,d0 k q,zj p q r with
  |true,_,some r'=>some r'
  |false,true,some r'=>some ((p,.row t sz els g m)::r')
  |false,false,some r'=>some ((k,.row t sz els g m)::r')
  |_,_,_=>none
 |(k,.rown t sz els g)::r=>match d0 k p,d0 k q,zj p q r with
  |true,_,some r'=>some r'
  |false,true,some r'=>some ((p,.rown t sz els g)::r')
  |false,false,some r'=>some ((k,.rown t sz els g)::r')
  |_,_,_=>none
 |(k,.abs j y)::r=>match d0 k p,d0 k q,zj p q r with
  |true,_,some r'=>some r'
  |false,true,some r'=>some ((p,.abs j y)::r')
  |false,false,some r'=>some ((k,.abs j y)::r')
  |_,_,_=>none
def Env.ren (E:Env) (p q:Nat):Env:={E with r:=fun l=>if l=p then E.r q else if l=q then none else E.r l,n:=fun l=>if l=p then E.n q else E.n l}
def G3 (p q l:Nat):Nat:=if l=q then p else l
def yh (p q:Nat):Ob→Ob→Prop
 | .var t cs,y=>∃cs',mq (A5 p q) cs=some cs'∧y= .var t cs'
 |x,y=>y=x
theorem EH {p q:Nat} (hpq:p≠q) {l:Nat} {y:Ob}:∀{ob ob':List (Nat×Ob)},zj p q ob=some ob'→go ob' l=some y→∃l0 x,l0≠p∧l=G3 p q l0∧go ob l0=some x∧yh p q x y
 |[],ob',h,hy=>by simp[zj] at h;subst h;cases hy
 |(k,x)::r,ob',h,hy=>by
  have key:∀(x':Ob) (r':List (Nat×Ob)),yh p q x x'→zj p q r=some r'→(d0 k p=true∧ob'=r')∨(d0 k p=false∧d0 k q=true∧ob'=(p,x')::r')∨(d0 k p=false∧d0 k q=false∧ob'=(k,x')::r')→
   ∃l0 x0,l0≠p∧l=G3 p q l0∧go ((k,x)::r) l0=some x0∧yh p q x0 y:=by
   intro x' r' hx hr hc
   have hrec:go r' l=some y→∃l0 x0,l0≠p∧l=G3 p q l0∧go r l0=some x0∧yh p q x0 y:=fun h=>EH hpq hr h
   rcases hc with⟨h1,rfl⟩|⟨h1,h2,rfl⟩|⟨h1,h2,rfl⟩
   ·obtain⟨l0,x0,a1,a2,a3,a4⟩:=hrec hy
    have:=To h1
    subst this
    exact⟨l0,x0,a1,a2,by rw[bA _ _ (Ne.symm a1)];exact a3,a4⟩
   ·have:=To h2
    subst this
    by_cases e:p=l
    ·subst e
     rw[cg] at hy;cases hy
     exact⟨k,x,gq h1,by simp[G3],cg _ _ _,hx⟩
    ·rw[bA _ _ e] at hy
     obtain⟨l0,x0,a1,a2,a3,a4⟩:=hrec hy
     have hl0:k≠l0:=fun e'=>e (by rw[a2,←e'];simp[G3])
     exact⟨l0,x0,a1,a2,by rw[bA _ _ hl0];exact a3,a4⟩
   ·have hkp:=gq h1
    have hkq:=gq h2
    by_cases e:k=l
    ·subst e
     rw[cg] at hy;cases hy
     exact⟨k,x,hkp,by simp[G3,hkq],cg _ _ _,hx⟩
    ·rw[bA _ _ e] at hy
     obtain⟨l0,x0,a1,a2,a3,a4⟩:=hrec hy
     have hl0:k≠l0:=fun e'=>e (by rw[a2,←e'];simp[G3,hkq])
     exact⟨l0,x0,a1,a2,by rw[bA _ _ hl0];exact a3,a4⟩
  cases x with
  |var t cs=>
   simp only[zj] at h
   split at h
   ·rename_i h1 h2
    cases h
    cases hm:mq (A5 p q) cs with
    |some cs'=>exact key (.var t cs') _ ⟨cs',hm,rfl⟩ h2 (.inl ⟨h1,rfl⟩)
    |none=>
     obtain⟨l0,x0,a1,a2,a3,a4⟩:=EH hpq h2 hy
     have:=To h1
     subst this
     exact⟨l0,x0,a1,a2,by rw[bA _ _ (Ne.symm a1)];exact a3,a4⟩
   ·rename_i h1 h2 h3 h4;cases h;exact key _ _ ⟨_,h3,rfl⟩ h4 (.inr (.inl ⟨h1,h2,rfl⟩))
   ·rename_i h1 h2 h3 h4;cases h;exact key _ _ ⟨_,h3,rfl⟩ h4 (.inr (.inr ⟨h1,h2,rfl⟩))
   ·cases h
  |row t sz els g m=>
   simp only[zj] at h
   split at h
   ·rename_i h1 h2;cases h;exact key _ _ (show yh p q (.row t sz els g m) (.row t sz els g m) from rfl) h2 (.inl ⟨h1,rfl⟩)
   ·rename_i h1 h2 h3;cases h;exact key _ _ (show yh p q (.row t sz els g m) (.row t sz els g m) from rfl) h3 (.inr (.inl ⟨h1,h2,rfl⟩))
   ·rename_i h1 h2 h3;cases h;exact key _ _ (show yh p q (.row t sz els g m) (.row t sz els g m) from rfl) h3 (.inr (.inr ⟨h1,h2,rfl⟩))
   ·cases h
  |rown t sz els g=>
   simp only[zj] at h
   split at h
   ·rename_i h1 h2;cases h;exact key _ _ (show yh p q (.rown t sz els g) (.rown t sz els g) from rfl) h2 (.inl ⟨h1,rfl⟩)
   ·rename_i h1 h2 h3;cases h;exact key _ _ (show yh p q (.rown t sz els g) (.rown t sz els g) from rfl) h3 (.inr (.inl ⟨h1,h2,rfl⟩))
   ·rename_i h1 h2 h3;cases h;exact key _ _ (show yh p q (.rown t sz els g) (.rown t sz els g) from rfl) h3 (.inr (.inr ⟨h1,h2,rfl⟩))
   ·cases h
  |abs j z=>
   simp only[zj] at h
   split at h
   ·rename_i h1 h2;cases h;exact key _ _ (show yh p q (.abs j z) (.abs j z) from rfl) h2 (.inl ⟨h1,rfl⟩)
   ·rename_i h1 h2 h3;cases h;exact key _ _ (show yh p q (.abs j z) (.abs j z) from rfl) h3 (.inr (.inl ⟨h1,h2,rfl⟩))
   ·rename_i h1 h2 h3;cases h;exact key _ _ (show yh p q (.abs j z) (.abs j z) from rfl) h3 (.inr (.inr ⟨h1,h2,rfl⟩))
   ·cases h
theorem Pd {N nx:Nat} {sl sl':List (Nat×T)} {ob ob':List (Nat×Ob)} (p q:Nat) (hp:rsp p=false:=by exact rfl) (hq:rsv q=false:=by exact rfl) (hpq:d0 p q=false:=by exact rfl) (hpn:nlt p nx=true:=by exact rfl) (hs:ya (A5 p q) sl=some sl':=by exact rfl) (hb:zj p q ob=some ob':=by exact rfl):cZ N ⟨sl,ob,nx⟩ ⟨sl',ob',nx⟩:=by
 have hne:=gq hpq
 intro cx E a w hR
 have hrp:(E.ren p q).r p=E.r q:=by simp[Env.ren]
 have hrl:∀l,l≠p→l≠q→(E.ren p q).r l=E.r l:=fun l h1 h2=>by simp[Env.ren,h1,h2]
 have hnp:(E.ren p q).n p=E.n q:=by simp[Env.ren]
 have hnl:∀l,l≠p→(E.ren p q).n l=E.n l:=fun l h1=>by simp[Env.ren,h1]
 have hr2:∀l b c,(E.ren p q).r l=some (b,c)→(l=p∧E.r q=some (b,c))∨(l≠p∧l≠q∧E.r l=some (b,c)):=by
  intro l b c h
  simp only[Env.ren] at h
  split at h
  ·exact .inl ⟨by assumption,h⟩
  ·split at h
   ·cases h
   ·exact .inr ⟨by assumption,by assumption,h⟩
 have hf:∀c c' u,A5 p q c=some c'→cvC E w c u→cvC (E.ren p q) w c' u:=by
  intro c c' u h hc
  cases c with
  |w l n=>
   simp only[A5] at h
   split at h
   ·cases h;trivial
   ·rename_i h1 h2;cases h;have:=To h2;subst this;obtain⟨b,k,h3,h4⟩:=hc;exact⟨b,k,hrp.trans h3,h4⟩
   ·rename_i h1 h2;cases h;obtain⟨b,k,h3,h4⟩:=hc;exact⟨b,k,(hrl _ (gq h1) (gq h2)).trans h3,h4⟩
  |wn l n=>
   simp only[A5] at h
   split at h
   ·cases h;trivial
   ·rename_i h1 h2;cases h;have:=To h2;subst this
    rcases hc with⟨h3,h4⟩|⟨h3,b,k,h5,h6⟩
    ·exact .inl ⟨by rw[hnp];exact h3,h4⟩
    ·exact .inr ⟨by rw[hnp];exact h3,b,k,hrp.trans h5,h6⟩
   ·rename_i h1 h2;cases h
    rcases hc with⟨h3,h4⟩|⟨h3,b,k,h5,h6⟩
    ·exact .inl ⟨by rw[hnl _ (gq h1)];exact h3,h4⟩
    ·exact .inr ⟨by rw[hnl _ (gq h1)];exact h3,b,k,(hrl _ (gq h1) (gq h2)).trans h5,h6⟩
  |s l a1 a2 a3=>
   simp only[A5] at h
   split at h
   ·cases h;trivial
   ·rename_i h1 h2;cases h;have:=To h2;subst this;obtain⟨A,c,b,k,h3,h4⟩:=hc;exact⟨A,c,b,k,hrp.trans h3,h4⟩
   ·rename_i h1 h2;cases h;obtain⟨A,c,b,k,h3,h4⟩:=hc;exact⟨A,c,b,k,(hrl _ (gq h1) (gq h2)).trans h3,h4⟩
  |p l n=>
   simp only[A5] at h
   split at h
   ·cases h;trivial
   ·rename_i h1 h2;cases h;have:=To h2;subst this;obtain⟨b,k,h3,h4⟩:=hc;exact⟨b,k,hrp.trans h3,h4⟩
   ·rename_i h1 h2;cases h;obtain⟨b,k,h3,h4⟩:=hc;exact⟨b,k,(hrl _ (gq h1) (gq h2)).trans h3,h4⟩
  |e l a1 a2 a3=>
   simp only[A5] at h
   split at h
   ·cases h;trivial
   ·rename_i h1 h2;cases h;have:=To h2;subst this;obtain⟨b,k,h3,h4⟩:=hc;exact⟨b,k,hrp.trans h3,h4⟩
   ·rename_i h1 h2;cases h;obtain⟨b,k,h3,h4⟩:=hc;exact⟨b,k,(hrl _ (gq h1) (gq h2)).trans h3,h4⟩
  |_=>simp only[A5] at h;cases h;exact hc
 have ok:=hR.ok
 have hback:∀l b c,(E.ren p q).r l=some (b,c)→∃l',E.r l'=some (b,c):=fun l b c h=>(hr2 l b c h).elim (fun h=>⟨q,h.2⟩) (fun h=>⟨l,h.2.2⟩)
 refine⟨E.ren p q,⟨ok.fb,ok.gf,ok.gn,fun l b c h=>?_,fun l l' b c c' h h'=>?_,ok.os,ok.tape,ok.output,ok.size,ok.block,fun l x hv h=>?_,ok.ff,ok.gc,⟨fun l b h=>?_,ok.sf.tt,fun b h=>?_,ok.sf.zs,ok.sf.ze⟩⟩,fun l x h=>?_,fun l y hl=>?_,fun k=>wN hf hs (hR.sl k),hR.dfr,hR.size,hR.td⟩
 ·rcases hr2 l b c h with⟨_,h⟩|⟨_,_,h⟩
  ·obtain⟨k1,k2⟩:=ok.rb _ _ _ h
   exact⟨k1,.inl (k2.resolve_right (fun k=>by rw[hq] at k;cases k.2))⟩
  ·exact ok.rb l b c h
 ·rcases hr2 l b c h with⟨rfl,k3⟩|⟨k1,k2,k3⟩<;>rcases hr2 l' b c' h' with⟨e,m3⟩|⟨m1,m2,m3⟩
  ·exact e.symm
  ·exact absurd (ok.inj _ _ _ _ _ m3 k3) m2
  ·exact absurd (ok.inj _ _ _ _ _ k3 m3) k2
  ·exact ok.inj _ _ _ _ _ k3 m3
 ·obtain⟨b,c⟩:=x
  rcases hr2 l b c h with⟨rfl,_⟩|⟨_,_,h⟩
  ·rw[hp] at hv;cases hv
  ·exact ok.pin l _ hv h
 ·obtain⟨k1,k2,k3,k4⟩:=ok.sf.tb l b h
  exact⟨k1,k2,fun l' c hl=>(hback l' b c hl).elim fun l'' h''=>k3 l'' c h'',k4⟩
 ·obtain⟨k1,k2,k3,k4⟩:=ok.sf.zc b h
  exact⟨k1,k2,fun l' c hl=>(hback l' b c hl).elim fun l'' h''=>k3 l'' c h'',k4⟩
 ·obtain⟨b,c⟩:=x
  rcases hr2 l b c h with⟨rfl,_⟩|⟨_,_,h⟩
  ·exact cK hpn
  ·exact hR.dom l _ h
 ·obtain⟨l0,x,a1,a2,a3,a4⟩:=EH hne hb hl
  have hx:=hR.obs l0 x a3
  have hlab:(E.ren p q).r l=E.r l0∧(E.ren p q).n l=E.n l0:=by
   subst a2
   unfold G3
   split
   ·rename_i e;subst e;exact⟨hrp,hnp⟩
   ·rename_i e;exact⟨hrl _ a1 e,hnl _ a1⟩
  cases x with
  |var t cs=>
   obtain⟨cs',h1,rfl⟩:=a4
   obtain⟨b,c,arr,k1,k2,k3,k4⟩:=hx
   exact⟨b,c,arr,hlab.1.trans k1,k2,qr hf h1 k3,k4⟩
  |row t sz els g m=>
   have a4:y= .row t sz els g m:=a4
   subst a4
   obtain⟨b,c,arr,k1,k2⟩:=hx
   exact⟨b,c,arr,hlab.1.trans k1,k2⟩
  |rown t sz els g=>
   have a4:y= .rown t sz els g:=a4
   subst a4
   rcases hx with⟨h1,h2⟩|⟨h1,b,c,arr,k1,k2⟩
   ·exact .inl ⟨by rw[hlab.2];exact h1,h2⟩
   ·exact .inr ⟨by rw[hlab.2];exact h1,b,c,arr,hlab.1.trans k1,k2⟩
  |abs j z=>
   have a4:y= .abs j z:=a4
   subst a4
   rcases hx with⟨h1,h2⟩|⟨h1,b,c,k1,k2⟩
   ·exact .inl ⟨by rw[hlab.2];exact h1,h2⟩
   ·exact .inr ⟨by rw[hlab.2];exact h1,b,c,hlab.1.trans k1,k2⟩
structure VIn (E:Env) (w:World):Prop where
 fb:∀b,E.F b→b<w.heap.size
 gf:∀b,E.G b→E.F b
 rb:∀o b c,E.r o=some (b,c)→b<w.heap.size∧rsv o=true∧¬E.F b
 inj:∀o o' b c c',E.r o=some (b,c)→E.r o'=some (b,c')→o=o'
 T:∀l b,¬E.T l b
 Z:∀b,¬E.Z b
structure VOut (E:Env) (w:World) (E':Env) (w':World):Prop where
 past:DN w w' (fun k=>∃o c,E.r o=some (k,c))
 fb:∀b,E'.F b→b<w'.heap.size
 f0:∀b,E'.F b→E.F b∨(w.heap.size≤b∧gA w' b)
 F:∀b,E.F b→E'.F b
 G:∀b,E.G b→E'.G b
 gf:∀b,E'.G b→E'.F b
 g0:∀b,E'.G b→w.heap.size≤b∨E.G b
 rb:∀o b c,E'.r o=some (b,c)→b<w'.heap.size∧(w.heap.size≤b∨((∃o' c',E.r o'=some (b,c'))∧rsv o=true))
 inj:∀o o' b c c',E'.r o=some (b,c)→E'.r o'=some (b,c')→o=o'
 pin:∀o x,rsp o=true→E'.r o=some x→E.r o=some x
structure FnV (P:Program) (f:FuncId) (xs:List (Nat×Ob)) (args:List T) (ys:List (Nat×Ob)) (out:T) (nw:List (Nat×Ob)):Prop where
 enters:∀(vs:Array Value) (w:World),(callFunc f vs).run P w= .ok (.enter f vs) w
 calls:∀(E:Env) (w:World) (vals:Array Value),VIn E w→TabsIn w→(∀k∈rC,∀o c,E.r o≠some (k,c))→(∀l x,go xs l=some x→cy E w l x)→TV E w args vals.toList→
  Calls P f vals w fun e w'=>∃v E',e= .returned v∧VOut E w E' w'∧cvT E' w' out v∧(∀l y,go ys l=some y→cy E' w' l y)∧(∀l y,go nw l=some y→cy E' w' l y)
def N4:List V→T
 |[v]=>.v v
 |vs=>.tup vs
def LoA (ob:List (Nat×Ob)):List (Nat×Ob)→Prop
 |[]=>True
 |(l,x)::r=>go ob l=some x∧LoA ob r
theorem DM {ob:List (Nat×Ob)}:∀{l:List (Nat×Ob)} {k:Nat} {x:Ob},LoA ob l→go l k=some x→go ob k=some x
 |(j,y)::r,k,x,h,hg=>by
  by_cases e:j=k
  ·subst e;rw[cg] at hg;cases hg;exact h.1
  ·rw[bA _ _ e] at hg;exact DM h.2 hg
def sE (N:Nat) (P:Program) (rs:List ResultVar) (ys:List (Nat×Ob)) (out:T) (nw:List (Nat×Ob)):Exit→St→Prop
 | .ret,s| .normal,s=>∃s' vs,cZ N s s'∧mU P s' rs vs∧N4 vs=out∧LoA s'.ob ys∧LoA s'.ob nw
 |_,_=>False
instance {N:Nat} {P:Program} {rs:List ResultVar} {ys:List (Nat×Ob)} {out:T} {nw:List (Nat×Ob)}:Clo N (sE N P rs ys out nw):=⟨fun e s m hw h=>by
 cases e<;>simp only[sE] at h ⊢<;>first|exact h|(obtain⟨s',vs,h1,h2⟩:=h;exact⟨s',vs,an hw h1,h2⟩)⟩
theorem cG {N:Nat} {P:Program} {rs:List ResultVar} {res:List RV} {e:Exit} {s m:St} (hw:cZ N s m) (h:DO N P rs res e m):DO N P rs res e s:=Clo.h (N:=N) _ _ _ hw h
theorem bV {N:Nat} {P:Program} {rs:List ResultVar} {ys:List (Nat×Ob)} {out:T} {nw:List (Nat×Ob)} {e:Exit} {s m:St} (hw:cZ N s m) (h:sE N P rs ys out nw e m):sE N P rs ys out nw e s:=Clo.h (N:=N) _ _ _ hw h
theorem bU {N:Nat} {P:Program} {s:St} {rs:List ResultVar} {ys:List (Nat×Ob)} {out out':T} {nw:List (Nat×Ob)} {vs:List V} (h:mU P s rs vs:=by repeat' (first|exact .nil|apply mU.cons|exact .tmp rfl|exact .cell rfl rfl rfl|exact .cell1 rfl rfl)) (ho:N4 vs=out':=by exact rfl) (e:out'=out:=by first|rfl|simp) (hy:LoA s.ob ys:=by repeat (first|exact trivial|refine⟨rfl,?_⟩)) (hn:LoA s.ob nw:=by repeat (first|exact trivial|refine⟨rfl,?_⟩)):sE N P rs ys out nw .ret s:=by
 subst e;exact⟨s,vs,uF s,h,ho,hy,hn⟩
theorem sW {N:Nat} {P:Program} {s:St} {rs:List ResultVar} {ys:List (Nat×Ob)} {out out':T} {nw:List (Nat×Ob)} {vs:List V} (h:mU P s rs vs:=by repeat' (first|exact .nil|apply mU.cons|exact .tmp rfl|exact .cell rfl rfl rfl|exact .cell1 rfl rfl)) (ho:N4 vs=out':=by exact rfl) (e:out'=out:=by first|rfl|simp) (hy:LoA s.ob ys:=by repeat (first|exact trivial|refine⟨rfl,?_⟩)) (hn:LoA s.ob nw:=by repeat (first|exact trivial|refine⟨rfl,?_⟩)):sE N P rs ys out nw .normal s:=by
 subst e;exact⟨s,vs,uF s,h,ho,hy,hn⟩
theorem SC {o:Nat} (h:rsv o=true):o<210:=by
 simp only[rsv,nlt,hV,Nat.ble_eq] at h;omega
theorem M8 {P:Program} {f:FuncId} {fn:Func} {c:Code} {N:Nat} {xs ys:List (Nat×Ob)} {args:List T} {rs:List ResultVar} {out:T} {nw:List (Nat×Ob)} {sl0:List (Nat×T)} (hf:P.funcs[f]?=some fn) (hb:fn.body=some c:=by exact rfl) (hnm:(fn.name== "runtime.NumGoroutine")=false:=by kernel_rfl) (hN:fn.ntmps=N) (hrs:fn.results.toList=rs:=by exact rfl)
 (ha:TC args.length N=true:=by exact rfl) (hs:sK 0 args=sl0:=by exact rfl) (h:AWC P N c ⟨sl0,xs,210⟩ (sE N P rs ys out nw)):FnV P f xs args ys out nw:=by
 subst hs
 refine⟨fun vs w=>by simp[callFunc,hf,hb];simpa using hnm,fun E w vals hI hT hTb hx hA=>?_⟩
 subst hrs
 refine calls_of_wp hf hb ?_
 obtain⟨h1,h2⟩:=zv 0 hA
 have hle:args.length≤N:=UM ha
 have hsz:vals.size=args.length:=by simpa using h1
 have hR:Rel N ⟨w,fun k=>∃o c,E.r o=some (k,c),E.r,E.F,fun _=>False,⟨hT,fun k hk ⟨o,c,h⟩=>hTb k hk o c h⟩,E.G⟩ E ⟨sK 0 args,xs,210⟩ {tmps:=vals++TZ (fn.ntmps-vals.size) undef,defers:=[]} w:=by
  refine⟨⟨hI.fb,hI.gf,fun _ h=>.inr h,fun o k k' h=>?_,hI.inj,rfl,rfl,rfl,Tt _,fun _ _ _=>rfl,fun _ _ _ h=>h,fun _ h=>.inl h,fun b h h'=>absurd (hI.fb b h) (by have:w.heap.size≤b:=h';omega),⟨fun l b h=>absurd h (hI.T l b),fun l _ b h=>absurd h (hI.T l b),fun _ h=>h.elim,fun _ h=>h.elim,fun b h=>absurd h (hI.Z b)⟩⟩,fun o p h=>?_,fun o ob h=>hx o ob h,fun k=>?_,rfl,by simp;omega,fun l b h=>absurd h (hI.T l b)⟩
  ·obtain⟨k1,k2,_⟩:=hI.rb o k k' h;exact⟨k1,.inr ⟨⟨o,k',h⟩,k2⟩⟩
  ·exact SC (hI.rb o p.1 p.2 h).2.1
  ·by_cases hk:k<args.length
   ·obtain⟨u,h3,h4⟩:=(h2 k).1 ⟨Ud _,by omega⟩
    have:(vals++TZ (fn.ntmps-vals.size) undef).getD k undef=u:=by
     have h5:vals[k]?=some u:=by simpa using h3
     have h6:(vals++TZ (fn.ntmps-vals.size) undef)[k]?=some u:=by rw[Array.getElem?_append_left (by omega)];exact h5
     simp[h6]
    rw[this];exact h4
   ·have:=(h2 k).2 (by omega)
    show cvT _ w (gt (sK 0 args) k) _
    rw[this];trivial
 refine wp_mono (h _ _ _ w hR) ?_
 rintro e a' w' ⟨E',s',hR',hq⟩
 have fin:(∃s'' vs,cZ N s' s''∧mU P s'' fn.results.toList vs∧N4 vs=out∧LoA s''.ob ys∧LoA s''.ob nw)→
  a'.defers=[]∧∃v,(results fn a'.tmps).run P w'= .ok v w'∧∃v' E',Ending.returned v= .returned v'∧VOut E w E' w'∧cvT E' w' out v'∧(∀l y,go ys l=some y→cy E' w' l y)∧(∀l y,go nw l=some y→cy E' w' l y):=by
  rintro⟨s'',vs,hw,hres,ho,hys,hnw⟩
  obtain⟨E'',hR''⟩:=hw _ _ _ _ hR'
  have ok:=hR''.ok
  obtain⟨us,k1,k2⟩:=sF hR'' hres
  have hm:(fn.results.mapM (ke a'.tmps)).run P w'= .ok us.toArray w':=by
   rw[←Array.toArray_toList (xs:=fn.results),List.mapM_toArray]
   simp only[Sem.run_map,k1]
   rfl
  have hrr:results fn a'.tmps=(fn.results.mapM (ke a'.tmps))>>= fun vs=>pure (if h:vs.size=1 then vs[0] else .tuple vs):=rfl
  have hv:∃v,(results fn a'.tmps).run P w'= .ok v w'∧cvT E'' w' out v:=by
   subst ho
   match vs,us,k2 with
   |[],[],_=>exact⟨.tuple #[],by rw[hrr];simp[hm],#[],rfl,trivial⟩
   |[v],[u],k2=>exact⟨u,by rw[hrr];simp[hm],k2.1⟩
   |v1::v2::vs,u1::u2::us,k2=>exact⟨.tuple (u1::u2::us).toArray,by rw[hrr];simp[hm],_,rfl,k2⟩
  obtain⟨v,q1,q2⟩:=hv
  have hk:iq E'' w' {E'' with F:=fun b=>E''.F b∨E.F b,G:=fun b=>E''.G b∨E.G b} w':=⟨fun _ _ h=>h,fun g b h=>by cases g<;>exact .inl h,fun _ _ _=>rfl,fun _ _ h=>⟨h,rfl⟩,fun _ h=>⟨h,.refl _ _⟩,rfl⟩
  have hob:∀l y,go s''.ob l=some y→cy {E'' with F:=fun b=>E''.F b∨E.F b,G:=fun b=>E''.G b∨E.G b} w' l y:=fun l y h=>
   fg hk (fun _ _ _=>rfl) (fun b c hr hn hF=>hF.elim hn (fun hF=>by
    rcases(ok.rb l b c hr).2 with k|⟨⟨o,c',k⟩,_⟩
    ·have:=hI.fb b hF;simp only at k;omega
    ·exact(hI.rb o b c' k).2.2 hF)) (hR''.obs l y h)
  refine⟨hR''.dfr,v,q1,v,{E'' with F:=fun b=>E''.F b∨E.F b,G:=fun b=>E''.G b∨E.G b},rfl,⟨⟨ok.os,ok.tape,ok.output,ok.size,ok.block⟩,fun b h=>h.elim (ok.fb b) (fun h=>by have:=hI.fb b h;have:=ok.size;simp only at this;omega),fun b h=>h.elim (fun h=>(ok.ff b h).elim .inl (fun k=>.inr ⟨k,ok.gc b h k⟩)) .inl,fun b h=>.inr h,fun b h=>.inr h,fun b h=>h.imp (ok.gf b) (hI.gf b),fun b h=>h.elim (ok.gn b) .inr,fun o b c h=>?_,ok.inj,fun o x hv h=>?_⟩,?_,?_,?_⟩
  ·obtain⟨m1,m2⟩:=ok.rb o b c h
   exact⟨m1,m2⟩
  ·exact ok.pin o x hv h
  ·exact ie hk q2
  ·exact fun l y h=>hob l y (DM hys h)
  ·exact fun l y h=>hob l y (DM hnw h)
 cases e with
 |normal=>exact fin hq
 |ret=>exact fin hq
 |_=>exact hq.elim
end Go.AM
