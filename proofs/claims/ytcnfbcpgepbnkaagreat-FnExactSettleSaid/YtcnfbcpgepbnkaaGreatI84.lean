/- A part. -/
import Derived.Test.YtcnfbcpgepbnkaaGreatI83
set_option linter.unusedVariables false
set_option linter.unusedSimpArgs false
open Option renaming some->ς,none->ξ
open Bool renaming true->ζ,false->η
open True renaming intro->θ
open List renaming getElem?_map->ada,length_map->adb,getElem?_set_ne->aeT,getElem?_append_right->aa3,getElem?_eq_some_iff->f5,getElem?_append_left->aa8,getElem?_eq_getElem->hV,mem_map->adP,mem_of_getElem?->v0,getElem?_mapIdx->aeS,flatten_cons->adr,replicate->aal,map_map->aeU
namespace Go.AM
open Go.Proofs
open Tryz
attribute [local irreducible] AWN NS AWO AWR AWC DR DZ cO eB iter
set_option maxRecDepth 100000
set_option maxHeartbeats 4000000
theorem BA{E:Env}{w:World}:∀{cs:List C} {us:Lae},CV E w cs us↔cs.length=us.length/\∀(j:Nat) (c:C) (u:Value),cs[j]?=ς c->us[j]?=ς u->cvC E w c u
 |[],[]=>⟨λ_=>⟨rfl,λj c u h=>by simp at h⟩,λ_=>trivial⟩
 |c::cs,u::us=>by
  show cvC E w c u/\CV E w cs us↔_
  rw[BA]
  constructor
  .rintro⟨h1,h2,h3⟩
   refine⟨by simp[h2],λj c' u' hc hu=>?_⟩
   cases j with
   |zero=>simp at hc hu;subst hc;subst hu;exact h1
   |succ j=>exact h3 j c' u' (by simpa using hc) (by simpa using hu)
  rintro⟨h1,h2⟩
  exact⟨h2 0 c u rfl rfl,by simpa using h1,λj c' u' hc hu=>h2 (j+1) c' u' (by simpa using hc) (by simpa using hu)⟩
 |[],_::_=>⟨λh=>h.elim,λh=>by simp at h⟩
 |_::_,[]=>⟨λh=>h.elim,λh=>by simp at h⟩
theorem Xv(k:KF):eK k=(bA k.f).set 19 (.k k.A k.n k.c):=rfl
theorem eTF_sc(f:a9):scB ((bA f).set 19 (.b η))=true:=rfl
theorem NI{f:a9}{j:Nat}{d:D}{w:World}{F T:Nat->Prop}{u:Value}(hj:(bA f)[j]?=ς d)(h:j≠19)(hu:rdD w F d u):fw w T d u:=by
 refine Z8 (eTF_sc f) (v0 (i:=j) ?_) hu
 rw[aeT (Ne.symm h)];exact hj
theorem WRu{a:Int}{n:Nat}(h0:0<=a)(h1:a<n)(h2:(n:Int)<=9223372036854775807):WR (a+1)=a+1:=by
 unfold WR;rw[IntKind.wrap_i64];omega
theorem KH{a0:ae}{a1:Int}{r:a9×ae}{ks:List KF}(H:nW a0 a1=ς r)(hk:ks.map (·.f)=a0.aJ):
 ∃(i:Nat) (k:KF),ks[i]?=ς k/\k.f=r.1/\Qy ks a1=ς (k,ks.take i++ks.drop (i+1))/\r.2={a0 with aJ:=(ks.take i++ks.drop (i+1)).map (·.f)}:=by
 have hlen:a0.aJ.length=ks.length:=by rw[<-hk,adb]
 unfold nW at H
 obtain⟨x,hx,H⟩:=ob H
 obtain⟨h1,H⟩:=rq H
 obtain⟨h2,H⟩:=rq H
 obtain⟨h3,H⟩:=rq H
 obtain⟨h4,H⟩:=rq H
 obtain⟨h5,H⟩:=rq H
 have hx0:0<=a1/\a0.aJ[a1.toNat]?=ς x:=by
  unfold ix at hx
  cases h:leB 0 a1 with
  |true=>rw[h] at hx;exact⟨by simpa [leB] using h,hx⟩
  |false=>rw[h] at hx;cases hx
 obtain⟨h0,hxi⟩:=hx0
 have hlt:a1.toNat<a0.aJ.length:=(f5.1 hxi).1
 have hm:(a0.aJ.length:Int)<=9223372036854775807:=by simp only[jh,decide_eq_true_eq] at h1;exact h1.2.2.2
 have hw:WR (a1+1)=a1+1:=WRu h0 oaa hm
 have ht:(WR (a1+1)).toNat=a1.toNat+1:=by rw[hw];omega
 obtain⟨k,hki⟩:∃k,ks[a1.toNat]?=ς k:=⟨_,hV oaa⟩
 have hkx:k.f=x:=by
  have:(ks.map (·.f))[a1.toNat]?=ς k.f:=by rw[ada,hki];rfl
  rw[hk,hxi] at this;exact(Option.some.inj this).symm
 rw[ht] at h5 H
 cases H
 refine⟨a1.toNat,k,hki,hkx,?_,?_⟩
 .unfold Qy
  have e1:ix ks a1=ς k:=by
   unfold ix
   have:leB 0 a1=true:=by simpa [leB] using h0
   rw[this];exact hki
  rw[e1,ht]
  simp only[Option.bind_some]
  have g1:jh 176 0 (ks.length:Int)=true:=by rw[<-hlen];exact h1
  have g2:d6 ks 0 a1=true:=by simp only[d6,decide_eq_true_eq] at h2 ⊢;rw[<-hlen];exact h2
  have g3:c8 176 (([]:List KF)++ks.take a1.toNat).length=true:=by
   have e:(([]:List KF)++ks.take a1.toNat).length=((aal (Int.toNat 0) jM)++a0.aJ.take a1.toNat).length:=by simp[hlen]
   rw[e];exact h3
  have g4:d6 ks (WR (a1+1)) ks.length=true:=by simp only[d6,decide_eq_true_eq] at h4 ⊢;rw[<-hlen];exact h4
  have g5:c8 176 ((([]:List KF)++ks.take a1.toNat)++ks.drop (a1.toNat+1)).length=true:=by
   have e:((([]:List KF)++ks.take a1.toNat)++ks.drop (a1.toNat+1)).length=((aal (Int.toNat 0) jM++a0.aJ.take a1.toNat)++a0.aJ.drop (a1.toNat+1)).length:=by simp[hlen]
   rw[e];exact h5
  rw[g1,g2,g3,g4,g5];simp
 simp only[List.map_append,List.map_take,List.map_drop,hk]
 simp
theorem abF{α:Type}{l:List α}{i n:Nat}{x:α}(hi:i<l.length)(h:(l.take i++l.drop (i+1))[n]?=ς x):l[if n<i then n else n+1]?=ς x:=by
 have ht:(l.take i).length=i:=by simp;omega
 by_cases hn:n<i
 .rw[aa8 oaa,List.getElem?_take] at h
  simpa [hn] using h
 rw[aa3 oaa,List.getElem?_drop,ht] at h
 rw[if_neg hn]
 rwa [show i+1+(n-i)=n+1 by omega] at h
theorem abq{xs:Lad}{sz j:Nat}{d:D}(hsz:0<sz)(hs:∀e∈xs,e.length=sz)(h:xs.flatten[j]?=ς d):∃e,xs[j/sz]?=ς e/\e[j%sz]?=ς d:=by
 induction xs generalizing j with
 |nil=>simp at h
 |cons e es ih=>
  have he:=hs e (by simp)
  rw[adr] at h
  by_cases hj:j<sz
  .rw[aa8 oaa] at h
   exact⟨e,by rw[Nat.div_eq_of_lt hj];rfl,by rw[Nat.mod_eq_of_lt hj];exact h⟩
  rw[aa3 oaa,he] at h
  obtain⟨e',h1,h2⟩:=ih (λx hx=>hs x (by simp[hx])) h
  refine⟨e',?_,?_⟩
  .rw[show j/sz=(j-sz)/sz+1 from by rw[<-Nat.add_div_right _ hsz];congr 1;omega];simpa using h1
  rw[show j%sz=(j-sz)%sz from by rw[<-Nat.add_mod_right (j-sz) sz];congr 1;omega];exact h2
theorem abr{xs:Lad}{sz i r:Nat}{e:List D}{d:D}(hs:∀e∈xs,e.length=sz)(h:xs[i]?=ς e)(hr:e[r]?=ς d):xs.flatten[i*sz+r]?=ς d:=by
 induction xs generalizing i with
 |nil=>simp at h
 |cons e' es ih=>
  have he:=hs e' (by simp)
  rw[adr]
  cases i with
  |zero=>
   simp at h;subst h
   rw[Nat.zero_mul,Nat.zero_add,aa8 (f5.1 hr).1];exact hr
  |succ i=>
   rw[aa3 (by rw[he,Nat.succ_mul];omega),he,show(i+1)*sz+r-sz=i*sz+r by rw[Nat.succ_mul];omega]
   exact ih (λx hx=>hs x (by simp[hx])) (by simpa using h)
theorem JM{a0:ae}{a1:Int}{r:a9×ae}(H:nW a0 a1=ς r):FnV prog 163 (nT a0) [tP 200,tI a1] (nT r.2) (.v (.agg (kT [.s 193] (ox r.1)))) []:=by
 obtain⟨_,_,_,_,hKe,_⟩:=KH (ks:=a0.aJ.map λf=>⟨f,ξ,0,0⟩) H (by rw[aeU];exact List.map_id _)
 refine⟨(Od (x1:=(ξ,0,0)) (x2:=(ξ,0,0)) (x3:=(ξ,0,0)) (x4:=(ξ,0,0)) (a0:=a0) hKe).enters,λE w vals hI hT hTb hx hA=>?_⟩
 clear hKe
 obtain⟨b,c,arr,q3,hh3,ha3,hl3,hm3,he3,hrd3,hF3,_,hT3⟩:=hx 193 _ rfl
 have hF3:=hF3 rfl
 have hT3:dJ w (E.T 193) (a0.aJ.map bA) b:=hT3
 obtain⟨b0,c0,arr0,q0,hh0,ha0,hl0,hm0,he0,hrd0,hF0,hz0,hT0⟩:=hx 190 _ rfl
 obtain⟨b1,c1,arr1,q1,hh1,ha1,hl1,hm1,he1,hrd1,hF1,hz1,hT1⟩:=hx 191 _ rfl
 obtain⟨b2,c2,arr2,q2,hh2,ha2,hl2,hm2,he2,hrd2,hF2,hz2,hT2⟩:=hx 192 _ rfl
 obtain⟨b4,c4,arr4,q4,hh4,ha4,hl4,hm4,he4,hrd4,hF4,hz4,hT4⟩:=hx 194 _ rfl
 obtain⟨bn,cn,narr,hrn,hhn,hcn,hFn⟩:=hx 200 _ rfl
 obtain⟨Q,hQs,hQ⟩:=dJ.iff.1 hT3
 have hfl:∀i:Nat,∃p:Option Addr×Nat×Nat,∀f,a0.aJ[i]?=ς f->w.cell? ⟨b,i*21+19,ξ⟩=ς (.slice p.1 p.2.1 p.2.2)/\fw w (Q (i*21+19)) (.l (f.cF.bH.be.map eU8)) (.slice p.1 p.2.1 p.2.2):=by
  intro i
  cases hf:a0.aJ[i]? with
  |none=>exact⟨(ξ,0,0),λf h=>by cases h⟩
  |some f=>
   have h1:(a0.aJ.map bA).flatten[i*21+19]?=ς (.l (f.cF.bH.be.map eU8)):=abr (sz:=21) he3 (e:=bA f) (by rw[ada,hf];rfl) rfl
   obtain⟨u,hu,ht⟩:=hQ _ _ h1
   have ht':=ht
   rw[fw] at ht'
   obtain⟨A,cc,rfl,_⟩:=ht'
   exact⟨(A,_,cc),λf' h=>by cases h;exact⟨hu,ht⟩⟩
 obtain⟨φ,hφ⟩:=Classical.axiomOfChoice hfl
 obtain⟨ks,hks⟩:∃ks:List KF,ks=a0.aJ.mapIdx λi f=>⟨f,(φ i).1,(φ i).2.1,(φ i).2.2⟩:=⟨_,rfl⟩
 have hkf:ks.map (·.f)=a0.aJ:=by
  subst hks
  apply List.ext_getElem?
  intro i
  rw[ada,aeS]
  cases a0.aJ[i]?<;>rfl
 have hlen:ks.length=a0.aJ.length:=by rw[<-hkf,adb]
 have hkφ:∀(i:Nat) (k:KF),ks[i]?=ς k->a0.aJ[i]?=ς k.f/\k.A=(φ i).1/\k.n=(φ i).2.1/\k.c=(φ i).2.2:=by
  intro i k hk
  subst hks
  rw[aeS] at hk
  cases hf:a0.aJ[i]? with
  |none=>rw[hf] at hk;cases hk
  |some f=>rw[hf] at hk;cases hk;exact⟨rfl,rfl,rfl,rfl⟩
 have hkt:∀(i:Nat) (k:KF),ks[i]?=ς k->w.cell? ⟨b,i*21+19,ξ⟩=ς (.slice k.A k.n k.c)/\fw w (Q (i*21+19)) (.l (k.f.cF.bH.be.map eU8)) (.slice k.A k.n k.c):=by
  intro i k hk
  obtain⟨h1,h2,h3,h4⟩:=hkφ i k hk
  obtain⟨h5,h6⟩:=hφ i k.f h1
  rw[h2,h3,h4];exact⟨h5,h6⟩
 obtain⟨i,k,hki,hkr,hK,hr⟩:=KH H hkf
 have hil:i<ks.length:=(f5.1 hki).1
 obtain⟨hnl,hnc⟩:=BA.1 hcn
 have hnat:∀j,j<10->∃u,narr.toList[j]?=ς u:=λj hj=>⟨_,hV (by rw[<-hnl];exact hj)⟩
 obtain⟨EK,hEK⟩:∃EK:Env,EK={r:=λo=>if o=193 then ς (b,c) else if o=200 then ς (bn,cn) else ξ,F:=E.F,G:=E.G}:=⟨_,rfl⟩
 have k_r:∀o x,EK.r o=ς x↔(o=193/\x=(b,c))\/(o=200/\x=(bn,cn)):=λo x=>by
  subst hEK
  show(if o=193 then ς (b,c) else if o=200 then ς (bn,cn) else ξ)=ς x↔_
  split
  .rename_i h;subst h;simp[eq_comm]
  rename_i h
  split
  .rename_i h';subst h';simp[eq_comm]
  rename_i h';simp[h,h']
 have k_E:∀o x,EK.r o=ς x->E.r o=ς x:=λo x h=>by
  rcases(k_r o x).1 h with⟨rfl,rfl⟩|⟨rfl,rfl⟩
  .exact q3
  exact hrn
 have k_F:EK.F=E.F:=by subst hEK;rfl
 have k_G:EK.G=E.G:=by subst hEK;rfl
 have k_T:∀l k,¬EK.T l k:=by subst hEK;exact λ_ _ h=>h
 have hVI:VIn EK w:=⟨by rw[k_F];exact hI.fb,by rw[k_F,k_G];exact hI.gf,λo b' c' h=>by rw[k_F];exact hI.rb o b' c' (k_E _ _ h),λo o' b' c' c'' h h'=>hI.inj o o' b' c' c'' (k_E _ _ h) (k_E _ _ h'),
  λl k h=>absurd h (k_T l k),λl _ k h=>absurd h (k_T l k),λ_ _ l h=>absurd h (k_T l _),by subst hEK;exact λ_ h=>h⟩
 have hrowK:rdLL w (EK.H ζ) (ks.map eK) b 0:=by
  refine AY (sz:=21) (λe he=>by obtain⟨_,_,rfl⟩:=adP.1 he;rfl) λn e hn=>?_
  rw[ada] at hn
  cases hkn:ks[n]? with
  |none=>rw[hkn] at hn;cases hn
  |some kn=>
   rw[hkn] at hn;cases hn
   obtain⟨h1,_⟩:=hkφ n kn hkn
   have h2:=sH hrd3 he3 (i:=n) (e:=bA kn.f) (by rw[ada,h1];rfl)
   refine mG λj d hj=>?_
   by_cases h19:j=19
   .subst h19
    have hd:d= .k kn.A kn.n kn.c:=(Option.some.inj hj).symm
    subst hd
    exact⟨_,by rw[Nat.zero_add];exact(hkt n kn hkn).1,rfl⟩
   rw[Xv,aeT (Ne.symm h19)] at hj
   obtain⟨u,hu,hd⟩:=iz h2 hj
   exact⟨u,hu,(NI (T:=λ_=>False) hj h19 hd).rdF λ_ h=>h.elim⟩
 have hx193:cN EK w 193 (.row 152 21 (ks.map eK) ζ ζ):=⟨b,c,arr,(k_r _ _).2 (.inl ⟨rfl,rfl⟩),hh3,ha3,by rw[adb,hlen,<-adb (f:=bA)];exact hl3,hm3,λe he=>by obtain⟨_,_,rfl⟩:=adP.1 he;rfl,hrowK,λ_=>by rw[k_F];exact hF3,(λh=>by cases h),θ⟩
 have w0:=hnc 1 _ _ rfl (hnat 1 oaa).choose_spec
 obtain⟨b0',c0',w01,w02⟩:=w0
 rw[q0] at w01;cases w01
 have w1:=hnc 2 _ _ rfl (hnat 2 oaa).choose_spec
 obtain⟨b1',c1',w11,w12⟩:=w1
 rw[q1] at w11;cases w11
 have w2:=hnc 3 _ _ rfl (hnat 3 oaa).choose_spec
 obtain⟨b2',c2',w21,w22⟩:=w2
 rw[q2] at w21;cases w21
 have w4:=hnc 0 _ _ rfl (hnat 0 oaa).choose_spec
 obtain⟨b4',c4',w41,w42⟩:=w4
 rw[q4] at w41;cases w41
 have hu0:=(hnat 0 oaa).choose_spec;rw[w42] at hu0
 have w3:=hnc 4 _ _ rfl (hnat 4 oaa).choose_spec
 obtain⟨b3',c3',w31,w32⟩:=w3
 rw[q3] at w31;cases w31
 have hu1:=(hnat 1 oaa).choose_spec;rw[w02] at hu1
 have hu2:=(hnat 2 oaa).choose_spec;rw[w12] at hu2
 have hu3:=(hnat 3 oaa).choose_spec;rw[w22] at hu3
 have hu4:=(hnat 4 oaa).choose_spec;rw[w32] at hu4
 have hvarK:cN EK w 200 (.var 43 [.d η (.k (ς ⟨b4,0,ξ⟩) a0.fH.bh.length c4),.d η (.k (ς ⟨b0,0,ξ⟩) a0.aH.length c0),.d η (.k (ς ⟨b1,0,ξ⟩) a0.aT.length c1),.d η (.k (ς ⟨b2,0,ξ⟩) a0.bu.length c2),.w 193 ks.length,cI a0.dK,cI a0.lA.uy,cI a0.lA.jS,cI a0.vU,cI a0.my]):=by
  refine⟨bn,cn,narr,(k_r _ _).2 (.inr ⟨rfl,rfl⟩),hhn,BA.2 ⟨hnl,λj cc u hj hu=>?_⟩,by rw[k_F];exact hFn⟩
  match j,hj with
  |0,hj=>cases hj;rw[hu0] at hu;cases hu;rfl
  |1,hj=>cases hj;rw[hu1] at hu;cases hu;rfl
  |2,hj=>cases hj;rw[hu2] at hu;cases hu;rfl
  |3,hj=>cases hj;rw[hu3] at hu;cases hu;rfl
  |4,hj=>cases hj;rw[hu4] at hu;cases hu;exact⟨b,c,(k_r _ _).2 (.inl ⟨rfl,rfl⟩),by rw[hlen]⟩
  |5,hj=>cases hj;exact hnc 5 _ u rfl hu
  |6,hj=>cases hj;exact hnc 6 _ u rfl hu
  |7,hj=>cases hj;exact hnc 7 _ u rfl hu
  |8,hj=>cases hj;exact hnc 8 _ u rfl hu
  |9,hj=>cases hj;exact hnc 9 _ u rfl hu
  |j+10,hj=>simp at hj
 have hAK:TV EK w [tP 200,tI a1] vals.toList:=by
  match hv:vals.toList,hA with
  |[p,q],⟨⟨bb,cc,h1,h2⟩,h3,h4⟩=>
   rw[hrn] at h1;cases h1
   exact⟨⟨bn,cn,(k_r _ _).2 (.inr ⟨rfl,rfl⟩),h2⟩,h3,h4⟩
 have hc:=(Od (x1:=(ς ⟨b4,0,ξ⟩,a0.fH.bh.length,c4)) (x2:=(ς ⟨b0,0,ξ⟩,a0.aH.length,c0)) (x3:=(ς ⟨b1,0,ξ⟩,a0.aT.length,c1)) (x4:=(ς ⟨b2,0,ξ⟩,a0.bu.length,c2)) (a0:=a0) hK).calls EK w vals hVI hT (λk hk o cc h=>hTb k hk o cc (k_E _ _ h)) (λl x h=>by
  by_cases e1:l=193
  .subst e1;cases h;exact hx193
  rw[bg _ _ (Ne.symm e1)] at h
  by_cases e2:l=200
  .subst e2;cases h;exact hvarK
  rw[bg _ _ (Ne.symm e2)] at h;cases h) hAK
 refine hc.mono ?_
 rintro e w' ⟨v,E',rfl,vo,hv,hys,_⟩
 obtain⟨b',c',arr',hr',hh',ha',hl',hm',he',hrd',hF',_,_⟩:=hys 193 _ rfl
 have hF':=hF' rfl
 obtain⟨bn',cn',narr',hrn',hhn',hcn',hFn'⟩:=hys 200 _ rfl
 have hpin:(bn',cn')=(bn,cn):=by
  have:=k_E _ _ (vo.pin 200 _ rfl hrn');rw[hrn] at this;exact(Option.some.inj this).symm
 cases hpin
 have hsz:=vo.past.size
 have hne:∀o b'' c'',E.r o=ς (b'',c'')->o≠193->o≠200->w'.heap[b'']?=w.heap[b'']?:=λo b'' c'' ho h1 h2=>vo.past.block b'' (hI.rb o b'' c'' ho).1 (λh=>by
  rcases h with⟨o',c1',h⟩|⟨l,h⟩
  .have h3:=k_E _ _ h
   have:=hI.inj _ _ _ _ _ ho h3
   rcases(k_r _ _).1 h with⟨rfl,_⟩|⟨rfl,_⟩
   .exact h1 this
   exact h2 this
  exact k_T _ _ h)
 have hTh:∀l k,E.T l k->w'.heap[k]?=w.heap[k]?:=λl k h=>vo.past.block k (hI.T l k h).1 (λh'=>by
  rcases h' with⟨o',c1',h'⟩|⟨l',h'⟩
  .exact(hI.T l k h).2.2.1 _ _ (k_E _ _ h')
  exact k_T _ _ h')
 have hb':w.heap.size<=b'\/b'=b:=by
  rcases(vo.rb 193 b' c' hr').2 with(h|⟨l,h⟩)|⟨⟨o',c1',h⟩,_⟩
  .exact .inl h
  .exact absurd h (k_T _ _)
  rcases(k_r _ _).1 h with⟨rfl,q⟩|⟨rfl,q⟩
  .cases q;exact .inr rfl
  cases q
  have:=vo.inj _ _ _ _ _ hr' hrn';cases this
 obtain⟨E2,hE2⟩:∃E2:Env,E2={E with r:=λo=>if o=193 then ς (b',c') else E.r o,F:=E'.F,G:=E'.G}:=⟨_,rfl⟩
 have e_r:∀o x,E2.r o=ς x↔(o=193/\x=(b',c'))\/(o≠193/\E.r o=ς x):=λo x=>by
  subst hE2
  show(if o=193 then ς (b',c') else E.r o)=ς x↔_
  split
  .rename_i h;subst h;simp[eq_comm]
  rename_i h;simp[h]
 have e_T:E2.T=E.T:=by subst hE2;rfl
 have e_F:E2.F=E'.F:=by subst hE2;rfl
 have e_G:E2.G=E'.G:=by subst hE2;rfl
 have e_n:E2.n=E.n:=by subst hE2;rfl
 have hFo:∀o b'' c'',E.r o=ς (b'',c'')->¬E'.F b'':=λo b'' c'' ho hf=>by
  rcases vo.f0 b'' hf with h|⟨h|⟨l,h⟩,_⟩
  .rw[k_F] at h;exact(hI.rb o b'' c'' ho).2.2 h
  .have:=(hI.rb o b'' c'' ho).1;omega
  exact k_T _ _ h
 have hTb':∀l k,E.T l k->k≠b':=λl k h e=>by
  subst e
  rcases hb' with h'|h'
  .have:=(hI.T l k h).1;omega
  rw[h'] at h;exact(hI.T l b h).2.2.1 _ _ q3
 have hks':(ks.take i++ks.drop (i+1)).map (·.f)=r.2.aJ:=by rw[hr]
 have hTR:dJ w' (E.T 193) (r.2.aJ.map bA) b':=by
  refine dJ.iff.2 ⟨λj x=>j%21=19/\Q ((if j/21<i then j/21 else j/21+1)*21+19) x,⟨λj x hj=>?_,λj j' x hj hj'=>?_⟩,λj d hj=>?_⟩
  .obtain⟨h1,h2⟩:=hQs.1 _ _ hj.2
   exact⟨h1,hTb' _ _ h1⟩
  .have h1:=hQs.2 _ _ _ hj.2 hj'.2
   have h2:=hj.1;have h3:=hj'.1
   have h4:j/21=j'/21:=by split at h1<;>split at h1<;>omega
   omega
  rw[<-hks',aeU] at hj
  obtain⟨e,h1,h2⟩:=abq (sz:=21) oaa (λe he=>by obtain⟨_,_,rfl⟩:=adP.1 he;rfl) hj
  rw[ada] at h1
  cases hkn:(ks.take i++ks.drop (i+1))[j/21]? with
  |none=>rw[hkn] at h1;cases h1
  |some kn=>
   rw[hkn] at h1;cases h1
   have h2:(bA kn.f)[j%21]?=ς d:=h2
   have h3:=abF hil hkn
   have h4:=sH hrd' he' (i:=j/21) (e:=eK kn) (by rw[ada,hkn];rfl)
   by_cases h19:j%21=19
   .rw[h19] at h2
    have hd:d= .l (kn.f.cF.bH.be.map eU8):=(Option.some.inj h2).symm
    subst hd
    obtain⟨u,hu,hd⟩:=iz h4 (j:=19) (d:=.k kn.A kn.n kn.c) rfl
    have hd:u= .slice kn.A kn.n kn.c:=hd
    subst hd
    refine⟨_,by rw[show j=0+j/21*21+19 by omega];exact hu,?_⟩
    exact(hkt _ kn h3).2.keep (λx hx=>hTh _ _ (hQs.1 _ _ hx).1) (λx hx=>⟨h19,hx⟩)
   have h5:(eK kn)[j%21]?=ς d:=by rw[Xv,aeT (Ne.symm h19)];exact h2
   obtain⟨u,hu,hd⟩:=iz h4 h5
   refine⟨u,by rw[show j=0+j/21*21+j%21 by omega];exact hu,NI h2 h19 hd⟩
 have hro:∀{o b'' c'' arr'':_} {ty sz:Nat} {els:Lad},E.r o=ς (b'',c'')->o≠193->o≠200->w.heap[b'']?=ς (.cells arr'' ty (0,0))->arr''.size=c''*sz->els.length<=c''->c''<=maxLen->(∀e∈els,e.length=sz)->uf E w els b'' (.s o)->cN E2 w' o (.row ty sz els (.s o) ζ):=by
  intro o b'' c'' arr'' ty sz els h1 h2 h3 h4 h5 h6 h7 h8 h9
  have hb:=hne o b'' c'' h1 h2 h3
  have ht:dJ w' (E2.T o) els b'':=by rw[e_T];exact dJ.keep (T:=E.T o) h9 hb (λx hx=>hTh _ _ hx) (λ_ h=>h)
  exact⟨b'',c'',arr'',(e_r _ _).2 (.inr ⟨h2,h1⟩),hb.trans h4,h5,h6,h7,h8,ht.rdT,λ_=>by rw[e_F];exact hFo o b'' c'' h1,(λh=>by cases h),ht⟩
 refine⟨v,E2,rfl,⟨⟨vo.past.os,vo.past.tape,vo.past.output,hsz,λk hk hW=>vo.past.block k hk (λh=>by
  rcases h with⟨o',c1',h⟩|⟨l',h⟩
  .exact hW (.inl ⟨_,_,k_E _ _ h⟩)
  exact k_T _ _ h)⟩,by rw[e_F];exact vo.fb,λk hk=>?_,λk hk=>by rw[e_F];exact vo.F k (by rw[k_F];exact hk),λk hk=>by rw[e_G];exact vo.G k (by rw[k_G];exact hk),by rw[e_F,e_G];exact vo.gf,λk hk=>?_,λo x y h=>?_,λo o' x y y' h h'=>?_,λo x hv h=>?_,λl kb h=>?_,by rw[e_T];exact hI.tt⟩,?_,λl y hl=>?_,λl y hl=>by cases hl⟩
 .rw[e_F] at hk
  rcases vo.f0 k hk with h|⟨h|⟨l,h⟩,hp⟩
  .rw[k_F] at h;exact .inl h
  .exact .inr ⟨.inl h,hp⟩
  exact absurd h (k_T _ _)
 .rw[e_G] at hk
  rcases vo.g0 k hk with h|h|⟨l,h⟩
  .exact .inl h
  .rw[k_G] at h;exact .inr (.inl h)
  exact absurd h (k_T _ _)
 .rcases(e_r _ _).1 h with⟨rfl,q⟩|⟨_,h⟩
  .cases q
   refine⟨(vo.rb 193 _ _ hr').1,?_⟩
   rcases hb' with h|h
   .exact .inl (.inl h)
   rw[h];exact .inr ⟨⟨193,c,q3⟩,rfl⟩
  obtain⟨h1,h2,_⟩:=hI.rb o x y h
  exact⟨by omega,.inr ⟨⟨o,y,h⟩,h2⟩⟩
 .have key:∀o y,o≠193->E.r o=ς (b',y)->False:=λo y h1 h2=>by
   rcases hb' with h3|h3
   .have:=(hI.rb o b' y h2).1;omega
   rw[h3] at h2;exact h1 (hI.inj _ _ _ _ _ h2 q3)
  rcases(e_r _ _).1 h with⟨rfl,q⟩|⟨h0,h⟩<;>rcases(e_r _ _).1 h' with⟨rfl,q'⟩|⟨h0',h'⟩
  .rfl
  .cases q;exact(key _ _ h0' h').elim
  .cases q';exact(key _ _ h0 h).elim
  exact hI.inj _ _ _ _ _ h h'
 .rcases(e_r _ _).1 h with⟨rfl,_⟩|⟨_,h⟩
  .cases hv
  exact h
 .rw[e_T] at h
  obtain⟨k1,k2,k3,k4,_⟩:=hI.T l kb h
  refine⟨⟨by omega,.inr ⟨l,by exact h⟩⟩,λhf=>?_,λo y ho=>?_,k4.of_eq (hTh l kb h)⟩
  .rw[e_F] at hf
   rcases vo.f0 kb hf with h'|⟨h'|⟨l',h'⟩,_⟩
   .rw[k_F] at h';exact k2 h'
   .omega
   exact k_T _ _ h'
  rcases(e_r _ _).1 ho with⟨rfl,q⟩|⟨_,h'⟩
  .cases q;exact hTb' l _ h rfl
  exact k3 _ _ h'
 .obtain⟨uarr,hu,hcv⟩:=hv
  obtain⟨h1,h2⟩:=BA.1 hcv
  refine⟨uarr,hu,BA.2 ⟨by rw[<-h1];rfl,λj cc u hj huj=>?_⟩⟩
  rw[<-hkr] at hj
  have hset:kT [.s 193] (ox k.f)=(cKF k).set 19 (.d (.s 193) (.l (k.f.cF.bH.be.map eU8))):=rfl
  rw[hset] at hj
  by_cases h19:j=19
  .subst h19
   have h3:=h2 19 (.d η (.k k.A k.n k.c)) u rfl huj
   have h3:u= .slice k.A k.n k.c:=h3
   subst h3
   have hc':cc= .d (.s 193) (.l (k.f.cF.bH.be.map eU8)):=(Option.some.inj hj).symm
   subst hc'
   have h4:=(hkt i k hki).2.keep (w':=w') (T':=E.T 193) (λx hx=>hTh _ _ (hQs.1 _ _ hx).1) (λx hx=>(hQs.1 _ _ hx).1)
   show rdD w' (E2.T 193) _ _
   rw[e_T];exact h4.rd
  rw[aeT (Ne.symm h19)] at hj
  have h3:=h2 j cc u hj huj
  have h4:cc∈(cKF k).set 19 (cB η):=v0 (i:=j) (by rw[aeT (Ne.symm h19)];exact hj)
  have h5:∀cc∈(cKF k).set 19 (cB η),cvC E' w' cc u->cvC E2 w' cc u:=by
   intro cc hm
   simp only[cKF,List.set_cons_succ,List.set_cons_zero,List.mem_cons,List.not_mem_nil,or_false] at hm
   rcases hm with rfl|rfl|rfl|rfl|rfl|rfl|rfl|rfl|rfl|rfl|rfl|rfl|rfl|rfl|rfl|rfl|rfl|rfl|rfl|rfl|rfl<;>exact λh=>by simpa only[cvC,gD,rdD] using h
  exact h5 cc h4 h3
 by_cases e1:l=193
 .subst e1
  cases hl
  exact⟨b',c',arr',(e_r _ _).2 (.inl ⟨rfl,rfl⟩),hh',ha',by rw[adb,<-hks',adb];simpa using hl',hm',λe he=>by obtain⟨_,_,rfl⟩:=adP.1 he;rfl,by
   show rdLL w' (E2.T 193) _ _ _
   rw[e_T];exact hTR.rdT,λ_=>by rw[e_F];exact hF',(λh=>by cases h),by
   show dJ w' (E2.T 193) _ _
   rw[e_T];exact hTR⟩
 by_cases e2:l=190
 .subst e2;rw[show go (nT r.2) 190=ς (.row 129 14 (r.2.aH.map bG) (.s 190) ζ) from rfl] at hl;cases hl
  rw[hr];exact hro q0 (by decide) (by decide) hh0 ha0 hl0 hm0 he0 hT0
 by_cases e3:l=191
 .subst e3;rw[show go (nT r.2) 191=ς (.row 140 30 (r.2.aT.map aM) (.s 191) ζ) from rfl] at hl;cases hl
  rw[hr];exact hro q1 (by decide) (by decide) hh1 ha1 hl1 hm1 he1 hT1
 by_cases e4:l=192
 .subst e4;rw[show go (nT r.2) 192=ς (.row 144 4 (r.2.bu.map bj) (.s 192) ζ) from rfl] at hl;cases hl
  rw[hr];exact hro q2 (by decide) (by decide) hh2 ha2 hl2 hm2 he2 hT2
 by_cases e6:l=194
 .subst e6;rw[show go (nT r.2) 194=ς (.row 198 2 (r.2.fH.bh.map de) (.s 194) ζ) from rfl] at hl;cases hl
  rw[hr];exact hro q4 (by decide) (by decide) hh4 ha4 hl4 hm4 he4 hT4
 by_cases e5:l=200
 .subst e5
  rw[show go (nT r.2) 200=ς (.var 43 (kT [.w 194,.w 190,.w 191,.w 192,.w 193] (cX r.2))) from rfl] at hl;cases hl
  obtain⟨h1,h2⟩:=BA.1 hcn'
  refine⟨bn,cn,narr',(e_r _ _).2 (.inr ⟨by decide,hrn⟩),hhn',BA.2 ⟨by rw[<-h1];rfl,λj cc u hj hu=>?_⟩,by rw[e_F];exact hFn'⟩
  match j,hj with
  |0,hj=>cases hj;have h3:u= .slice (ς ⟨b4,0,ξ⟩) a0.fH.bh.length c4:=h2 0 _ u rfl hu;subst h3;exact⟨b4,c4,(e_r _ _).2 (.inr ⟨by decide,q4⟩),by rw[hr]⟩
  |1,hj=>cases hj;have h3:u= .slice (ς ⟨b0,0,ξ⟩) a0.aH.length c0:=h2 1 _ u rfl hu;subst h3;exact⟨b0,c0,(e_r _ _).2 (.inr ⟨by decide,q0⟩),by rw[hr]⟩
  |2,hj=>cases hj;have h3:u= .slice (ς ⟨b1,0,ξ⟩) a0.aT.length c1:=h2 2 _ u rfl hu;subst h3;exact⟨b1,c1,(e_r _ _).2 (.inr ⟨by decide,q1⟩),by rw[hr]⟩
  |3,hj=>cases hj;have h3:u= .slice (ς ⟨b2,0,ξ⟩) a0.bu.length c2:=h2 3 _ u rfl hu;subst h3;exact⟨b2,c2,(e_r _ _).2 (.inr ⟨by decide,q2⟩),by rw[hr]⟩
  |4,hj=>
   cases hj
   obtain⟨bb,cc,h3,h4⟩:=h2 4 _ u rfl hu
   rw[hr'] at h3;cases h3
   exact⟨b',c',(e_r _ _).2 (.inl ⟨rfl,rfl⟩),by rw[h4,<-hks',adb]⟩
  |5,hj=>cases hj;rw[hr];exact h2 5 _ u rfl hu
  |6,hj=>cases hj;rw[hr];exact h2 6 _ u rfl hu
  |7,hj=>cases hj;rw[hr];exact h2 7 _ u rfl hu
  |8,hj=>cases hj;rw[hr];exact h2 8 _ u rfl hu
  |9,hj=>cases hj;rw[hr];exact h2 9 _ u rfl hu
  |j+10,hj=>simp[kT,cX] at hj
 exfalso
 have hgo:go (nT r.2) l=none:=by
  simp only[nT,oT,rT,cX,TM.o,go,gQ (Ne.symm e1),gQ (Ne.symm e2),gQ (Ne.symm e3),gQ (Ne.symm e4),gQ (Ne.symm e5),gQ (Ne.symm e6),cond_false]
 rw[hgo] at hl;cases hl
end Go.AM
