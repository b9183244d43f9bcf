/- A part. -/
import Derived.Test.YtljhooecmjejiaaGreatP4
set_option linter.unusedVariables false
set_option linter.unusedSimpArgs false
open Option renaming bind_some→Up
open List renaming mem_of_getElem?→RS,getElem?_eq_getElem→v0,mem_of_mem_take→U6,mem_or_eq_of_mem_set→U7,take_of_length_le→UD,getElem?_eq_none→UR,getElem?_take→R7,mem_map→TM
open Bool renaming not_true→TF,not_false→UO,and_eq_true→hV
open Int renaming toNat_natCast→Us,le_refl→U5,tdiv→Ve
namespace Go.AM
open Go.Proofs
attribute [local simp] bz be bb
theorem PI.same {n n':ab} (h:PI n) (h1:n'.ai=n.ai) (h2:n'.am=n.am) (h3:n'.aY=n.aY) (h4:∀f∈n'.aQ,f∈n.aQ):PI n':=
 ⟨by rw[h1,h2,h3];exact h.si,fun f hf=>by rw[h1,h2];exact h.fi f (h4 f hf)⟩
theorem Q7 {B:Int} {n:ab} (hn:NP B n) (h:PI n) (e:cX):PI (zS n e).2:=by
 rw[zS]
 cases inR e.cr 0 (((n.ai.length:Nat):Int)-1)
 ·exact h
 simp only[TF,cond_false]
 cases hd:n.ai[e.cr.toNat]? with
 |none=>exact h
 |some d=>
  obtain⟨d',s,a,e1,e2,e3,hm⟩:=hn.at_ (List.getElem?_eq_some_iff.1 hd).1
  rw[hd] at e1;cases e1
  have hsi:=h.si _ d s a hd e2 e3
  simp only[e2]
  cases eqB e.aP 5
  ·simp only[cond_false]
   cases eqB e.aP 6
   ·simp only[cond_false]
    cases eqB e.aP 7
    ·simp only[cond_false]
     cases(pL s e.aN).2
     ·exact h
     ·have st:=Ch hsi hm.sg e.aN
      have hm':=h.setM hd e2 st.mo (a':=a) st.si
      rw[dK hd,dK e3] at hm'
      exact hm'
    ·simp only[cond_true]
     cases eqB d.bg 2
     ·exact h
     ·have st:=Ix hsi
      have hm':=h.setM hd e2 st.2 (a':=a) st.1
      rw[dK e2,dK e3] at hm'
      exact hm'
   ·simp only[cond_true]
    cases eqB e.aU d.aU||!ew n.dW e.aU
    ·exact nz h hd e2 e3 (EH hsi e.aU)
    ·exact h
  ·simp only[cond_true]
   cases eqB d.bg 0
   ·exact h
   ·exact nz h hd e2 e3 (LD hsi)
theorem KE {B:Int} {n:ab} (hn:NP B n) (h:PI n) (k:Int) (up:Bool):PI (lI n k up).2:=by
 rw[lI]
 cases !inR k 0 (n.dR.fH-1)||(booB (tc n.dR k) up||eqB (kQ n.dR k up).fj 0)
 ·simp only[cond_false]
  have key:∀(i:Nat) d s' a,n.ai[i]?=some d→(rZ n.dR (kQ n.dR k up) n.am.length 0 n.am)[i]?=some s'→n.aY[i]?=some a→∃s,n.am[i]?=some s∧SI d s' a∧rG d s d s':=by
   intro i d s' a hd hs ha
   rcases lg n.dR (kQ n.dR k up) n.am.length 0 n.am i with q|⟨t,q1,q2⟩
   ·rw[q] at hs;exact⟨s',hs,h.si i d s' a hd hs ha,rG.refl d s'⟩
   ·rw[q2] at hs;cases hs
    have hm:=hn.m i d t a hd q1 ha
    have st:=Ag (h.si i d t a hd q1 ha) hm.sg
    exact⟨t,q1,st.si,st.mo⟩
  refine⟨fun i d s' a hd hs ha=>?_,fun f hf d s' hd hs=>?_⟩
  ·obtain⟨s,_,g,_⟩:=key i d s' a hd hs ha;exact g
  ·obtain⟨d',t,a,e1,e2,e3,hm⟩:=hn.at_ (i:=f.a9.toNat) (List.getElem?_eq_some_iff.1 hd).1
   obtain⟨s,g1,_,g2⟩:=key _ d s' a hd hs e3
   exact(h.fi f hf d s hd g1).mono g2
 ·exact h
theorem Lf {B:Int} {n:ab} (hn:NP B n) (hB:B+10000<4611686018427387904) (h:PI n) {e:cX} (he:EP e) (hh:nO n e=true):PI (i9 n e).2:=by
 rw[i9]
 split
 ·rw[zT]
  cases hb:leB 100000 n.oD
  ·simp only[cond_false]
   have hb:=vG hb
   have hl:=hn.ld
   have hnw:=hn.nw
   have h1:NP B {n with oD:=n.oD+1}:={hn with nw:=by simp only;omega}
   have p1:PI {n with oD:=n.oD+1}:=h.same rfl rfl rfl (fun f hf=>hf)
   have p2:=Gq n.ai.length 0 h1 (by omega) p1
   have hnp:∀(c i:Nat) {B:Int} {n:ab},NP B n→B+c<4611686018427387904→NP (B+c) (js c i n):=by
    intro c
    induction c with
    |zero=>intro i B n hn _;simpa [js] using hn
    |succ c ih=>
     intro i B n hn hB
     rw[js]
     cases hd:n.ai[i]? with
     |none=>exact hn.mono (by omega)
     |some d=>
      obtain⟨d',s,a,e1,e2,e3,hm⟩:=hn.at_ (List.getElem?_eq_some_iff.1 hd).1
      rw[hd] at e1;cases e1
      exact(ih (i+1) (iP hn hd (rU d) (vq hm.dp) hm.dc (by omega)) (by omega)).mono (by omega)
   have h2:=hnp n.ai.length 0 h1 (by omega)
   have hls:=h2.ls
   have hl2:=h2.ld
   exact Gt _ 0 h2 (by omega) p2
  ·exact h
 split
 ·rw[qE]
  cases inR e.cr 0 (((n.aQ.length:Nat):Int)-1)
  ·exact h
  simp only[TF,cond_false]
  cases eqB e.aP 2
  ·simp only[cond_false]
   cases eqB e.aP 3
   ·simp only[cond_false]
    cases leB 200 ((n.aQ.length:Nat):Int)
    ·simp only[cond_false]
     cases hf:n.aQ[e.cr.toNat]? with
     |none=>exact h
     |some f=>exact h.send (h.fi f (RS hf))
    ·exact h
   ·exact(Lu h _).same rfl rfl rfl (fun f hf=>hf)
  ·exact GO hn h _
 split
 ·exact Q7 hn h e
 split
 ·rw[zR];cases !ew n.dW e.cr||booB (xa n e.cr) (eqB e.aP 10)
  ·exact h.same rfl rfl rfl (fun f hf=>hf)
  ·exact h
 split
 ·exact KE hn h _ _
 split
 ·rename_i h13
  rw[uM];cases hp:ur n e.bk
  ·exact h
  ·refine h.send fun d s hd hs=>?_
   rw[nO,h13,hp] at hh
   simp only[be,TF,Bool.false_or,Bool.or_eq_true,List.any_eq_true,decide_eq_true_eq] at hh
   rcases hh with⟨f,hf,rfl⟩|hh
   ·exact h.fi _ hf d s hd hs
   ·rw[Ma,hd,hs] at hh
    exact OM hh
 ·exact h
theorem QZ {m:aK} {rs:List aC} {p:bA} {b:Int} (hv:pw rs=true):PI (eZ m rs p b rs.length):=by
 refine⟨fun i d s a hd hs ha=>?_,fun f hf=>by simp[eZ] at hf⟩
 obtain⟨hk,rfl⟩:=vS hd
 obtain⟨_,rfl⟩:=vS hs
 obtain⟨_,rfl⟩:=vS ha
 simp only[pw,hV,eo] at hv
 have hr:=hv.1 i _ (v0 hk)
 simp only[xQ,hV] at hr
 have hq:=qq hr.1
 have hg:rs.getD i default=rs[i]:=Iu (v0 hk)
 refine⟨U5 _,?_,fun e=>?_,fun e=>?_,?_,fun e=>?_,fun e=>?_,?_,fun e=>?_,?_,?_,?_,?_,?_,?_⟩
 ·simp only[jp];rw[hg];exact hq.1
 ·simp[jp] at e
 ·simp[jp] at e
 ·simp only[jp];rw[hg];exact hq.1
 ·simp[jp] at e
 ·simp[jp] at e
 ·simp only[pD];rw[hg];exact hq.1
 ·simp[pD] at e
 ·simp[pD]
 ·simp[pD]
 ·simp[pD,jp]
 ·simp[jp]
 ·simp[gm,jp,pD]
 ·simp[gm,jp,uC,fX]
theorem Reach.pi:∀{k:Nat} {n:ab},Reach k n→k≤1000000→PI n
 |_,_,.new h hm hp hl _,_=>QZ h.2.2
 |_,_,.step h he hh,hk=>Lf (h.np (by omega)) (by omega) (h.pi (by omega)) he hh
end Go.AM
namespace Go.AM
open Go.Proofs
attribute [local simp] bz be bb
theorem Nj {a b:List Int} (ha:okB a) (hb:okB b):Cj a b=decide (a=b):=Jq ha hb
def Ds (d:ay) (s:ag):Bool:=decide (d.bi.aG<+:s.ao)
theorem MW {xs ys:List bw} (hx:∀p∈xs,okB p.aN) (hy:∀p∈ys,okB p.aN) (hl:xs.length≤1000):oJ xs ys=some (decide (xs<+:ys)):=by
 rw[oJ]
 cases hb:ltB ((ys.length:Nat):Int) ((xs.length:Nat):Int)
 ·have hb:=oF hb
  have:=ic (L:=kh xs ys) xs (fun k x=>decide (ys[k]?=some x)) (some true) (by omega) (fun k x hx' hk=>by
   obtain⟨y,hy'⟩:∃y,ys[k]?=some y:=⟨_,v0 (by omega)⟩
   simp only[kh,cR hk,bb,hx',hy',eqb_i,Nj (hx x (RS hx')) (hy y (RS hy')),Up,cond_true,cp (show k<9223372036854775807 by omega),dn]
   have e:decide (x.aN=y.aN)=decide (some y=some x):=by
    obtain⟨x⟩:=x;obtain⟨y⟩:=y
    simp only[Option.some.injEq,bw.mk.injEq]
    exact decide_eq_decide.2 ⟨Eq.symm,Eq.symm⟩
   rw[e]
   cases decide (some y=some x)<;>rfl) (by simp only[kh,bz,cond_false])
  rw[cond_false,this]
  have e:gB (fun k x=>decide (ys[k]?=some x)) xs=decide (xs<+:ys):=by
   rw[Bool.eq_iff_iff,eo,decide_eq_true_eq,List.prefix_iff_eq_take]
   constructor
   ·intro h
    apply List.ext_getElem?
    intro k
    by_cases hk:k<xs.length
    ·have:=h k _ (v0 hk)
     rw[decide_eq_true_eq] at this
     rw[R7,if_pos hk,this,v0 hk]
    ·rw[UR (by omega),UR (by simp;omega)]
   ·intro h k x hk
    rw[decide_eq_true_eq]
    have hlt:=(List.getElem?_eq_some_iff.1 hk).1
    rw[h,R7,if_pos hlt] at hk;exact hk
  rw[e];cases decide (xs<+:ys)<;>rfl
 ·have hb:=km hb
  have:¬xs<+:ys:=fun h=>by have:=h.length_le;omega
  rw[decide_eq_false this];rfl
theorem FB:∀(c k fu:Nat) (l:List bw) (v:Int),l.length≤1000→k+c=l.length→c<fu→0≤v→v+60*c≤1000000→(∀p∈l,p.aN.length≤60)→iter (gE l) fu (v,(k:Int))=some (v+((l.drop k).map fun p=>(p.aN.length:Int)).sum)
 |0,k,fu,l,v,h6,h1,h2,h3,h4,h5=>by
  cases fu with
  |zero=>omega
  |succ fu=>
   rw[iter]
   simp only[gE,ltB_f.2 (show((l.length:Nat):Int)≤(k:Int) by omega),cond_false]
   rw[List.drop_eq_nil_of_le (by omega)];simp
 |c+1,k,fu,l,v,h6,h1,h2,h3,h4,h5=>by
  cases fu with
  |zero=>omega
  |succ fu=>
   obtain⟨x,hx⟩:∃x,l[k]?=some x:=⟨_,v0 (by omega)⟩
   have hxl:=h5 x (RS hx)
   rw[iter]
   simp only[gE,cR (show k<l.length by omega),bb,hx,Up,cond_true,cp (show k<9223372036854775807 by omega),bB (n:=v+((x.aN.length:Nat):Int)) (by omega)]
   rw[FB c (k+1) fu l _ h6 (by omega) (by omega) (by omega) (by omega) h5,List.drop_eq_getElem_cons (show k<l.length by omega)]
   have:l[k]=x:=by have:=v0 (show k<l.length by omega);rw[hx] at this;exact(Option.some.inj this).symm
   rw[this];simp only[List.map_cons,List.sum_cons];congr 1;omega
theorem Ia {s:ag} (h:SP s) (k:Int):jg s k=some (fX s.ao k.toNat):=by
 have hl:=h.sl
 rw[jg,max_i]
 simp only[Up,min_i]
 obtain⟨m,hm,hm2,hm3⟩:∃m:Nat,lW (xc k 0) ((s.ao.length:Nat):Int)=(m:Int)∧m≤s.ao.length∧s.ao.take m=s.ao.take k.toNat:=by
  refine⟨min k.toNat s.ao.length,?_,Nat.min_le_right _ _,?_⟩
  ·unfold lW xc;split<;>split<;>omega
  ·rw[List.take_eq_take_min (i:=k.toNat)]
 rw[hm,show fw s.ao 0 (m:Int)=true by simp[fw];omega]
 simp only[cond_true,Us,pE]
 have:=FB (s.ao.take m).length 0 FU (s.ao.take m) 0 (by simp;omega) (by omega) (by have:=jC;simp;omega) (by omega) (by simp;omega) (fun p hp=>h.sd p (U6 hp))
 rw[show iter (gE (s.ao.take m)) FU (0,0)=_ from this]
 simp only[Up,List.drop_zero,fX,hm3];congr 1;omega
section
variable {B:Int} {n:ab} (h:NP B n) {i:Nat} {d:ay} {s:ag} {a:aj} (hd:n.ai[i]?=some d) (hs:n.am[i]?=some s) (ha:n.aY[i]?=some a)
include h hd hs ha
omit hs ha in
theorem ON:lh n (i:Int)=some true∧jN n (i:Int)=some true:=by
 have h1:=h.ls
 have h2:=h.la
 have h3:=h.ld
 have hi:=(List.getElem?_eq_some_iff.1 hd).1
 simp only[lh,jN,Mi,bB (n:=((n.ai.length:Nat):Int)-1) (by omega),bB (n:=((n.am.length:Nat):Int)-1) (by omega),bB (n:=((n.aY.length:Nat):Int)-1) (by omega),bp.2 (show(0:Int)≤(i:Int)∧(i:Int)≤((n.ai.length:Nat):Int)-1 by omega),bp.2 (show(0:Int)≤(i:Int)∧(i:Int)≤((n.am.length:Nat):Int)-1 by omega),bp.2 (show(0:Int)≤(i:Int)∧(i:Int)≤((n.aY.length:Nat):Int)-1 by omega),Up,cond_true]
 exact⟨trivial,trivial⟩
theorem O9:eD n (i:Int)=some (Ds d s):=by
 obtain⟨e1,e2⟩:=ON h hd
 have hm:=h.m i d s a hd hs ha
 have hr:=uR.1 hm.dp.rc.v
 simp only[eD,e1,bb,hd,hs,Up,cond_true,MW hm.dp.rc.b2 hm.sg.b1 (by have:=hr.l;omega),Ds]
theorem BD:fC n (i:Int)=some (a.d4+s.bO.dX):=by
 obtain⟨e1,e2⟩:=ON h hd
 have hm:=h.m i d s a hd hs ha
 have q1:=hm.sg.mo.acc.s
 have q2:=hm.sg.mo.acc.t
 have q3:=hm.sg.sp.q
 have q4:=q3.u
 have q5:=q3.g
 have q6:=q3.m
 simp only[fC,e2,bb,ha,hs,Up,TF,cond_false,bB (n:=a.d4+s.bO.dX) (by omega)]
theorem H4:eS s=some (gm s.an):=by
 have hm:=h.m i d s a hd hs ha
 have hn:=hm.sg.sp.win.n
 have hl:=hm.sg.sp.win.l
 rw[eS,bB (n:=s.an.bj-1) (by omega),bB (by omega)];rfl
theorem Q6:gr n (i:Int)=some (eqB (a.d4+s.bO.dX) (fX s.ao (gm s.an).toNat)):=by
 obtain⟨e1,e2⟩:=ON h hd
 have hm:=h.m i d s a hd hs ha
 simp only[gr,e2,BD h hd hs ha,H4 h hd hs ha,Ia hm.sg.sp,bb,hs,Up,TF,cond_false]
theorem PJ:eC n (i:Int)=some (leB (gm s.an) ((d.bi.aG.length:Nat):Int)):=by
 obtain⟨e1,e2⟩:=ON h hd
 simp only[eC,e1,H4 h hd hs ha,bb,hs,hd,Up,cond_true]
end
end Go.AM
namespace Go.AM
open Go.Proofs
attribute [local simp] bz be bb
def kindW (k:Int):Nat:=if k=1 then 4 else if k=2∨k=7 then 3 else if k=3∨k=5 then 2 else 1
def wf (f:bJ):Nat:=if f.di then 2 else kindW f.aV.aP
end Go.AM
namespace Go.AM
open Go.Proofs
attribute [local simp] bz be bb
theorem Ev {l:List bw}:∀{j k:Nat},j≤k→fX l j≤fX l k:=by
 intro j k h
 obtain⟨m,rfl⟩:∃m,k=j+m:=⟨k-j,by omega⟩
 clear h
 induction m with
 |zero=>exact U5 _
 |succ m ih=>
  refine Int.le_trans ih ?_
  rw[←Nat.add_assoc]
  by_cases hk:j+m<l.length
  ·rw[xI (v0 hk)];omega
  ·simp only[fX]
   rw[UD (by omega),UD (by omega)];exact U5 _
theorem Ho {a:aj} (ok:mJ a) (i:Int):gG a i≤qp a.aA:=by
 have h0:=kX ok.r
 rw[gG]
 cases hf:a.aA.find? (fun x=>eqB x.au i) with
 |none=>exact h0.1
 |some x=>
  simp only
  obtain⟨t,d,e⟩:=List.append_of_mem (List.mem_of_find?_eq_some hf)
  have hr:=ok.r
  rw[e] at hr ⊢
  have h1:=(kX (h:=t) fun y hy=>hr y (by simp[hy])).1
  have h2:=(kX (h:=d) fun y hy=>hr y (by simp[hy])).1
  rw[mh,sumR_cons];omega
structure Paid (d:ay) (s:ag) (a:aj):Prop where
 le:d.bi.aG.length≤s.ao.length
 eq:s.ao.take d.bi.aG.length=d.bi.aG
 ch:a.d4+s.bO.dX≤fX s.ao d.bi.aG.length
 to:a.d4+s.bO.dX≤a.eL
theorem paid {B:Int} {n:ab} (h:NP B n) (p:PI n) {i:Nat} {d:ay} {s:ag} {a:aj} (hd:n.ai[i]?=some d) (hs:n.am[i]?=some s) (ha:n.aY[i]?=some a):Paid d s a:=by
 have hm:=h.m i d s a hd hs ha
 have si:=p.si i d s a hd hs ha
 have hr:=uR.1 hm.dp.rc.v
 have hn:=hr.n
 have hak:=si.ak
 refine⟨si.pr.length_le,(List.prefix_iff_eq_take.1 si.pr).symm,?_,?_⟩
 ·rw[si.ch];exact Ev (by omega)
 ·have hq:=hm.sg.mo.quo
  have q1:=hq.g
  have hres:=hm.sg.mo.res
  have hacc:=hm.sg.mo.acc
  have he:=hacc.e
  have hv:=hacc.v
  have hle:=Ho hacc s.bO.au
  omega
end Go.AM
namespace Go.AM
open Go.Proofs
attribute [local simp] bz be bb
theorem Jn {xs:List Int} (hl:xs.length≤1048576) {m:Int} (hm:3≤m∧m≤900):∃r,wv xs m=some r∧3≤r∧r≤m:=by
 have h0:0≤Ve ((xs.length:Nat):Int) 12∧Ve ((xs.length:Nat):Int) 12≤1048576:=by
  rw[Int.tdiv_eq_ediv_of_nonneg (by omega)];omega
 rw[wv]
 rw[bB (n:=Ve ((xs.length:Nat):Int) 12) (by omega),bB (n:=3+Ve ((xs.length:Nat):Int) 12) (by omega)]
 cases hb:ltB m (3+Ve ((xs.length:Nat):Int) 12)
 ·have:=oF hb;exact⟨_,rfl,by omega,by omega⟩
 ·exact⟨m,rfl,by omega,U5 _⟩
structure K3 (n:ab):Prop where
 np:∃B:Int,NP B n∧B≤100000000
 pi:PI n
 dl:1≤n.ai.length∧n.ai.length≤3
 re:∃k,Reach k n∧k≤200
 ru:∃k,wQ k n∧k≤200
theorem RN.good {B l:Nat} {n:ab} (h:RN B l n) (hB:B≤200) (hl:1≤l∧l≤3):K3 n:=by
 obtain⟨k,h1,h2,h3⟩:=h
 exact⟨⟨_,h1.re.np (by omega),by omega⟩,h1.re.pi (by omega),by omega,⟨k,h1.re,by omega⟩,k,h1,by omega⟩
theorem wRunG {xs:List Int} (hl:xs.length≤1048576) (hu:∀x∈xs,sE x) {c:aH} (hc:cL c) {a m:Int} (ha:0≤a∧a≤90) (hm:3≤m∧m≤60) {r:Int} (hr:wv xs m=some r):
 Wp (wG c (WR (a+r))) (fun r=>cL r.2.2.2∧K3 r.1∧K3 r.2.2.1∧r.2.1.length≤1010∧∀e∈r.2.1,EP e):=by
 obtain⟨r',h1,h2,h3⟩:=Jn hl (m:=m) (by omega)
 rw[hr] at h1;cases h1
 rw[bB (n:=a+r) (by omega)]
 refine Wp.mono (RI hc (by omega)) fun x hx=>?_
 obtain⟨g1,l,g2,g3,g4,g5,g6⟩:=hx
 exact⟨g1,g3.good (by omega) g2,g4.good (by omega) g2,g5,g6⟩
theorem D9 {xs:List Int} (hl:xs.length≤1048576) (hu:∀x∈xs,sE x):Wp (m9 xs) K3:=by
 unfold m9
 obtain⟨c,e,hc,_⟩:=Q1 hl hu
 obtain⟨r,h1,_,_⟩:=Jn hl (m:=50) (by omega)
 refine Wp.eq e (Wp.eq h1 ?_)
 unfold s8
 exact Wp.call (P:=fun r=>K3 r.1) (Wp.call (wRunG hl hu hc (a:=40) (m:=50) (by omega) (by omega) h1) fun x hx=>Wp.some hx.2.2.1) fun x hx=>Wp.some hx
end Go.AM
namespace Go.AM
open Go.Proofs
attribute [local simp] bz be bb
end Go.AM
namespace Go.AM
open Go.Proofs
attribute [local simp] bz be bb
end Go.AM
namespace Go.AM
open Go.Proofs
attribute [local simp] bz be bb
end Go.AM
namespace Go.AM
open Go.Proofs
attribute [local simp] bz be bb
def Dy (r:aC) (g:Int):Int:=if g=0 then 0 else ul r g
def K5 (s:ag) (x:av):Prop:=uA s x∨tf (Dy s.bv x.aa) x=false
structure PR (n:ab):Prop where
 dz:∀d∈n.ai,d.aa=0→d.aJ=0
 sz:∀s∈n.am,s.aa=0→s.aJ=0
 rd:∀f∈n.aQ,f.di=true→f.eb=false∧∀s,n.am[f.a9.toNat]?=some s→K5 s f.b7
theorem uA.mo {d d':ay} {s s':ag} {x:av} (h:uA s x) (m:rG d s d' s'):uA s' x:=by
 obtain⟨k,g,e,b,q1,q2,q3,q4⟩:=h
 exact⟨k,g,e,b,q1,⟨q2.1,Int.lt_of_lt_of_le q2.2 m.wn⟩,yJ m.su q3,by rw[zJ m.ri m.rk];exact q4⟩
theorem K5.mo {d d':ay} {s s':ag} {x:av} (h:K5 s x) (m:rG d s d' s'):K5 s' x:=by
 rcases h with h|h
 ·exact .inl (h.mo m)
 ·right;rw[Dy,zJ m.ri m.rk];exact h
end Go.AM
namespace Go.AM
open Go.Proofs
attribute [local simp] bz be bb
def RF (n:ab) (f:bJ):Prop:=f.di=true→f.eb=false∧∀s,n.am[f.a9.toNat]?=some s→K5 s f.b7
theorem PR.send {n:ab} (h:PR n) {f:bJ} (hf:RF n f):PR (eF n f):=by
 rw[eF]
 cases leB 200 ((n.aQ.length:Nat):Int)
 ·refine⟨h.dz,h.sz,fun g hg=>?_⟩
  rcases List.mem_append.1 hg with hg|hg
  ·exact h.rd g hg
  ·simp at hg;subst hg;exact hf
 ·exact⟨h.dz,h.sz,h.rd⟩
theorem PR.sends:∀(l:List bJ) {n:ab},PR n→(∀f∈l,RF n f)→PR (sends n l)
 |[],n,h,_=>h
 |f::l,n,h,hf=>by
  have hk:=ko n f
  exact PR.sends l (h.send (hf f (by simp))) (fun g hg=>by unfold RF;rw[hk.2.1];exact hf g (by simp[hg]))
theorem PR.setM {n:ab} (h:PR n) {i:Nat} {d d':ay} {s s':ag} {a':aj} (hd:n.ai[i]?=some d) (hs:n.am[i]?=some s) (hm:rG d s d' s') (g1:0≤d.aa) (g2:0≤s.aa):
 PR {n with ai:=n.ai.set i d',am:=n.am.set i s',aY:=n.aY.set i a'}:=by
 refine⟨fun x hx e=>?_,fun x hx e=>?_,fun f hf h1=>⟨(h.rd f hf h1).1,fun x hx=>?_⟩⟩
 ·rcases U7 hx with hx|rfl
  ·exact h.dz x hx e
  ·rcases hm.dg with q|⟨q1,q2⟩
   ·omega
   ·rw[q2];exact h.dz d (RS hd) (by omega)
 ·rcases U7 hx with hx|rfl
  ·exact h.sz x hx e
  ·rcases hm.sg with q|⟨q1,q2⟩
   ·omega
   ·rw[q2];exact h.sz s (RS hs) (by omega)
 ·rcases ke hx with⟨e1,e2⟩|⟨e1,e2⟩
  ·subst e2;exact((h.rd f hf h1).2 s (by rw[←e1];exact hs)).mo hm
  ·exact(h.rd f hf h1).2 x e2
theorem DO (n:ab) (i:Int) (up:Bool) (m:az):RF n (hU i up m):=fun h=>by simp[hU] at h
section
variable {B:Int} {n:ab} (hn:NP B n) (h:PR n) {i:Nat} {d:ay} {s:ag} {a:aj} (hd:n.ai[i]?=some d) (hs:n.am[i]?=some s) (ha:n.aY[i]?=some a)
include hn h hd hs ha
theorem p4 {r:aS} (st:vf d s a r):PR (fL n i r):=by
 have hm:=hn.m i d s a hd hs ha
 have:=h.setM hd hs st.mo (a':=a) hm.dp.gn.1 hm.sg.sp.gn.1
 rw[dK hs,dK ha] at this
 exact PR.sends _ this fun f hf=>by obtain⟨m,_,rfl⟩:=List.mem_map.1 hf;exact DO _ _ _ _
theorem Kt {r:bH} (st:yh d s a r):PR (xg n i r):=by
 have hm:=hn.m i d s a hd hs ha
 have:=h.setM hd hs st.mo (a':=a) hm.dp.gn.1 hm.sg.sp.gn.1
 rw[dK hd,dK ha] at this
 exact PR.sends _ this fun f hf=>by obtain⟨m,_,rfl⟩:=List.mem_map.1 hf;exact DO _ _ _ _
theorem MX {t:bX} (st:TrS d s a t.aF t.dQ t.b7):PR (rx n i t):=by
 have hm:=hn.m i d s a hd hs ha
 have hi:=(List.getElem?_eq_some_iff.1 hs).1
 have:=h.setM hd hs st.mo (a':=t.dQ) hm.dp.gn.1 hm.sg.sp.gn.1
 rw[dK hd] at this
 have hpg:=PR.sends (t.iy.map (hU i false)) this fun f hf=>by obtain⟨m,_,rfl⟩:=List.mem_map.1 hf;exact DO _ _ _ _
 have hkeep:=gT (t.iy.map (hU i false)) {n with am:=n.am.set i t.aF,aY:=n.aY.set i t.dQ}
 refine PR.sends _ hpg fun f hf _=>?_
 obtain⟨m,hm',rfl⟩:=List.mem_map.1 hf
 refine⟨rfl,fun x hx=>?_⟩
 rw[hkeep.2.1] at hx
 simp only[sI,Us] at hx
 rw[show(n.am.set i t.aF)[i]?=some t.aF by simp[hi]] at hx;cases hx
 exact .inl (st.rd m hm')
end
theorem Lv {n:ab} (h:PR n) (k:Nat):PR (iN n k):=⟨h.dz,h.sz,fun f hf=>h.rd f (by
 simp only[iN,List.mem_append] at hf
 rcases hf with hf|hf
 ·exact U6 hf
 ·exact List.mem_of_mem_drop hf)⟩
theorem GP {B:Int} {n:ab} (hn:NP B n) (p:PI n) (h:PR n) (k:Nat):PR (iA n k):=by
 rw[iA]
 cases hf:n.aQ[k]? with
 |none=>exact h
 |some f=>
  have hfm:=RS hf
  have hp:=hn.fs f hfm
  have h1:=Lv h k
  have hn1:=yC hn k
  have hdd:=hp.d
  obtain⟨d,s,a,e1,e2,e3,hm⟩:=hn.at_ (i:=f.a9.toNat) (by omega)
  have hfi:=p.fi f hfm d s e1 e2
  have hsi:=p.si _ d s a e1 e2 e3
  have q1:(iN n k).ai[f.a9.toNat]?=some d:=e1
  have q2:(iN n k).am[f.a9.toNat]?=some s:=e2
  have q3:(iN n k).aY[f.a9.toNat]?=some a:=e3
  simp only
  cases xa (iN n k) f.aU
  ·exact⟨h1.dz,h1.sz,h1.rd⟩
  ·simp only[TF,cond_false,q1,q2]
   cases hu:f.eb
   ·simp only[cond_false]
    cases eqB d.aU f.aU
    ·exact⟨h1.dz,h1.sz,h1.rd⟩
    ·simp only[TF,cond_false]
     cases hr:f.di
     ·exact p4 hn1 h1 q1 q2 q3 (Ii hsi hm.key (qq hm.sg.sp.rcd).2 (fun e=>hfi.dn hu hr e))
     ·exact p4 hn1 h1 q1 q2 q3 (Ig hsi (uR.1 hm.dp.rc.v) hm.sg.sp hm.sg.b1 (hfi.rd hu hr))
   ·simp only[cond_true]
    cases hr:f.di||!eqB f.aV.aU f.aU
    ·simp only[cond_false]
     simp only[Bool.or_eq_false_iff] at hr
     exact Kt hn1 h1 q1 q2 q3 (F3 hsi hm.sg (fun e=>hfi.up hu hr.1 e))
    ·exact h1
end Go.AM
namespace Go.AM
open Go.Proofs
attribute [local simp] bz be bb
theorem Gr:∀(c i:Nat) {B:Int} {n:ab},NP B n→B+c<4611686018427387904→PI n→PR n→PR (js c i n)∧PI (js c i n)∧NP (B+c) (js c i n)
 |0,_,_,_,hn,_,p,h=>⟨h,p,by simpa [js] using hn⟩
 |c+1,i,B,n,hn,hB,p,h=>by
  rw[js]
  cases hd:n.ai[i]? with
  |none=>exact⟨h,p,hn.mono (by omega)⟩
  |some d=>
   obtain⟨d',s,a,e1,e2,e3,hm⟩:=hn.at_ (List.getElem?_eq_some_iff.1 hd).1
   rw[hd] at e1;cases e1
   have st:=EJ (p.si i d s a hd e2 e3)
   have ih:=Gr c (i+1) (iP hn hd (rU d) (vq hm.dp) hm.dc (by omega)) (by omega) (nz p hd e2 e3 st) (p4 hn h hd e2 e3 st)
   exact⟨ih.1,ih.2.1,ih.2.2.mono (by omega)⟩
theorem Gu:∀(c i:Nat) {B:Int} {n:ab},NP B n→B+2000*c<4611686018427387904→PI n→PR n→PR (pu c i n)
 |0,_,_,_,_,_,_,h=>h
 |c+1,i,B,n,hn,hB,p,h=>by
  rw[pu]
  cases hs:n.am[i]? with
  |none=>exact h
  |some s=>cases ha:n.aY[i]? with
   |none=>exact h
   |some a=>
    have hls:=hn.ls
    have hml:=kn hn.map
    obtain⟨d,s',a',e1,e2,e3,hm⟩:=hn.at_ (i:=i) (by have:=(List.getElem?_eq_some_iff.1 hs).1;omega)
    rw[hs] at e2;rw[ha] at e3;cases e2;cases e3
    have ht:=Ci (p.si i d s a e1 hs ha) hm.sg n.dW
    exact Gu c (i+1) (zY hn hs ha (wh hm.sg (by omega)) (At hm.sg hn.map) (by omega)) (by omega) (FF p e1 hs ha ht.1 ht.2) (MX hn h e1 hs ha ht.1)
theorem Q8 {B:Int} {n:ab} (hn:NP B n) (p:PI n) (h:PR n) (e:cX):PR (zS n e).2:=by
 rw[zS]
 cases inR e.cr 0 (((n.ai.length:Nat):Int)-1)
 ·exact h
 simp only[TF,cond_false]
 cases hd:n.ai[e.cr.toNat]? with
 |none=>exact h
 |some d=>
  obtain⟨d',s,a,e1,e2,e3,hm⟩:=hn.at_ (List.getElem?_eq_some_iff.1 hd).1
  rw[hd] at e1;cases e1
  have hsi:=p.si _ d s a hd e2 e3
  simp only[e2]
  cases eqB e.aP 5
  ·simp only[cond_false]
   cases eqB e.aP 6
   ·simp only[cond_false]
    cases eqB e.aP 7
    ·simp only[cond_false]
     cases(pL s e.aN).2
     ·exact h
     ·have st:=Ch hsi hm.sg e.aN
      have hm':=h.setM hd e2 st.mo (a':=a) hm.dp.gn.1 hm.sg.sp.gn.1
      rw[dK hd,dK e3] at hm'
      exact hm'
    ·simp only[cond_true]
     cases eqB d.bg 2
     ·exact h
     ·have st:=Ix hsi
      have hm':=h.setM hd e2 st.2 (a':=a) hm.dp.gn.1 hm.sg.sp.gn.1
      rw[dK e2,dK e3] at hm'
      exact hm'
   ·simp only[cond_true]
    cases eqB e.aU d.aU||!ew n.dW e.aU
    ·exact p4 hn h hd e2 e3 (EH hsi e.aU)
    ·exact h
  ·simp only[cond_true]
   cases eqB d.bg 0
   ·exact h
   ·exact p4 hn h hd e2 e3 (LD hsi)
theorem KF {B:Int} {n:ab} (hn:NP B n) (p:PI n) (h:PR n) (k:Int) (up:Bool):PR (lI n k up).2:=by
 rw[lI]
 cases !inR k 0 (n.dR.fH-1)||(booB (tc n.dR k) up||eqB (kQ n.dR k up).fj 0)
 ·simp only[cond_false]
  have hls:=hn.ls
  have key:∀(i:Nat) s',(rZ n.dR (kQ n.dR k up) n.am.length 0 n.am)[i]?=some s'→∃d s,n.am[i]?=some s∧rG d s d s'∧s'.aa=s.aa∧s'.aJ=s.aJ:=by
   intro i s' hs
   rcases lg n.dR (kQ n.dR k up) n.am.length 0 n.am i with q|⟨t,q1,q2⟩
   ·rw[q] at hs;exact⟨default,s',hs,rG.refl _ s',rfl,rfl⟩
   ·rw[q2] at hs;cases hs
    obtain⟨d,t',a,e1,e2,e3,hm⟩:=hn.at_ (i:=i) (by have:=(List.getElem?_eq_some_iff.1 q1).1;omega)
    rw[q1] at e2;cases e2
    exact⟨d,t,q1,(Ag (p.si i d t a e1 q1 e3) hm.sg).mo,rfl,rfl⟩
  refine⟨h.dz,fun s' hs' e=>?_,fun f hf h1=>⟨(h.rd f hf h1).1,fun s' hs'=>?_⟩⟩
  ·obtain⟨i,hi⟩:=List.getElem?_of_mem hs'
   obtain⟨d,s,q1,_,q2,q3⟩:=key i s' hi
   rw[q3];exact h.sz s (RS q1) (by omega)
  ·obtain⟨d,s,q1,q2,_⟩:=key _ s' hs'
   exact((h.rd f hf h1).2 s q1).mo q2
 ·exact h
end Go.AM
namespace Go.AM
open Go.Proofs
attribute [local simp] bz be bb
theorem PR.same {n n':ab} (h:PR n) (h1:n'.ai=n.ai) (h2:n'.am=n.am) (h4:∀f∈n'.aQ,f∈n.aQ):PR n':=
 ⟨by rw[h1];exact h.dz,by rw[h2];exact h.sz,fun f hf=>by rw[h2];exact h.rd f (h4 f hf)⟩
theorem Lg {B:Int} {n:ab} (hn:NP B n) (hB:B+10000<4611686018427387904) (p:PI n) (h:PR n) {e:cX} (hs:e.aP=13→RF n e.bk):PR (i9 n e).2:=by
 rw[i9]
 split
 ·rw[zT]
  cases hb:leB 100000 n.oD
  ·simp only[cond_false]
   have hb:=vG hb
   have hl:=hn.ld
   have hnw:=hn.nw
   have h1:NP B {n with oD:=n.oD+1}:={hn with nw:=by simp only;omega}
   have t:=Gr n.ai.length 0 h1 (by omega) (p.same rfl rfl rfl (fun f hf=>hf)) (h.same rfl rfl (fun f hf=>hf))
   have hls:=t.2.2.ls
   have hl2:=t.2.2.ld
   exact Gu _ 0 t.2.2 (by omega) t.2.1 t.1
  ·exact h
 split
 ·rw[qE]
  cases inR e.cr 0 (((n.aQ.length:Nat):Int)-1)
  ·exact h
  simp only[TF,cond_false]
  cases eqB e.aP 2
  ·simp only[cond_false]
   cases eqB e.aP 3
   ·simp only[cond_false]
    cases leB 200 ((n.aQ.length:Nat):Int)
    ·simp only[cond_false]
     cases hf:n.aQ[e.cr.toNat]? with
     |none=>exact h
     |some f=>exact h.send (h.rd f (RS hf))
    ·exact h
   ·exact(Lv h _).same rfl rfl (fun f hf=>hf)
  ·exact GP hn p h _
 split
 ·exact Q8 hn p h e
 split
 ·rw[zR];cases !ew n.dW e.cr||booB (xa n e.cr) (eqB e.aP 10)
  ·exact h.same rfl rfl (fun f hf=>hf)
  ·exact h
 split
 ·exact KF hn p h _ _
 split
 ·rename_i h13
  rw[uM];cases ur n e.bk
  ·exact h
  ·exact h.send (hs h13)
 ·exact h
theorem Q0 {m:aK} {rs:List aC} {p:bA} {b:Int}:PR (eZ m rs p b rs.length):=by
 refine⟨fun d hd _=>?_,fun s hs _=>?_,fun f hf=>by simp[eZ] at hf⟩
 ·simp only[eZ,TM] at hd;obtain⟨j,_,rfl⟩:=hd;rfl
 ·simp only[eZ,TM] at hs;obtain⟨j,_,rfl⟩:=hs;rfl
end Go.AM
namespace Go.AM
open Go.Proofs
attribute [local simp] bz be bb
theorem wQ.pr:∀{k:Nat} {n:ab},wQ k n→k≤1000000→PR n
 |_,_,.new _ _ _ _ _,_=>Q0
 |_,_,.step (k:=k) (n:=n) (e:=e) h he hh hf,hk=>by
  have hn:=h.re.np (by omega)
  have hp:=h.re.pi (by omega)
  have ih:=h.pr (by omega)
  refine Lg hn (by omega) hp ih fun h13 hr=>?_
  obtain⟨u,d,e1,e2,e3⟩:=hf h13 hr
  refine⟨u,fun s hs=>.inr ?_⟩
  obtain⟨d',s',a,q1,q2,q3,hm⟩:=hn.at_ (List.getElem?_eq_some_iff.1 e1).1
  rw[e1] at q1;cases q1;rw[hs] at q2;cases q2
  have si:=hp.si _ d s a e1 hs q3
  have hr:d.aJ=Dy s.bv d.aa:=by
   rw[Dy]
   split
   ·rename_i h0;exact ih.dz d (RS e1) h0
   ·exact si.dk (by have:=hm.dp.gn.1;omega)
  rw[e2,←hr];exact e3
section
variable {B:Int} {n:ab} (hn:NP B n) (p:PI n) (h:PR n) {i:Nat} {s:ag} (hs:n.am[i]?=some s)
include hn p h hs
end
end Go.AM
namespace Go.AM
open Go.Proofs
attribute [local simp] bz be bb
theorem Mh {x a b:Int}:inR x a b=false↔¬(a≤x∧x≤b):=by rw[←Bool.not_eq_true,bp]
theorem zH {α ρ:Type} {L:Int→Option (cB Int ρ)} (xs:List α) (f:ρ) {c:Option ρ} (hl:xs.length≤9223372036854775806)
 (hs:∀(k:Nat) (x:α),xs[k]?=some x→k<xs.length→L (k:Int)=some (.next ((k+1:Nat):Int))) (he:L ((xs.length:Nat):Int)=dn c):iter L FU 0=c:=by
 have:=lc (L:=L) xs (fun _ _=>true) f c hl (fun k x hx hk=>by rw[hs k x hx hk];rfl) he
 rw[this,wR];rfl
theorem Au {xs:List Int} (hl:xs.length≤1048576):qC xs xs=some true:=by
 simp only[qC,be,TF,cond_false]
 exact zH xs false (by omega) (fun k x hx hk=>by
  simp only[pG,cR hk,bb,hx,be,Up,cond_true,cond_false,TF,cp (show k<9223372036854775807 by omega)]) (by simp only[pG,bz,cond_false])
theorem wj {xs:List bw} (hl:xs.length≤1048576) (hd:∀p∈xs,p.aN.length≤1048576):lH xs xs=some true:=by
 simp only[lH,be,TF,cond_false]
 exact zH xs false (by omega) (fun k x hx hk=>by
  simp only[lj,cR hk,bb,hx,Au (hd x (RS hx)),Up,cond_true,cond_false,TF,cp (show k<9223372036854775807 by omega)]) (by simp only[lj,bz,cond_false])
end Go.AM
namespace Go.AM
open Go.Proofs
attribute [local simp] bz be bb
theorem OO {B:Int} {n:ab} (h:NP B n):fC n (-1)=some (-1)∧eD n ((n.ai.length:Nat):Int)=some false:=by
 have h1:=h.ls
 have h2:=h.la
 have h3:=h.ld
 constructor
 ·simp only[fC,jN,Mi,bB (n:=((n.am.length:Nat):Int)-1) (by omega),bB (n:=((n.aY.length:Nat):Int)-1) (by omega),Mh.2 (show ¬((0:Int)≤-1∧(-1:Int)≤((n.am.length:Nat):Int)-1) by omega),Mh.2 (show ¬((0:Int)≤-1∧(-1:Int)≤((n.aY.length:Nat):Int)-1) by omega),Up,cond_false,UO,cond_true]
 ·simp only[eD,lh,Mi,bB (n:=((n.am.length:Nat):Int)-1) (by omega),bB (n:=((n.ai.length:Nat):Int)-1) (by omega),Mh.2 (show ¬((0:Int)≤((n.ai.length:Nat):Int)∧((n.ai.length:Nat):Int)≤((n.ai.length:Nat):Int)-1) by omega),Up,cond_false,UO,cond_true]
theorem mB (xs:List Int) (hp:preL sE xs):f4 xs=some true:=by
 simp only[f4,QK,Up]
 cases hb:ltB 1048576 ((xs.length:Nat):Int) with
 |true=>rfl
 |false=>
  have hl:=oF hb
  obtain⟨n,hd,hg⟩:=(D9 (xs:=xs) (by omega) hp.2).ex
  obtain⟨B,hn,hB⟩:=hg.np
  have hld:=hn.ld
  simp only[cond_false,hd,Up]
  refine zH n.ai false (by omega) (fun k d hd hk=>?_) ?_
  ·obtain⟨d',s,a,e1,e2,e3,hm⟩:=hn.at_ hk
   rw[hd] at e1;cases e1
   have si:=hg.pi.si k d s a hd e2 e3
   have hpd:=paid hn hg.pi hd e2 e3
   have hr:=uR.1 hm.dp.rc.v
   have hak:=si.ak
   have hrn:=hr.n
   have hsl:=hm.sg.sp.sl
   have h1:Ds d s=true:=by simp only[Ds,decide_eq_true_eq];exact si.pr
   have h2:eqB (a.d4+s.bO.dX) (fX s.ao (gm s.an).toNat)=true:=eqB_t.2 si.ch
   have h3:leB (gm s.an) ((d.bi.aG.length:Nat):Int)=true:=leB_t.2 (by omega)
   have h4:fw s.ao 0 ((d.bi.aG.length:Nat):Int)=true:=by have:=hpd.le;simp[fw];omega
   have h5:=wj (xs:=d.bi.aG) (by have:=hpd.le;omega) (fun p hp=>by
    rw[←hpd.eq] at hp
    have:=hm.sg.sp.sd p (U6 hp);omega)
   have q1:=hm.sg.mo.acc.s
   have q2:=hm.sg.mo.acc.t
   have q4:=hm.sg.sp.q.u
   have q5:=hm.sg.sp.q.g
   have q6:=hm.sg.sp.q.m
   simp only[fm,cR hk,bb,hd,e2,e3,BD hn hd e2 e3,O9 hn hd e2 e3,Q6 hn hd e2 e3,PJ hn hd e2 e3,Ia hm.sg.sp,h1,h2,h3,h4,Us,hpd.eq,h5,ltB_f.2 (show((d.bi.aG.length:Nat):Int)≤((s.ao.length:Nat):Int) by have:=hpd.le;omega),bB (n:=a.d4+s.bO.dX) (by omega),ltB_f.2 hpd.ch,ltB_f.2 hpd.to,be,Up,cond_true,cond_false,TF,cp (show k<9223372036854775807 by omega)]
  ·have h:=OO hn
   simp only[fm,bz,cond_false,h.1,h.2,Up,be,cond_true,UO]
end Go.AM
