/- A part. -/
import Derived.Test.YtljhooecmjejiaaGreatP4
set_option linter.unusedVariables false
set_option linter.unusedSimpArgs false
open Option renaming bind_some→Vm,bind→Vj
open List renaming getElem?_eq_some_iff→Tm,mem_of_getElem?→Tn,getElem?_eq_getElem→v0,countP_le_length→Wa,isPrefixOf_iff_prefix→Wc,mem_or_eq_of_mem_set→V4,mem_map→Ur,countP_cons→Wb,length_singleton→VM,mem_append→TW,length_append→Ut,isPrefixOf→We,length_nil→Vp,length_set→Wg
open Bool renaming not_true→UY,and_eq_true→hV,eq_false_iff→UL,not_eq_true→Vf,or_eq_true→T8,eq_iff_iff→Vo,not_false→VN,false_and→Wh
open Int renaming toNat_natCast→Vn
open Nat renaming le_trans→U0
namespace Go.AM
open Go.Proofs
attribute [local simp] bE be a8
theorem PI.same {n n':ab} (h:PI n) (h1:n'.am=n.am) (h2:n'.ai=n.ai) (h3:n'.bh=n.bh) (h4:∀f∈n'.ay,f∈n.ay):PI n':=
 ⟨by rw[h1,h2,h3];exact h.si,fun f hf=>by rw[h1,h2];exact h.fi f (h4 f hf)⟩
theorem Sp {B:Int} {n:ab} (hn:NP B n) (h:PI n) (e:df):PI (AU n e).2:=by
 rw[AU]
 cases inR e.cB 0 (((n.am.length:Nat):Int)-1)
 ·exact h
 simp only[UY,cond_false]
 cases hd:n.am[e.cB.toNat]? with
 |none=>exact h
 |some d=>
  obtain⟨d',s,a,e1,e2,e3,hm⟩:=hn.at_ (Tm.1 hd).1
  rw[hd] at e1;cases e1
  have hsi:=h.si _ d s a hd e2 e3
  simp only[e2]
  cases eqB e.aR 5
  ·simp only[cond_false]
   cases eqB e.aR 6
   ·simp only[cond_false]
    cases eqB e.aR 7
    ·simp only[cond_false]
     cases(p8 s e.aQ).2
     ·exact h
     ·have st:=Dn hsi hm.sg e.aQ
      have hm':=h.setM hd e2 st.mo (a':=a) st.si
      rw[dP hd,dP e3] at hm'
      exact hm'
    ·simp only[cond_true]
     cases eqB d.bi 2
     ·exact h
     ·have st:=JK hsi
      have hm':=h.setM hd e2 st.2 (a':=a) st.1
      rw[dP e2,dP e3] at hm'
      exact hm'
   ·simp only[cond_true]
    cases eqB e.aX d.aX||!eL n.dZ e.aX
    ·exact nQ h hd e2 e3 (F2 hsi e.aX)
    ·exact h
  ·simp only[cond_true]
   cases eqB d.bi 0
   ·exact h
   ·exact nQ h hd e2 e3 (MM hsi)
theorem LT {B:Int} {n:ab} (hn:NP B n) (h:PI n) (k:Int) (up:Bool):PI (lV n k up).2:=by
 rw[lV]
 cases !inR k 0 (n.dY.fM-1)||(booB (tX n.dY k) up||eqB (lf n.dY k up).fA 0)
 ·simp only[cond_false]
  have key:∀(i:Nat) d s' a,n.am[i]?=some d→(sU n.dY (lf n.dY k up) n.ai.length 0 n.ai)[i]?=some s'→n.bh[i]?=some a→∃s,n.ai[i]?=some s∧SI d s' a∧sx d s d s':=by
   intro i d s' a hd hs ha
   rcases lB n.dY (lf n.dY k up) n.ai.length 0 n.ai i with q|⟨t,q1,q2⟩
   ·rw[q] at hs;exact⟨s',hs,h.si i d s' a hd hs ha,sx.refl d s'⟩
   ·rw[q2] at hs;cases hs
    have hm:=hn.m i d t a hd q1 ha
    have st:=Be (h.si i d t a hd q1 ha) hm.sg
    exact⟨t,q1,st.si,st.mo⟩
  refine⟨fun i d s' a hd hs ha=>?_,fun f hf d s' hd hs=>?_⟩
  ·obtain⟨s,_,g,_⟩:=key i d s' a hd hs ha;exact g
  ·obtain⟨d',t,a,e1,e2,e3,hm⟩:=hn.at_ (i:=f.aN.toNat) (Tm.1 hd).1
   obtain⟨s,g1,_,g2⟩:=key _ d s' a hd hs e3
   exact(h.fi f hf d s hd g1).mono g2
 ·exact h
theorem Mp {B:Int} {n:ab} (hn:NP B n) (hB:B+10000<4611686018427387904) (h:PI n) {e:df} (he:EP e) (hh:oh n e=true):PI (jo n e).2:=by
 rw[jo]
 split
 ·rw[AW]
  cases hb:leB 100000 n.oX
  ·simp only[cond_false]
   have hb:=wM hb
   have hl:=hn.ld
   have hnw:=hn.nw
   have h1:NP B {n with oX:=n.oX+1}:={hn with nw:=by simp only;omega}
   have p1:PI {n with oX:=n.oX+1}:=h.same rfl rfl rfl (fun f hf=>hf)
   have p2:=HE n.am.length 0 h1 (by omega) p1
   have hnp:∀(c i:Nat) {B:Int} {n:ab},NP B n→B+c<4611686018427387904→NP (B+c) (jK c i n):=by
    intro c
    induction c with
    |zero=>intro i B n hn _;simpa [jK] using hn
    |succ c ih=>
     intro i B n hn hB
     rw[jK]
     cases hd:n.am[i]? with
     |none=>exact hn.mono (by omega)
     |some d=>
      obtain⟨d',s,a,e1,e2,e3,hm⟩:=hn.at_ (Tm.1 hd).1
      rw[hd] at e1;cases e1
      exact(ih (i+1) (i8 hn hd (sO d) (wm hm.dp) hm.dc (by omega)) (by omega)).mono (by omega)
   have h2:=hnp n.am.length 0 h1 (by omega)
   have hls:=h2.ls
   have hl2:=h2.ld
   exact HH _ 0 h2 (by omega) p2
  ·exact h
 split
 ·rw[rj]
  cases inR e.cB 0 (((n.ay.length:Nat):Int)-1)
  ·exact h
  simp only[UY,cond_false]
  cases eqB e.aR 2
  ·simp only[cond_false]
   cases eqB e.aR 3
   ·simp only[cond_false]
    cases leB 200 ((n.ay.length:Nat):Int)
    ·simp only[cond_false]
     cases hf:n.ay[e.cB.toNat]? with
     |none=>exact h
     |some f=>exact h.send (h.fi f (Tn hf))
    ·exact h
   ·exact(MD h _).same rfl rfl rfl (fun f hf=>hf)
  ·exact H5 hn h _
 split
 ·exact Sp hn h e
 split
 ·rw[AT];cases !eL n.dZ e.cB||booB (xY n e.cB) (eqB e.aR 10)
  ·exact h.same rfl rfl rfl (fun f hf=>hf)
  ·exact h
 split
 ·exact LT hn h _ _
 split
 ·rename_i h13
  rw[vE];cases hp:vb n e.bk
  ·exact h
  ·refine h.send fun d s hd hs=>?_
   rw[oh,h13,hp] at hh
   simp only[be,UY,Bool.false_or,T8,List.any_eq_true,decide_eq_true_eq] at hh
   rcases hh with⟨f,hf,rfl⟩|hh
   ·exact h.fi _ hf d s hd hs
   ·rw[Nk,hd,hs] at hh
    exact P0 hh
 ·exact h
theorem Si {m:aM} {rs:List aC} {p:bB} {b:Int} (hv:pQ rs=true):PI (fr m rs p b rs.length):=by
 refine⟨fun i d s a hd hs ha=>?_,fun f hf=>by simp[fr] at hf⟩
 obtain⟨hk,rfl⟩:=wZ hd
 obtain⟨_,rfl⟩:=wZ hs
 obtain⟨_,rfl⟩:=wZ ha
 simp only[pQ,hV,eK] at hv
 have hr:=hv.1 i _ (v0 hk)
 simp only[yN,hV] at hr
 have hq:=qL hr.1
 have hg:rs.getD i default=rs[i]:=JI (v0 hk)
 refine⟨Int.le_refl _,?_,fun e=>?_,fun e=>?_,?_,fun e=>?_,fun e=>?_,?_,fun e=>?_,?_,?_,?_,?_,?_,?_⟩
 ·simp only[jH];rw[hg];exact hq.1
 ·simp[jH] at e
 ·simp[jH] at e
 ·simp only[jH];rw[hg];exact hq.1
 ·simp[jH] at e
 ·simp[jH] at e
 ·simp only[pY];rw[hg];exact hq.1
 ·simp[pY] at e
 ·simp[pY]
 ·simp[pY]
 ·simp[pY,jH]
 ·simp[jH]
 ·simp[iC,jH,pY]
 ·simp[iC,jH,vk,jT]
theorem Reach.pi:∀{k:Nat} {n:ab},Reach k n→k≤1000000→PI n
 |_,_,.new h hm hp hl _,_=>Si h.2.2
 |_,_,.step h he hh,hk=>Mp (h.np (by omega)) (by omega) (h.pi (by omega)) he hh
end Go.AM
namespace Go.AM
open Go.Proofs
attribute [local simp] bE be a8
section
variable {B:Int} {n:ab} (h:NP B n) {i:Nat} {d:az} {s:ag} {a:aj} (hd:n.am[i]?=some d) (hs:n.ai[i]?=some s) (ha:n.bh[i]?=some a)
include h hd hs ha
end
end Go.AM
namespace Go.AM
open Go.Proofs
attribute [local simp] bE be a8
def kindW (k:Int):Nat:=if k=1 then 4 else if k=2∨k=7 then 3 else if k=3∨k=5 then 2 else 1
def wf (f:bD):Nat:=if f.cq then 2 else kindW f.aY.aR
end Go.AM
namespace Go.AM
open Go.Proofs
attribute [local simp] bE be a8
structure Paid (d:az) (s:ag) (a:aj):Prop where
 le:d.bM.aS.length≤s.ax.length
 eq:s.ax.take d.bM.aS.length=d.bM.aS
 ch:a.eH+s.bW.er≤jT s.ax d.bM.aS.length
 to:a.eH+s.bW.er≤a.eZ
end Go.AM
namespace Go.AM
open Go.Proofs
attribute [local simp] bE be a8
structure Pp (n:ab):Prop where
 np:∃B:Int,NP B n∧B≤100000000
 pi:PI n
 dl:1≤n.am.length∧n.am.length≤3
 re:∃k,Reach k n∧k≤200
 ru:∃k,xJ k n∧k≤200
theorem RN.good {B l:Nat} {n:ab} (h:RN B l n) (hB:B≤200) (hl:1≤l∧l≤3):Pp n:=by
 obtain⟨k,h1,h2,h3⟩:=h
 exact⟨⟨_,h1.re.np (by omega),by omega⟩,h1.re.pi (by omega),by omega,⟨k,h1.re,by omega⟩,k,h1,by omega⟩
end Go.AM
namespace Go.AM
open Go.Proofs
attribute [local simp] bE be a8
end Go.AM
namespace Go.AM
open Go.Proofs
attribute [local simp] bE be a8
end Go.AM
namespace Go.AM
open Go.Proofs
attribute [local simp] bE be a8
end Go.AM
namespace Go.AM
open Go.Proofs
attribute [local simp] bE be a8
def vK (r:aC) (g:Int):Int:=if g=0 then 0 else u6 r g
def HU (s:ag) (x:ao):Prop:=uI s x∨nN (vK s.bv x.aa) x=false
structure PR (n:ab):Prop where
 dz:∀d∈n.am,d.aa=0→d.aK=0
 sz:∀s∈n.ai,s.aa=0→s.aK=0
 rd:∀f∈n.ay,f.cq=true→f.eh=false∧∀s,n.ai[f.aN.toNat]?=some s→HU s f.bC
theorem uI.mo {d d':az} {s s':ag} {x:ao} (h:uI s x) (m:sx d s d' s'):uI s' x:=by
 obtain⟨k,g,e,b,q1,q2,q3,q4⟩:=h
 exact⟨k,g,e,b,q1,⟨q2.1,Int.lt_of_lt_of_le q2.2 m.wn⟩,zJ m.su q3,by rw[AJ m.ri m.rk];exact q4⟩
theorem HU.mo {d d':az} {s s':ag} {x:ao} (h:HU s x) (m:sx d s d' s'):HU s' x:=by
 rcases h with h|h
 ·exact .inl (h.mo m)
 ·right;rw[vK,AJ m.ri m.rk];exact h
theorem HU.genuine {s:ag} {x:ao} (h:HU s x) (hv:nN (vK s.bv x.aa) x=true):uI s x:=by
 rcases h with h|h
 ·exact h
 ·rw[h] at hv;cases hv
end Go.AM
namespace Go.AM
open Go.Proofs
attribute [local simp] bE be a8
def RF (n:ab) (f:bD):Prop:=f.cq=true→f.eh=false∧∀s,n.ai[f.aN.toNat]?=some s→HU s f.bC
theorem PR.send {n:ab} (h:PR n) {f:bD} (hf:RF n f):PR (eO n f):=by
 rw[eO]
 cases leB 200 ((n.ay.length:Nat):Int)
 ·refine⟨h.dz,h.sz,fun g hg=>?_⟩
  rcases TW.1 hg with hg|hg
  ·exact h.rd g hg
  ·simp at hg;subst hg;exact hf
 ·exact⟨h.dz,h.sz,h.rd⟩
theorem PR.sends:∀(l:List bD) {n:ab},PR n→(∀f∈l,RF n f)→PR (sends n l)
 |[],n,h,_=>h
 |f::l,n,h,hf=>by
  have hk:=kC n f
  exact PR.sends l (h.send (hf f (by simp))) (fun g hg=>by unfold RF;rw[hk.2.1];exact hf g (by simp[hg]))
theorem PR.setM {n:ab} (h:PR n) {i:Nat} {d d':az} {s s':ag} {a':aj} (hd:n.am[i]?=some d) (hs:n.ai[i]?=some s) (hm:sx d s d' s') (g1:0≤d.aa) (g2:0≤s.aa):
 PR {n with am:=n.am.set i d',ai:=n.ai.set i s',bh:=n.bh.set i a'}:=by
 refine⟨fun x hx e=>?_,fun x hx e=>?_,fun f hf h1=>⟨(h.rd f hf h1).1,fun x hx=>?_⟩⟩
 ·rcases V4 hx with hx|rfl
  ·exact h.dz x hx e
  ·rcases hm.dg with q|⟨q1,q2⟩
   ·omega
   ·rw[q2];exact h.dz d (Tn hd) (by omega)
 ·rcases V4 hx with hx|rfl
  ·exact h.sz x hx e
  ·rcases hm.sg with q|⟨q1,q2⟩
   ·omega
   ·rw[q2];exact h.sz s (Tn hs) (by omega)
 ·rcases ky hx with⟨e1,e2⟩|⟨e1,e2⟩
  ·subst e2;exact((h.rd f hf h1).2 s (by rw[←e1];exact hs)).mo hm
  ·exact(h.rd f hf h1).2 x e2
theorem E9 (n:ab) (i:Int) (up:Bool) (m:aA):RF n (ia i up m):=fun h=>by simp[ia] at h
section
variable {B:Int} {n:ab} (hn:NP B n) (h:PR n) {i:Nat} {d:az} {s:ag} {a:aj} (hd:n.am[i]?=some d) (hs:n.ai[i]?=some s) (ha:n.bh[i]?=some a)
include hn h hd hs ha
theorem qt {r:aU} (st:wc d s a r):PR (fQ n i r):=by
 have hm:=hn.m i d s a hd hs ha
 have:=h.setM hd hs st.mo (a':=a) hm.dp.gn.1 hm.sg.sp.gn.1
 rw[dP hs,dP ha] at this
 exact PR.sends _ this fun f hf=>by obtain⟨m,_,rfl⟩:=Ur.1 hf;exact E9 _ _ _ _
theorem LG {r:bK} (st:y9 d s a r):PR (yd n i r):=by
 have hm:=hn.m i d s a hd hs ha
 have:=h.setM hd hs st.mo (a':=a) hm.dp.gn.1 hm.sg.sp.gn.1
 rw[dP hd,dP ha] at this
 exact PR.sends _ this fun f hf=>by obtain⟨m,_,rfl⟩:=Ur.1 hf;exact E9 _ _ _ _
theorem Oa {t:bY} (st:TrS d s a t.aJ t.dX t.bC):PR (sa n i t):=by
 have hm:=hn.m i d s a hd hs ha
 have hi:=(Tm.1 hs).1
 have:=h.setM hd hs st.mo (a':=t.dX) hm.dp.gn.1 hm.sg.sp.gn.1
 rw[dP hd] at this
 have hpg:=PR.sends (t.iB.map (ia i false)) this fun f hf=>by obtain⟨m,_,rfl⟩:=Ur.1 hf;exact E9 _ _ _ _
 have hkeep:=gS (t.iB.map (ia i false)) {n with ai:=n.ai.set i t.aJ,bh:=n.bh.set i t.dX}
 refine PR.sends _ hpg fun f hf _=>?_
 obtain⟨m,hm',rfl⟩:=Ur.1 hf
 refine⟨rfl,fun x hx=>?_⟩
 rw[hkeep.2.1] at hx
 simp only[tl,Vn] at hx
 rw[show(n.ai.set i t.aJ)[i]?=some t.aJ by simp[hi]] at hx;cases hx
 exact .inl (st.rd m hm')
end
theorem ME {n:ab} (h:PR n) (k:Nat):PR (iU n k):=⟨h.dz,h.sz,fun f hf=>h.rd f (by
 simp only[iU,TW] at hf
 rcases hf with hf|hf
 ·exact List.mem_of_mem_take hf
 ·exact List.mem_of_mem_drop hf)⟩
theorem H6 {B:Int} {n:ab} (hn:NP B n) (p:PI n) (h:PR n) (k:Nat):PR (iE n k):=by
 rw[iE]
 cases hf:n.ay[k]? with
 |none=>exact h
 |some f=>
  have hfm:=Tn hf
  have hp:=hn.fs f hfm
  have h1:=ME h k
  have hn1:=zy hn k
  have hdd:=hp.d
  obtain⟨d,s,a,e1,e2,e3,hm⟩:=hn.at_ (i:=f.aN.toNat) (by omega)
  have hfi:=p.fi f hfm d s e1 e2
  have hsi:=p.si _ d s a e1 e2 e3
  have q1:(iU n k).am[f.aN.toNat]?=some d:=e1
  have q2:(iU n k).ai[f.aN.toNat]?=some s:=e2
  have q3:(iU n k).bh[f.aN.toNat]?=some a:=e3
  simp only
  cases xY (iU n k) f.aX
  ·exact⟨h1.dz,h1.sz,h1.rd⟩
  ·simp only[UY,cond_false,q1,q2]
   cases hu:f.eh
   ·simp only[cond_false]
    cases eqB d.aX f.aX
    ·exact⟨h1.dz,h1.sz,h1.rd⟩
    ·simp only[UY,cond_false]
     cases hr:f.cq
     ·exact qt hn1 h1 q1 q2 q3 (Jw hsi hm.key (qL hm.sg.sp.rcd).2 (fun e=>hfi.dn hu hr e))
     ·exact qt hn1 h1 q1 q2 q3 (Ju hsi (EK.1 hm.dp.rc.v) hm.sg.sp hm.sg.b1 (hfi.rd hu hr))
   ·simp only[cond_true]
    cases hr:f.cq||!eqB f.aY.aX f.aX
    ·simp only[cond_false]
     simp only[Bool.or_eq_false_iff] at hr
     exact LG hn1 h1 q1 q2 q3 (Hg hsi hm.sg (fun e=>hfi.up hu hr.1 e))
    ·exact h1
end Go.AM
namespace Go.AM
open Go.Proofs
attribute [local simp] bE be a8
theorem HF:∀(c i:Nat) {B:Int} {n:ab},NP B n→B+c<4611686018427387904→PI n→PR n→PR (jK c i n)∧PI (jK c i n)∧NP (B+c) (jK c i n)
 |0,_,_,_,hn,_,p,h=>⟨h,p,by simpa [jK] using hn⟩
 |c+1,i,B,n,hn,hB,p,h=>by
  rw[jK]
  cases hd:n.am[i]? with
  |none=>exact⟨h,p,hn.mono (by omega)⟩
  |some d=>
   obtain⟨d',s,a,e1,e2,e3,hm⟩:=hn.at_ (Tm.1 hd).1
   rw[hd] at e1;cases e1
   have st:=F4 (p.si i d s a hd e2 e3)
   have ih:=HF c (i+1) (i8 hn hd (sO d) (wm hm.dp) hm.dc (by omega)) (by omega) (nQ p hd e2 e3 st) (qt hn h hd e2 e3 st)
   exact⟨ih.1,ih.2.1,ih.2.2.mono (by omega)⟩
theorem HI:∀(c i:Nat) {B:Int} {n:ab},NP B n→B+2000*c<4611686018427387904→PI n→PR n→PR (pP c i n)
 |0,_,_,_,_,_,_,h=>h
 |c+1,i,B,n,hn,hB,p,h=>by
  rw[pP]
  cases hs:n.ai[i]? with
  |none=>exact h
  |some s=>cases ha:n.bh[i]? with
   |none=>exact h
   |some a=>
    have hls:=hn.ls
    have hml:=kB hn.map
    obtain⟨d,s',a',e1,e2,e3,hm⟩:=hn.at_ (i:=i) (by have:=(Tm.1 hs).1;omega)
    rw[hs] at e2;rw[ha] at e3;cases e2;cases e3
    have ht:=Do (p.si i d s a e1 hs ha) hm.sg n.dZ
    exact HI c (i+1) (A1 hn hs ha (xj hm.sg (by omega)) (Br hm.sg hn.map) (by omega)) (by omega) (GU p e1 hs ha ht.1 ht.2) (Oa hn h e1 hs ha ht.1)
theorem Sq {B:Int} {n:ab} (hn:NP B n) (p:PI n) (h:PR n) (e:df):PR (AU n e).2:=by
 rw[AU]
 cases inR e.cB 0 (((n.am.length:Nat):Int)-1)
 ·exact h
 simp only[UY,cond_false]
 cases hd:n.am[e.cB.toNat]? with
 |none=>exact h
 |some d=>
  obtain⟨d',s,a,e1,e2,e3,hm⟩:=hn.at_ (Tm.1 hd).1
  rw[hd] at e1;cases e1
  have hsi:=p.si _ d s a hd e2 e3
  simp only[e2]
  cases eqB e.aR 5
  ·simp only[cond_false]
   cases eqB e.aR 6
   ·simp only[cond_false]
    cases eqB e.aR 7
    ·simp only[cond_false]
     cases(p8 s e.aQ).2
     ·exact h
     ·have st:=Dn hsi hm.sg e.aQ
      have hm':=h.setM hd e2 st.mo (a':=a) hm.dp.gn.1 hm.sg.sp.gn.1
      rw[dP hd,dP e3] at hm'
      exact hm'
    ·simp only[cond_true]
     cases eqB d.bi 2
     ·exact h
     ·have st:=JK hsi
      have hm':=h.setM hd e2 st.2 (a':=a) hm.dp.gn.1 hm.sg.sp.gn.1
      rw[dP e2,dP e3] at hm'
      exact hm'
   ·simp only[cond_true]
    cases eqB e.aX d.aX||!eL n.dZ e.aX
    ·exact qt hn h hd e2 e3 (F2 hsi e.aX)
    ·exact h
  ·simp only[cond_true]
   cases eqB d.bi 0
   ·exact h
   ·exact qt hn h hd e2 e3 (MM hsi)
theorem LU {B:Int} {n:ab} (hn:NP B n) (p:PI n) (h:PR n) (k:Int) (up:Bool):PR (lV n k up).2:=by
 rw[lV]
 cases !inR k 0 (n.dY.fM-1)||(booB (tX n.dY k) up||eqB (lf n.dY k up).fA 0)
 ·simp only[cond_false]
  have hls:=hn.ls
  have key:∀(i:Nat) s',(sU n.dY (lf n.dY k up) n.ai.length 0 n.ai)[i]?=some s'→∃d s,n.ai[i]?=some s∧sx d s d s'∧s'.aa=s.aa∧s'.aK=s.aK:=by
   intro i s' hs
   rcases lB n.dY (lf n.dY k up) n.ai.length 0 n.ai i with q|⟨t,q1,q2⟩
   ·rw[q] at hs;exact⟨default,s',hs,sx.refl _ s',rfl,rfl⟩
   ·rw[q2] at hs;cases hs
    obtain⟨d,t',a,e1,e2,e3,hm⟩:=hn.at_ (i:=i) (by have:=(Tm.1 q1).1;omega)
    rw[q1] at e2;cases e2
    exact⟨d,t,q1,(Be (p.si i d t a e1 q1 e3) hm.sg).mo,rfl,rfl⟩
  refine⟨h.dz,fun s' hs' e=>?_,fun f hf h1=>⟨(h.rd f hf h1).1,fun s' hs'=>?_⟩⟩
  ·obtain⟨i,hi⟩:=List.getElem?_of_mem hs'
   obtain⟨d,s,q1,_,q2,q3⟩:=key i s' hi
   rw[q3];exact h.sz s (Tn q1) (by omega)
  ·obtain⟨d,s,q1,q2,_⟩:=key _ s' hs'
   exact((h.rd f hf h1).2 s q1).mo q2
 ·exact h
end Go.AM
namespace Go.AM
open Go.Proofs
attribute [local simp] bE be a8
theorem PR.same {n n':ab} (h:PR n) (h1:n'.am=n.am) (h2:n'.ai=n.ai) (h4:∀f∈n'.ay,f∈n.ay):PR n':=
 ⟨by rw[h1];exact h.dz,by rw[h2];exact h.sz,fun f hf=>by rw[h2];exact h.rd f (h4 f hf)⟩
theorem Mq {B:Int} {n:ab} (hn:NP B n) (hB:B+10000<4611686018427387904) (p:PI n) (h:PR n) {e:df} (hs:e.aR=13→RF n e.bk):PR (jo n e).2:=by
 rw[jo]
 split
 ·rw[AW]
  cases hb:leB 100000 n.oX
  ·simp only[cond_false]
   have hb:=wM hb
   have hl:=hn.ld
   have hnw:=hn.nw
   have h1:NP B {n with oX:=n.oX+1}:={hn with nw:=by simp only;omega}
   have t:=HF n.am.length 0 h1 (by omega) (p.same rfl rfl rfl (fun f hf=>hf)) (h.same rfl rfl (fun f hf=>hf))
   have hls:=t.2.2.ls
   have hl2:=t.2.2.ld
   exact HI _ 0 t.2.2 (by omega) t.2.1 t.1
  ·exact h
 split
 ·rw[rj]
  cases inR e.cB 0 (((n.ay.length:Nat):Int)-1)
  ·exact h
  simp only[UY,cond_false]
  cases eqB e.aR 2
  ·simp only[cond_false]
   cases eqB e.aR 3
   ·simp only[cond_false]
    cases leB 200 ((n.ay.length:Nat):Int)
    ·simp only[cond_false]
     cases hf:n.ay[e.cB.toNat]? with
     |none=>exact h
     |some f=>exact h.send (h.rd f (Tn hf))
    ·exact h
   ·exact(ME h _).same rfl rfl (fun f hf=>hf)
  ·exact H6 hn p h _
 split
 ·exact Sq hn p h e
 split
 ·rw[AT];cases !eL n.dZ e.cB||booB (xY n e.cB) (eqB e.aR 10)
  ·exact h.same rfl rfl (fun f hf=>hf)
  ·exact h
 split
 ·exact LU hn p h _ _
 split
 ·rename_i h13
  rw[vE];cases vb n e.bk
  ·exact h
  ·exact h.send (hs h13)
 ·exact h
theorem Sj {m:aM} {rs:List aC} {p:bB} {b:Int}:PR (fr m rs p b rs.length):=by
 refine⟨fun d hd _=>?_,fun s hs _=>?_,fun f hf=>by simp[fr] at hf⟩
 ·simp only[fr,Ur] at hd;obtain⟨j,_,rfl⟩:=hd;rfl
 ·simp only[fr,Ur] at hs;obtain⟨j,_,rfl⟩:=hs;rfl
end Go.AM
namespace Go.AM
open Go.Proofs
attribute [local simp] bE be a8
theorem xJ.pr:∀{k:Nat} {n:ab},xJ k n→k≤1000000→PR n
 |_,_,.new _ _ _ _ _,_=>Sj
 |_,_,.step (k:=k) (n:=n) (e:=e) h he hh hf,hk=>by
  have hn:=h.re.np (by omega)
  have hp:=h.re.pi (by omega)
  have ih:=h.pr (by omega)
  refine Mq hn (by omega) hp ih fun h13 hr=>?_
  obtain⟨u,d,e1,e2,e3⟩:=hf h13 hr
  refine⟨u,fun s hs=>.inr ?_⟩
  obtain⟨d',s',a,q1,q2,q3,hm⟩:=hn.at_ (Tm.1 e1).1
  rw[e1] at q1;cases q1;rw[hs] at q2;cases q2
  have si:=hp.si _ d s a e1 hs q3
  have hr:d.aK=vK s.bv d.aa:=by
   rw[vK]
   split
   ·rename_i h0;exact ih.dz d (Tn e1) h0
   ·exact si.dk (by have:=hm.dp.gn.1;omega)
  rw[e2,←hr];exact e3
section
variable {B:Int} {n:ab} (hn:NP B n) (p:PI n) (h:PR n) {i:Nat} {s:ag} (hs:n.ai[i]?=some s)
include hn p h hs
theorem SA:s.aK=vK s.bv s.aa:=by
 have hls:=hn.ls
 have hi:=(Tm.1 hs).1
 obtain⟨d,s',a,e1,e2,e3,hm⟩:=hn.at_ (i:=i) (by omega)
 rw[hs] at e2;cases e2
 rw[vK]
 split
 ·rename_i h0;exact h.sz s (Tn hs) h0
 ·exact(p.si _ d s a e1 hs e3).sk (by have:=hm.sg.sp.gn.1;omega)
end
theorem eaves {B:Int} {n:ab} (hn:NP B n) (p:PI n) (h:PR n) {f:bD} (hf:f∈n.ay) (hr:f.cq=true) {s:ag} (hs:n.ai[f.aN.toNat]?=some s) (hg:s.aa=f.bC.aa) (hv:nN s.aK f.bC=true):
 ∃(k:Int) (b:List Int),(1≤k∧k≤s.ax.length)∧s.ax[(k-1).toNat]?=some ⟨b⟩∧f.bC.aT.em=k∧ko s.aK s.aa f.bC.aO f.bC=(⟨k,b⟩,true):=by
 have hls:=hn.ls
 have hi:=(Tm.1 hs).1
 obtain⟨d,s',a,e1,e2,e3,hm⟩:=hn.at_ (i:=f.aN.toNat) (by omega)
 rw[hs] at e2;cases e2
 have si:=p.si _ d s a e1 hs e3
 obtain⟨k,g,e,b,q0,q1,q2,q3⟩:=((h.rd f hf hr).2 s hs).genuine (by rw[←hg,←SA hn p h hs];exact hv)
 have hlt:=(Tm.1 q2).1
 have hsl:=hm.sg.sp.sl
 have hx:=Tn q2
 have hgg:s.aa=g:=by rw[hg,q3];rfl
 refine⟨k,b,⟨q1.1,by omega⟩,q2,by rw[q3];rfl,?_⟩
 rw[si.sk (by omega),hgg]
 have:f.bC.aO=e:=by rw[q3];rfl
 rw[this,q3]
 exact C6 (x:=⟨k,b⟩) q1.1 (by show k≤100000;omega) (hm.sg.b1 _ hx) (hm.sg.sp.sd _ hx) _ _ _
end Go.AM
namespace Go.AM
open Go.Proofs
attribute [local simp] bE be a8
theorem inR_f {x a b:Int}:inR x a b=false↔¬(a≤x∧x≤b):=by rw[←Vf,bu]
theorem Gu {α ρ:Type} {L:Int→Option (cp Int ρ)} (xs:List α) (f:ρ) {c:Option ρ} (hl:xs.length≤9223372036854775806)
 (hs:∀(k:Nat) (x:α),xs[k]?=some x→k<xs.length→L (k:Int)=some (.next ((k+1:Nat):Int))) (he:L ((xs.length:Nat):Int)=dn c):iter L FU 0=c:=by
 have:=lv (L:=L) xs (fun _ _=>true) f c hl (fun k x hx hk=>by rw[hs k x hx hk];rfl) he
 rw[this,xK];rfl
theorem Bs {xs:List Int} (hl:xs.length≤1048576):rf xs xs=some true:=by
 simp only[rf,be,UY,cond_false]
 exact Gu xs false (by omega) (fun k x hx hk=>by
  simp only[p4,cN hk,a8,hx,be,Vm,cond_true,cond_false,UY,cd (show k<9223372036854775807 by omega)]) (by simp only[p4,bE,cond_false])
end Go.AM
namespace Go.AM
open Go.Proofs
attribute [local simp] bE be a8
theorem Fv:∀(a b:List Int),a.length≤b.length→((a.zip b).all fun x=>eqB x.1 x.2)=a.isPrefixOf b
 |[],b,_=>by simp[We]
 |x::a,[],h=>by simp at h
 |x::a,y::b,h=>by
  rw[List.zip_cons_cons,List.all_cons,Fv a b (by simpa using h),We]
  congr 1
  by_cases e:x=y
  ·subst e;simp[eqB]
  ·rw[show eqB x y=false from by simp[eqB,e]];simp[e]
theorem RR {a b:List Int} (h:a.length≤1048576) (hl:a.length=b.length):fY a b=some (a.isPrefixOf b):=by
 unfold fY
 rw[show eqB ((a.length:Nat):Int) ((b.length:Nat):Int)=true from by simp[eqB,hl],←Fv a b (by omega)]
 simp only[UY,cond_false]
 have hz:(a.zip b).length=a.length:=by simp;omega
 refine FC (a.zip b) _ (by omega) (fun k x hx hk=>?_) (by rw[hz];simp[gk])
 have h1:k<a.length:=by omega
 have h2:k<b.length:=by omega
 have:x=(a[k],b[k]):=by rw[v0 hk] at hx;simpa using hx.symm
 subst this
 simp only[gk,cN h1,a8,v0 h1,v0 h2,cd (show k<9223372036854775807 by omega),Vm,cond_true]
 cases eqB a[k] b[k]<;>rfl
theorem Nu {p q:b8} (h:p.Steps.length≤1048576):lU p q=some (p.Steps.isPrefixOf q.Steps):=by
 unfold lU vy
 by_cases hl:p.Steps.length≤q.Steps.length
 ·rw[show leB ((p.Steps.length:Nat):Int) ((q.Steps.length:Nat):Int)=true from by simp[leB,hl]]
  rw[show fL q.Steps 0 ((p.Steps.length:Nat):Int)=true from by simp[fL,hl]]
  simp only[cond_true,Vn]
  rw[RR h (by simp;omega)]
  simp only[Vm]
  congr 1
  rw[Vo]
  simp only[Wc]
  constructor
  ·intro hp;exact hp.trans (List.take_prefix _ _)
  ·intro hp;rw[List.prefix_iff_eq_take] at hp;rw[←hp];exact List.prefix_rfl
 ·rw[show leB ((p.Steps.length:Nat):Int) ((q.Steps.length:Nat):Int)=false from by simp[leB];omega]
  simp only[cond_false,Vm]
  congr 1
  symm
  rw[UL]
  intro hp
  have:=List.IsPrefix.length_le (Wc.1 hp)
  omega
theorem OH {p q:b8} (h:p.Steps.length≤1048576):lY p q=some (p.Steps.isPrefixOf q.Steps):=by
 unfold lY
 by_cases hl:p.Steps.length≤q.Steps.length
 ·rw[show ltB ((q.Steps.length:Nat):Int) ((p.Steps.length:Nat):Int)=false from by simp[ltB];omega,←Fv _ _ hl]
  simp only[cond_false]
  have hz:(p.Steps.zip q.Steps).length=p.Steps.length:=by simp;omega
  refine FC (p.Steps.zip q.Steps) _ (by omega) (fun k x hx hk=>?_) (by rw[hz];simp[lM])
  have h1:k<p.Steps.length:=by omega
  have h2:k<q.Steps.length:=by omega
  have:x=(p.Steps[k],q.Steps[k]):=by rw[v0 hk] at hx;simpa using hx.symm
  subst this
  simp only[lM,cN h1,a8,v0 h1,v0 h2,cd (show k<9223372036854775807 by omega),Vm,cond_true]
  cases eqB p.Steps[k] q.Steps[k]<;>rfl
 ·rw[show ltB ((q.Steps.length:Nat):Int) ((p.Steps.length:Nat):Int)=true from by simp[ltB];omega]
  simp only[cond_true]
  congr 1
  symm
  rw[UL]
  intro hp
  have:=List.IsPrefix.length_le (Wc.1 hp)
  omega
def LK (xs:List bp):Prop:=xs.length≤10∧∀x∈xs,x.y8.Steps.length≤10
def Ga (g:Int) (q:b8) (x:bp):Bool:=eqB x.aa g&&x.y8.Steps.isPrefixOf q.Steps
theorem yH {xs:List bp} (h:LK xs) (g:Int) (q:b8):wF xs g q=some (xs.any (Ga g q)):=
 z2 xs (Ga g q) (by have:=h.1;omega) (fun k x hx hk=>by
  have hq:=h.2 x (Tn hx)
  have:=h.1
  simp only[s3,cN hk,a8,hx,cd (show k<9223372036854775807 by omega),Ga,Nu (show x.y8.Steps.length≤1048576 by omega),Vm,cond_true]
  cases eqB x.aa g<;>cases x.y8.Steps.isPrefixOf q.Steps<;>rfl) (by simp[s3])
theorem yP {xs:List bp} (h:LK xs) (g:Int) (q:b8):tv xs g q=some (xs.any (Ga g q)):=
 z2 xs (Ga g q) (by have:=h.1;omega) (fun k x hx hk=>by
  have hq:=h.2 x (Tn hx)
  have:=h.1
  simp only[tw,cN hk,a8,hx,cd (show k<9223372036854775807 by omega),Ga,OH (show x.y8.Steps.length≤1048576 by omega),Vm,cond_true]
  cases eqB x.aa g<;>cases x.y8.Steps.isPrefixOf q.Steps<;>rfl) (by simp[tw])
def Gb (l:List bp) (x:ao):Bool:=l.any (Ga x.aa ⟨[1,3,x.aO]⟩)
theorem A3 {l:List bp} (h:LK l) (x:ao):mj l x=some (Gb l x):=by
 simp only[mj,jw,yH h,Vm,Gb]
theorem wNode {c:aE} (h:cz c):Wp (zS c) (fun r=>cz r.2∧r.1.Steps.length≤10):=by
 unfold zS
 refine Wp.call (c9 h (by omega)) fun r1 h1=>?_
 refine Wp.call (P:=fun x=>cz x.2∧x.1.length≤10) ?_ fun x hx=>Wp.some hx
 refine Wp.iterF (fun x=>(0≤x.1∧x.1+(x.2.1.length:Int)≤5)∧cz x.2.2) (fun x=>x.1.toNat) ⟨⟨by simp only;omega,by simp only[Vp];omega⟩,h1.1⟩ (by simp only;omega) ?_
 rintro⟨v2,v6,v7⟩ ⟨⟨i0,i1⟩,i2⟩
 simp only at i0 i1 i2
 simp only[BM]
 refine Wp.cond (fun hb=>?_) (fun hb=>Wp.some ⟨i2,by show v6.length≤10;omega⟩)
 have hb:=im hb
 refine Wp.call (c9 i2 (by omega)) fun r14 h14=>Wp.ok (eG (by simp;omega) (by simp;omega)) (Wp.some ⟨⟨⟨?_,?_⟩,h14.1⟩,?_⟩)
 all_goals simp only[bG (show-9223372036854775808≤v2-1∧v2-1≤9223372036854775807 by omega)]
 ·omega
 ·simp only[Ut,VM];omega
 ·omega
theorem Tg {c:aE} (h:cz c):Wp (uy c) (fun r=>cz r.2∧LK r.1):=by
 unfold uy
 refine Wp.call (c9 h (by omega)) fun r1 h1=>?_
 refine Wp.call (P:=fun x=>cz x.2∧LK x.1) ?_ fun x hx=>Wp.some hx
 refine Wp.iterF (fun x=>(0≤x.1∧x.1+(x.2.1.length:Int)≤4)∧(∀y∈x.2.1,y.y8.Steps.length≤10)∧cz x.2.2) (fun x=>x.1.toNat) ⟨⟨by simp only;omega,by simp only[Vp];omega⟩,by simp,h1.1⟩ (by simp only;omega) ?_
 rintro⟨v2,v6,v7⟩ ⟨⟨i0,i1⟩,i3,i2⟩
 simp only at i0 i1 i2 i3
 simp only[xD]
 refine Wp.cond (fun hb=>?_) (fun hb=>Wp.some ⟨i2,by show v6.length≤10;omega,i3⟩)
 have hb:=im hb
 refine Wp.call (c9 i2 (by omega)) fun r35 h35=>?_
 refine Wp.call (P:=fun x=>x.1.length≤10∧cz x.2) ?_ fun x hx=>?_
 ·refine Wp.cond (fun _=>?_) (fun _=>?_)
  ·simp only[ge,Vm];exact Wp.some ⟨by simp,h35.1⟩
  ·refine Wp.call (P:=fun _=>True) (Wp.cond (fun _=>Wp.some trivial) (fun _=>Wp.some trivial)) fun b _=>?_
   refine Wp.call (P:=fun x=>x.1.length≤10∧cz x.2) ?_ fun x hx=>Wp.some hx
   refine Wp.cond (fun _=>Wp.call (c9 h35.1 (by omega)) fun r48 h48=>?_) (fun _=>?_)
   ·simp only[eJ,Vm];exact Wp.some ⟨by simp,h48.1⟩
   ·refine Wp.call (P:=fun x=>x.1.length≤10∧cz x.2) ?_ fun x hx=>Wp.some hx
    refine Wp.cond (fun _=>Wp.call (wNode h35.1) fun r55 h55=>Wp.some ⟨h55.2,h55.1⟩) (fun _=>Wp.some ⟨by simp,h35.1⟩)
 ·obtain⟨v39,v40⟩:=x
  refine Wp.call (c9 hx.2 (by omega)) fun r56 h56=>Wp.ok (eG (by simp;omega) (by simp;omega)) (Wp.some ⟨⟨⟨?_,?_⟩,fun y hy=>?_,h56.1⟩,?_⟩)
  rotate_left 2
  ·rcases TW.1 hy with hy|hy
   ·exact i3 y hy
   ·simp at hy;subst hy;exact hx.1
  all_goals simp only[bG (show-9223372036854775808≤v2-1∧v2-1≤9223372036854775807 by omega)]
  ·omega
  ·omega
  ·simp only[Ut,VM];omega
theorem wLN {c:aE} (h:cz c):Wp (pL c) (fun r=>Pp r.1∧LK r.2.1):=by
 unfold pL
 have hN:Wp (pI c 40) (fun r=>cz r.2∧Pp r.1):=by
  unfold pI
  exact Wp.call (Tc h (by omega)) fun x hx=>by
   obtain⟨g1,l,g2,g3,g4,g5⟩:=hx
   exact Wp.some ⟨g1,g4.good (by decide) g2⟩
 refine Wp.call hN fun r1 h1=>Wp.call (Tg h1.1) fun r2 h2=>?_
 refine Wp.call (P:=fun x=>LK x.1) ?_ fun x hx=>Wp.some ⟨h1.2,hx⟩
 have h10:=h2.2.1
 refine Wp.iterF (fun x=>(0≤x.1∧x.1≤(r2.1.length:Int))∧LK x.2.1∧x.2.1.length=r2.1.length∧cz x.2.2) (fun x=>((r2.1.length:Int)-x.1).toNat) ⟨⟨by simp only;omega,by simp only;omega⟩,h2.2,rfl,h2.1⟩ (by simp only;omega) ?_
 rintro⟨v3,v7,v8⟩ ⟨⟨i0,i1⟩,i2,i3,i4⟩
 simp only at i0 i1 i2 i3 i4
 simp only[tW]
 refine Wp.cond (fun hb=>?_) (fun hb=>Wp.some i2)
 have hb:=im hb
 obtain⟨k,rfl⟩:∃k:Nat,v3=k:=⟨v3.toNat,by omega⟩
 refine Wp.call (P:=fun x=>cz x.2∧(x.1=true→0<r1.1.ai.length)) ?_ fun x hx=>?_
 ·refine Wp.cond (fun hc=>?_) (fun _=>Wp.some ⟨i4,fun h=>by cases h⟩)
  have hc:=im hc
  exact Wp.call (sv i4 (by omega)) fun r33 h33=>Wp.some ⟨h33,fun _=>by omega⟩
 obtain⟨v28,v32⟩:=x
 simp only at hx
 refine Wp.call (P:=fun x=>LK x.1∧x.1.length=r2.1.length∧cz x.2) ?_ fun x hx=>Wp.some ⟨⟨⟨?_,?_⟩,hx⟩,?_⟩
 ·refine Wp.cond (fun hc=>?_) (fun _=>Wp.some ⟨i2,i3,hx.1⟩)
  have hc:=hx.2 hc
  refine Wp.call (c9 hx.1 (by omega)) fun r39 h39=>?_
  obtain⟨j,hj⟩:∃j:Nat,r39.1=j:=⟨r39.1.toNat,by omega⟩
  obtain⟨s,hs⟩:∃s,r1.1.ai[j]?=some s:=⟨_,v0 (by omega)⟩
  obtain⟨y,hy⟩:∃y,v7[k]?=some y:=⟨_,v0 (by omega)⟩
  simp only[hj,a8,hs,hy,Vm,Vn]
  refine Wp.some ⟨⟨by simp only[Wg];omega,fun z hz=>?_⟩,by simp only[Wg];exact i3,h39.1⟩
  rcases V4 hz with hz|rfl
  ·exact i2.2 z hz
  ·exact i2.2 y (Tn hy)
 all_goals simp only[bG (show-9223372036854775808≤(k:Int)+1∧(k:Int)+1≤9223372036854775807 by omega)]
 ·omega
 ·omega
 ·omega
theorem I9 {xs:List Int} (hl:xs.length≤1048576) (hu:∀x∈xs,uQ x):Wp (rv xs) (fun r=>Pp r.1∧LK r.2):=by
 unfold rv
 obtain⟨c,e,hc,_⟩:=Sk hl hu
 exact Wp.eq e (Wp.call (wLN hc) fun x hx=>Wp.some hx)
end Go.AM
namespace Go.AM
open Go.Proofs
attribute [local simp] bE be a8
def rdQ (l:List bp) (f:bD):Bool:=f.cq&&Gb l f.bC
theorem Aj {α:Type} (p q r:α→Bool) (h:∀x,(bif r x then 1 else 0:Nat)=(bif p x then 1 else 0)+(bif q x then 1 else 0)):∀xs:List α,xs.countP r=xs.countP p+xs.countP q
 |[]=>rfl
 |x::xs=>by
  have hx:=h x
  rw[Wb,Wb,Wb,Aj p q r h xs]
  revert hx;cases p x<;>cases q x<;>cases r x<;>simp<;>omega
def Pz (n:ab) (l:List bp) (d:Int):Nat:=n.ay.countP fun f=>eqB f.aN d&&rdQ l f
def MB (n:ab) (l:List bp) (d:Int):Nat:=n.ay.countP fun f=>ltB f.aN d&&rdQ l f
theorem K0 (n:ab) (l:List bp) (d:Int):MB n l (d+1)=MB n l d+Pz n l d:=by
 refine Aj _ _ _ (fun f=>?_) _
 have h1:ltB f.aN (d+1)=(ltB f.aN d||eqB f.aN d):=by
  rw[Vo];simp only[ltB_t,T8,eqB_t];omega
 rw[h1]
 cases rdQ l f<;>cases h2:ltB f.aN d<;>cases h3:eqB f.aN d<;>try rfl
 have:=im h2;have:=lA h3;omega
theorem L8 {n:ab} (hfl:n.ay.length≤200) {l:List bp} (hl:LK l) (d:Int):
 Wp (iZ n l d) (fun r=>r.length=Pz n l d∧∀e∈r,∃(j:Nat) (f:bD),e=(j:Int)∧n.ay[j]?=some f∧f.cq=true∧f.aN=d):=by
 unfold iZ
 refine Wp.call (P:=fun r=>r.length=Pz n l d∧∀e∈r,∃(j:Nat) (f:bD),e=(j:Int)∧n.ay[j]?=some f∧f.cq=true∧f.aN=d) ?_ fun x hx=>Wp.some hx
 refine Wp.iterF (fun x=>(0≤x.1∧x.1≤(n.ay.length:Int))∧x.2.length=(n.ay.take x.1.toNat).countP (fun f=>eqB f.aN d&&rdQ l f)∧∀e∈x.2,∃(j:Nat) (f:bD),e=(j:Int)∧n.ay[j]?=some f∧f.cq=true∧f.aN=d) (fun x=>((n.ay.length:Int)-x.1).toNat) ⟨⟨by simp only;omega,by simp only;omega⟩,by simp,by simp⟩ (by simp only;omega) ?_
 rintro⟨v1,v2⟩ ⟨⟨i0,i1⟩,i2,i3⟩
 simp only at i0 i1 i2 i3
 obtain⟨k,rfl⟩:∃k:Nat,v1=k:=⟨v1.toNat,by omega⟩
 rw[Vn] at i2
 have hle:v2.length≤200:=by rw[i2];exact U0 (Wa ..) (by rw[List.length_take];omega)
 simp only[mW]
 refine Wp.cond (fun hb=>?_) (fun hb=>Wp.some ⟨?_,i3⟩)
 rotate_left
 ·have hb:=nn hb
  rw[i2,List.take_of_length_le (by omega)];rfl
 have hb:=im hb
 obtain⟨f,hf⟩:∃f,n.ay[k]?=some f:=⟨_,v0 (by omega)⟩
 simp only[a8,hf,A3 hl,Vm]
 have hw:WR ((k:Int)+1)=((k+1:Nat):Int):=cd (by omega)
 have htk:(n.ay.take (k+1)).countP (fun f=>eqB f.aN d&&rdQ l f)=(n.ay.take k).countP (fun f=>eqB f.aN d&&rdQ l f)+(bif eqB f.aN d&&rdQ l f then 1 else 0):=by
  rw[List.take_add_one,hf,List.countP_append]
  congr 1
 have hq:(Vj (bif eqB f.aN d then(bif f.cq then(some (Gb l f.bC)) else(some false)) else(some false)) fun(v9:Bool)=>Vj (bif v9 then(bif cM 8 (v2++[(k:Int)]).length then(some (v2++[(k:Int)])) else none) else(some v2)) fun(v11:List Int)=>some (cp.next (ρ:=List Int) (WR ((k:Int)+1),v11)))=some (.next (((k+1:Nat):Int),bif eqB f.aN d&&rdQ l f then v2++[(k:Int)] else v2)):=by
  rw[hw,eG (by simp;omega) (by simp;omega),rdQ]
  cases eqB f.aN d<;>cases f.cq<;>cases Gb l f.bC<;>rfl
 rw[hq]
 refine Wp.some ⟨⟨⟨by simp only;omega,by simp only;omega⟩,?_,?_⟩,?_⟩
 ·simp only[Vn]
  rw[htk]
  cases eqB f.aN d&&rdQ l f
  ·simpa using i2
  ·simp only[cond_true,Ut,VM];omega
 ·intro e he
  simp only at he
  cases hc:eqB f.aN d&&rdQ l f
  ·rw[hc] at he;exact i3 e he
  ·rw[hc] at he
   simp only[cond_true,TW,List.mem_singleton] at he
   rcases he with he|rfl
   ·exact i3 e he
   ·simp only[rdQ,hV] at hc
    exact⟨k,f,rfl,hf,hc.2.1,lA hc.1⟩
 ·simp only;omega
theorem eav_i {B:Int} {n:ab} (h:NP B n) {l:List bp} (hl:LK l) {k:Nat} {f:bD} (hf:n.ay[k]?=some f) {s:ag} (hs:n.ai[f.aN.toNat]?=some s):
 jV n l (k:Int)=some (bif rdQ l f&&(ko s.aK s.aa f.bC.aO f.bC).2 then((ko s.aK s.aa f.bC.aO f.bC).1.aQ,true) else([],false)):=by
 have hfl:=h.fl
 have hls:=h.ls
 have hld:=h.ld
 have hp:=h.fs f (Tn hf)
 have hd:=hp.d
 have hlt:=(Tm.1 hf).1
 have hix:ix n.ai f.aN=some s:=by rw[D6 f.aN (by omega),a8];exact hs
 have hin:inR f.aN 0 (((n.ai.length:Nat):Int)-1)=true:=bu.2 (by omega)
 simp only[jV,Rd,bG (n:=((n.ay.length:Nat):Int)-1) (by omega),bG (n:=((n.ai.length:Nat):Int)-1) (by omega),bu.2 (show(0:Int)≤(k:Int)∧(k:Int)≤((n.ay.length:Nat):Int)-1 by omega),a8,hf,hin,hix,A3 hl,(C5 hp.b _ _ _).1,Vm,UY,cond_false,rdQ]
 cases f.cq<;>cases Gb l f.bC<;>cases(ko s.aK s.aa f.bC.aO f.bC).2<;>rfl
theorem PQ {B:Int} {n:ab} (h:NP B n) (l:List bp):jV n l ((n.ay.length:Nat):Int)=some ([],false):=by
 have hfl:=h.fl
 simp only[jV,Rd,bG (n:=((n.ay.length:Nat):Int)-1) (by omega),inR_f.2 (show ¬((0:Int)≤((n.ay.length:Nat):Int)∧((n.ay.length:Nat):Int)≤((n.ay.length:Nat):Int)-1) by omega),Vm,VN,cond_true]
theorem uN (xs:List Int) (hp:preL uQ xs):lE xs=some true:=by
 simp only[lE,RY,Vm]
 cases hb:ltB 1048576 ((xs.length:Nat):Int) with
 |true=>rfl
 |false=>
  have hl:=nn hb
  obtain⟨⟨n,l⟩,hd,hg,hk⟩:=(I9 (xs:=xs) (by omega) hp.2).ex
  simp only at hg hk
  obtain⟨B,hn,hB⟩:=hg.np
  obtain⟨kk,hru,hkk⟩:=hg.ru
  have hgood:=hg.pi
  have hpr:=hru.pr (by omega)
  have hld:=hn.ld
  have hls:=hn.ls
  have hfl:=hn.fl
  simp only[cond_false,hd,Vm]
  have hfin:Wp (iter (jn (n,l)) FU (0,0)) (fun r=>r=true):=by
   refine Wp.iterF (fun x=>(0≤x.2∧x.2≤(n.am.length:Int))∧x.1=(MB n l x.2:Int)) (fun x=>((n.am.length:Int)-x.2).toNat) ⟨⟨by simp only;omega,by simp only;omega⟩,?_⟩ (by simp only;omega) ?_
   ·simp only[MB]
    rw[show n.ay.countP (fun f=>ltB f.aN 0&&rdQ l f)=0 from ?_]
    ·rfl
    ·rw[List.countP_eq_zero]
     intro f hf
     have:=(hn.fs f hf).d
     rw[ltB_f.2 (show(0:Int)≤f.aN by omega)];simp
   rintro⟨v3,v4⟩ ⟨⟨i0,i1⟩,i2⟩
   simp only at i0 i1 i2
   have hle:∀d,MB n l d≤200∧Pz n l d≤200:=fun d=>⟨U0 (Wa ..) hfl,U0 (Wa ..) hfl⟩
   simp only[jn]
   refine Wp.cond (fun hb=>?_) (fun hb=>?_)
   ·have hb:=im hb
    obtain⟨r5,h5,h51,h52⟩:=(L8 hfl hk v4).ex
    rw[h5]
    simp only[Vm]
    have e2:iter (gr (n,l) v3 v4 r5) FU 0=some (.next (WR (v3+((r5.length:Nat):Int)),WR (v4+1))):=by
     refine Gu r5 (.done false) (by have:=(hle v4).2;omega) (fun j e he hj=>?_) (by simp only[gr,bE,cond_false])
     obtain⟨q,f,rfl,q2,q3,q4⟩:=h52 e (Tn he)
     have hq:=(Tm.1 q2).1
     simp only[gr,cN hj,a8,he,q2,q3,q4,ltB_f.2 (show(0:Int)≤(q:Int) by omega),leB_f.2 (show(q:Int)<((n.ay.length:Nat):Int) by omega),be,Vm,cond_true,cond_false,UY,cd (show j<9223372036854775807 by have:=(hle v4).2;omega)]
    rw[e2]
    have h2:=hle v4
    refine Wp.some ⟨⟨⟨?_,?_⟩,?_⟩,?_⟩
    all_goals simp only[bG (show-9223372036854775808≤v4+1∧v4+1≤9223372036854775807 by omega),bG (show-9223372036854775808≤v3+((r5.length:Nat):Int)∧v3+((r5.length:Nat):Int)≤9223372036854775807 by omega)]
    ·omega
    ·omega
    ·rw[K0,i2,h51];omega
    ·omega
   ·have hb:=nn hb
    refine Wp.dn ?_
    have hv:v3=(n.ay.countP (rdQ l):Int):=by
     rw[i2];congr 1
     refine List.countP_congr fun f hf=>?_
     have:=(hn.fs f hf).d
     rw[ltB_t.2 (show f.aN<v4 by omega)];simp
    refine Wp.iterF (fun x=>(0≤x.2∧x.2≤(n.ay.length:Int))∧x.1=((n.ay.drop x.2.toNat).countP (rdQ l):Int)) (fun x=>((n.ay.length:Int)-x.2).toNat) ⟨⟨by simp only;omega,by simp only;omega⟩,by simpa using hv⟩ (by simp only;omega) ?_
    rintro⟨v14,v15⟩ ⟨⟨j0,j1⟩,j2⟩
    simp only at j0 j1 j2
    obtain⟨k,rfl⟩:∃k:Nat,v15=k:=⟨v15.toNat,by omega⟩
    rw[Vn] at j2
    simp only[mX]
    refine Wp.cond (fun hb=>?_) (fun hb=>?_)
    ·have hb:=im hb
     obtain⟨f,hf⟩:∃f,n.ay[k]?=some f:=⟨_,v0 (by omega)⟩
     have hfm:=Tn hf
     have hfd:=(hn.fs f hfm).d
     obtain⟨d,s,a,e1,e2,e3,hm⟩:=hn.at_ (i:=f.aN.toNat) (by omega)
     have hix:ix n.ai f.aN=some s:=by rw[D6 f.aN (by omega),a8];exact e2
     have hcnt:(n.ay.drop k).countP (rdQ l)=(bif rdQ l f then 1 else 0)+(n.ay.drop (k+1)).countP (rdQ l):=by
      rw[List.drop_eq_getElem_cons (by omega),Wb]
      have:n.ay[k]=f:=by have:=v0 (l:=n.ay) (i:=k) (by omega);rw[hf] at this;exact(Option.some.inj this).symm
      rw[this];cases rdQ l f<;>simp<;>omega
     have hle2:(n.ay.drop k).countP (rdQ l)≤200:=U0 (Wa ..) (by simp;omega)
     have hx1:(Vj (bif f.cq then(Vj (eJ f.bC.aO) fun r18=>Vj (tv l f.bC.aa r18) fun r19=>some r19) else(some false)) fun(v17:Bool)=>some v17)=some (rdQ l f):=by
      simp only[eJ,yP hk,Vm,rdQ,Gb];cases f.cq<;>rfl
     have hx2:(bif f.cq then(Vj (eJ f.bC.aO) fun r18=>Vj (tv l f.bC.aa r18) fun r19=>some r19) else(some false))=some (rdQ l f):=by
      simp only[eJ,yP hk,Vm,rdQ,Gb];cases f.cq<;>rfl
     simp only[a8,hf,hx2,Vm,eav_i hn hk hf e2,hix,mO (hn.fs f hfm).b]
     have hop:(ko s.aK s.aa f.bC.aO f.bC).2=(eqB s.aa f.bC.aa&&nN s.aK f.bC):=by
      rw[ko]
      by_cases hc:f.bC.aa=s.aa∧f.bC.aO=f.bC.aO∧nN s.aK f.bC=true
      ·rw[if_pos hc,hc.2.2,hc.1];simp
      ·rw[if_neg hc]
       symm;rw[Bool.and_eq_false_iff]
       by_cases h:s.aa=f.bC.aa
       ·right;rw[←Vf];exact fun h'=>hc ⟨h.symm,rfl,h'⟩
       ·left;exact eqB_f.2 h
     have hnx:Wp (some (cp.next (ρ:=Bool) ((bif rdQ l f then v14-1 else v14),((k+1:Nat):Int)))) (fun s=>match s with| .next x=>((0≤x.2∧x.2≤(n.ay.length:Int))∧x.1=((n.ay.drop x.2.toNat).countP (rdQ l):Int))∧((n.ay.length:Int)-x.2).toNat<((n.ay.length:Int)-(k:Int)).toNat| .done r=>r=true):=by
      refine Wp.some ⟨⟨⟨by simp only;omega,by simp only;omega⟩,?_⟩,by simp only;omega⟩
      simp only[Vn]
      rw[hcnt] at j2
      cases hq:rdQ l f<;>rw[hq] at j2<;>simp only[cond_true,cond_false] at j2 ⊢<;>omega
     have hv:WR (v14-1)=v14-1:=bG (by omega)
     have hw:WR ((k:Int)+1)=((k+1:Nat):Int):=cd (by omega)
     have hbo:booB false false=true:=by simp[booB]
     rw[hop,hv,hw]
     cases hq:rdQ l f
     ·rw[hq] at hnx
      simp only[cond_false,Wh,Vm,hbo,UY]
      exact hnx
     ·rw[hq] at hnx
      simp only[cond_true,Bool.true_and,Vm]
      cases hg:eqB s.aa f.bC.aa
      ·simp only[cond_false,Wh,Vm,hbo,UY];exact hnx
      ·cases hv:nN s.aK f.bC
       ·simp only[cond_false,cond_true,Bool.and_false,Vm,hbo,UY];exact hnx
       ·have hr:f.cq=true:=by simp only[rdQ,hV] at hq;exact hq.1
        obtain⟨c,b,q1,q2,q3,q4⟩:=eaves hn hgood hpr hfm hr e2 (lA hg) hv
        have hsl:=hm.sg.sp.sl
        have hbl:=hm.sg.sp.sd _ (Tn q2)
        have hixc:ix s.ax (WR (c-1))=some ⟨b⟩:=by
         rw[bG (by omega)]
         obtain⟨j,hj⟩:∃j:Nat,c-1=j:=⟨(c-1).toNat,by omega⟩
         rw[hj,a8];rw[hj,Vn] at q2;exact q2
        simp only[cond_true,Bool.and_self,Vm,booB,q3,q4,ltB_f.2 (show(1:Int)≤c by omega),ltB_f.2 (show c≤((s.ax.length:Nat):Int) by omega),hixc,Bs (show b.length≤1048576 by simp only at hbl;omega),cond_false,UY,BEq.rfl]
        exact hnx
    ·have hb:=nn hb
     have h0:v14=0:=by rw[j2,List.drop_eq_nil_of_le (by omega)];rfl
     subst h0
     have hx:iY [(⟨0,(⟨[]⟩:b8)⟩:bp)] 0=some true:=by
      simp only[iY,kA,Vm]
      rw[yH ⟨by simp,by simp⟩];simp[Ga,eqB,We]
     simp only[PQ hn l,hx,be,Vm,cond_true,VN]
     exact Wp.dn (Wp.some rfl)
  obtain⟨r,h1,h2⟩:=hfin.ex
  rw[h1,h2]
end Go.AM
