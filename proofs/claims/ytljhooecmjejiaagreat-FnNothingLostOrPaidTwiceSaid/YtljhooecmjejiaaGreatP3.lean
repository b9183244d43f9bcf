/- A part. -/
import Derived.Test.YtljhooecmjejiaaGreatP2
set_option linter.unusedVariables false
set_option linter.unusedSimpArgs false
open Option renaming bind_some→Up,bind→Un
open List renaming getElem?_eq_getElem→v0,mem_of_getElem?→RS,getElem?_of_mem→SS,getElem?_set→Uc,getElem?_map→Ub,mem_append→TG,mem_or_eq_of_mem_set→U7,mem_of_mem_take→U6,range→SO,mem_singleton→UN,all_eq_true→Ui,any_eq_true→TO
open Bool renaming and_eq_true→hV,not_true→TF,or_eq_false_iff→SX,not_eq_false'→Uy
open Int renaming toNat_natCast→Us,tmod→Ur,le_refl→U5
namespace Go.AM
attribute [local simp] bz be bb
structure FP (nd nc:Nat) (f:bJ):Prop where
 d:0≤f.a9∧f.a9<nd
 c:0≤f.aU∧f.aU<nc
 b:okB f.b7.aZ.aN
 ok:jQ f
structure MP (nc:Nat) (i:Nat) (d:ay) (s:ag) (a:aj):Prop where
 dp:DP d
 dc:d.aU<nc
 sg:SG s a
 sc:s.aU<nc
 si:s.bO.au=i
 ids:Ba d s=true
structure NP (B:Int) (n:ab):Prop where
 map:nr n.dW=true
 mok:fK n.dW
 core:kZ n.dR=true
 up:n.dR.fj≠0
 ld:n.ai.length≤4
 ls:n.am.length=n.ai.length
 la:n.aY.length=n.ai.length
 m:∀(i:Nat) d s a,n.ai[i]?=some d→n.am[i]?=some s→n.aY[i]?=some a→MP n.dW.aX.length i d s a
 fl:n.aQ.length≤200
 fs:∀f∈n.aQ,FP n.ai.length n.dW.aX.length f
 dn:inR n.dh 0 (WR ((jZ .i64 1 ((n.dW.aX.length:Nat):Int))-1))=true
 nw:0≤n.oD∧n.oD≤100000
 lo:0≤n.jX∧n.jX≤B
theorem kn {m:aK} (h:nr m=true):1≤m.aX.length∧m.aX.length≤6:=by
 simp only[nr,hV,bp] at h;omega
theorem NP.at_ {B:Int} {n:ab} (h:NP B n) {i:Nat} (hi:i<n.ai.length):∃d s a,n.ai[i]?=some d∧n.am[i]?=some s∧n.aY[i]?=some a∧MP n.dW.aX.length i d s a:=by
 have h1:=h.ls
 have h2:=h.la
 obtain⟨d,hd⟩:∃d,n.ai[i]?=some d:=⟨_,v0 hi⟩
 obtain⟨s,hs⟩:∃s,n.am[i]?=some s:=⟨_,v0 (show i<n.am.length by omega)⟩
 obtain⟨a,ha⟩:∃a,n.aY[i]?=some a:=⟨_,v0 (show i<n.aY.length by omega)⟩
 exact⟨d,s,a,hd,hs,ha,h.m i d s a hd hs ha⟩
theorem NP.mono {B B':Int} {n:ab} (h:NP B n) (hb:B≤B'):NP B' n:={h with lo:=⟨h.lo.1,by have:=h.lo.2;omega⟩}
def eF (n:ab) (f:bJ):ab:=bif leB 200 ((n.aQ.length:Nat):Int) then {n with jX:=WR (n.jX+1)} else {n with aQ:=n.aQ++[f]}
theorem vL {n:ab} {f:bJ} (hf:jQ f):eM n f=some (eF n f):=by
 simp only[eM,EV hf,Up,eF]
 cases hb:leB 200 ((n.aQ.length:Nat):Int)
 ·have:=vG hb
  rw[ct (by omega) (by simp;omega)];rfl
 ·rfl
theorem uO {B:Int} {n:ab} (h:NP B n) {f:bJ} (hf:FP n.ai.length n.dW.aX.length f) (hB:B<4611686018427387904):NP (B+1) (eF n f):=by
 have hl:=h.lo
 rw[eF]
 cases hb:leB 200 ((n.aQ.length:Nat):Int)
 ·have hb:=vG hb
  refine {h.mono (show B≤B+1 by omega) with fl:=by simp;omega,fs:=fun g hg=>?_}
  rcases List.mem_append.1 hg with hg|hg
  ·exact h.fs g hg
  ·simp at hg;subst hg;exact hf
 ·exact {h.mono (show B≤B+1 by omega) with lo:=by simp only[cond_true];rw[bB (by omega)];omega}
theorem ko (n:ab) (f:bJ):(eF n f).ai=n.ai∧(eF n f).am=n.am∧(eF n f).aY=n.aY∧(eF n f).dW=n.dW∧(eF n f).dh=n.dh∧(eF n f).dR=n.dR∧(eF n f).oD=n.oD:=by
 rw[eF];cases leB 200 ((n.aQ.length:Nat):Int)<;>exact⟨rfl,rfl,rfl,rfl,rfl,rfl,rfl⟩
def sends (n:ab) (l:List bJ):ab:=l.foldl eF n
theorem gT:∀(l:List bJ) (n:ab),(sends n l).ai=n.ai∧(sends n l).am=n.am∧(sends n l).aY=n.aY∧(sends n l).dW=n.dW∧(sends n l).dh=n.dh∧(sends n l).dR=n.dR∧(sends n l).oD=n.oD
 |[],n=>⟨rfl,rfl,rfl,rfl,rfl,rfl,rfl⟩
 |f::l,n=>by
  have h1:=ko n f
  have h2:=gT l (eF n f)
  have e:sends n (f::l)=sends (eF n f) l:=rfl
  rw[e,h2.1,h2.2.1,h2.2.2.1,h2.2.2.2.1,h2.2.2.2.2.1,h2.2.2.2.2.2.1,h2.2.2.2.2.2.2];exact h1
theorem sW:∀(l:List bJ) {B:Int} {n:ab},NP B n→(∀f∈l,FP n.ai.length n.dW.aX.length f)→B+l.length<4611686018427387904→NP (B+l.length) (sends n l)
 |[],B,n,h,_,_=>by simpa [sends] using h
 |f::l,B,n,h,hf,hB=>by
  simp only[List.length_cons] at hB ⊢
  have h1:=uO h (hf f (by simp)) (by omega)
  have hk:=ko n f
  have:=sW l h1 (fun g hg=>by rw[hk.1,hk.2.2.2.1];exact hf g (by simp[hg])) (by omega)
  rw[show B+((l.length+1:Nat):Int)=B+1+(l.length:Int) by omega]
  exact this
theorem w7 (g:ab→bJ→Option ab) {α:Type} (mk:α→bJ) (hg:∀n x,g n (mk x)=some (eF n (mk x))):∀(l:List α) (n:ab),jV (fun(n:ab) x=>Un (g n (mk x)) fun r=>some (cB.next (ρ:=ab) r)) some l n=some (sends n (l.map mk))
 |[],n=>rfl
 |x::l,n=>by rw[jV,hg];exact w7 g mk hg l _
def hU (i:Int) (up:Bool) (m:az):bJ:=⟨i,up,false,m.aU,m,d8⟩
def sI (i c:Int) (x:av):bJ:=⟨i,false,true,c,dH,x⟩
theorem Eg:nU d8:=⟨by decide,fun _ _=>trivial⟩
theorem DQ (i:Int) (up:Bool) (m:az):jQ (hU i up m):=Eg
theorem HA (n:ab) (i:Int) (up:Bool) {l:List az} (hl:l.length≤1048576):iG n i up l=some (sends n (l.map (hU i up))):=by
 have:=fy (step:=iH i up l) l (fun k n=>((k:Int),n)) (fun n x=>Un (eM n (hU i up x)) fun r=>some (.next r)) some (by omega)
  (fun k x n hx hk=>by
   simp only[iH,cR hk,bb,hx,Up,cond_true,cp (show k<9223372036854775807 by omega),hU]
   cases eM n ⟨i,up,false,x.aU,x,d8⟩<;>rfl) (fun n=>by simp[iH]) n
 rw[w7 eM (hU i up) (fun n x=>vL (DQ i up x))] at this
 rw[iG,show iter (iH i up l) FU (0,n)=_ from this];rfl
def fL (n:ab) (i:Nat) (r:aS):ab:=sends {n with ai:=n.ai.set i r.a9} (r.dD.map (hU i true))
theorem sH {n:ab} {i:Nat} (hi:i<n.ai.length) {r:aS} (hr:r.dD.length≤1048576):gk n (i:Int) r=some (fL n i r):=by
 simp only[gk,bb,v0 hi,Up,Us,HA _ _ _ hr,fL]
theorem DN {nd nc:Nat} {i:Nat} (hi:i<nd) {up:Bool} {m:az} (hm:0≤m.aU∧m.aU<nc):FP nd nc (hU i up m):=
 ⟨by simp only[hU];omega,hm,fun x hx=>by simp[hU,d8,iZ] at hx,DQ _ _ _⟩
theorem ke {α:Type} {xs:List α} {i j:Nat} {x y:α} (h:(xs.set i x)[j]?=some y):(i=j∧x=y)∨(i≠j∧xs[j]?=some y):=by
 rw[Uc] at h
 by_cases e:i=j
 ·rw[if_pos e] at h
  split at h
  ·cases h;exact .inl ⟨e,rfl⟩
  ·cases h
 ·rw[if_neg e] at h;exact .inr ⟨e,h⟩
theorem NP.setM {B:Int} {n:ab} (h:NP B n) {i:Nat} {d:ay} {s:ag} {a:aj} (hm:MP n.dW.aX.length i d s a):
 NP B {n with ai:=n.ai.set i d,am:=n.am.set i s,aY:=n.aY.set i a}:=by
 have h1:=h.ls
 have h2:=h.la
 refine {h with ld:=by simpa using h.ld,ls:=by simpa using h1,la:=by simpa using h2,m:=fun j d' s' a' hd hs ha=>?_,fs:=fun f hf=>by rw[List.length_set];exact h.fs f hf}
 rcases ke hd with⟨e1,e2⟩|⟨e1,e2⟩<;>rcases ke hs with⟨e3,e4⟩|⟨e3,e4⟩<;>rcases ke ha with⟨e5,e6⟩|⟨e5,e6⟩<;>first|omega|skip
 ·subst e1;subst e2;subst e4;subst e6;exact hm
 ·exact h.m j d' s' a' e2 e4 e6
theorem dK {α:Type} {xs:List α} {i:Nat} {x:α} (h:xs[i]?=some x):xs.set i x=xs:=by
 apply List.ext_getElem?
 intro j
 rw[Uc]
 by_cases e:i=j
 ·subst e;rw[if_pos rfl,if_pos (List.getElem?_eq_some_iff.1 h).1,h]
 ·rw[if_neg e]
theorem NP.setD {B:Int} {n:ab} (h:NP B n) {i:Nat} {d:ay} {s:ag} {a:aj} (hs:n.am[i]?=some s) (ha:n.aY[i]?=some a) (hm:MP n.dW.aX.length i d s a):NP B {n with ai:=n.ai.set i d}:=by
 have:=h.setM hm
 rwa [dK hs,dK ha] at this
theorem NP.setS {B:Int} {n:ab} (h:NP B n) {i:Nat} {d:ay} {s:ag} {a:aj} (hd:n.ai[i]?=some d) (ha:n.aY[i]?=some a) (hm:MP n.dW.aX.length i d s a):NP B {n with am:=n.am.set i s}:=by
 have:=h.setM hm
 rwa [dK hd,dK ha] at this
end Go.AM
namespace Go.AM
attribute [local simp] bz be bb
structure DK (c:Int) (d:ay) (r:aS):Prop where
 id:r.a9.dq.ID=d.dq.ID
 key:r.a9.dq.eP=d.dq.eP
 cell:r.a9.aU=c
 sg:∀m∈r.dD,m.aU=c
 len:r.dD.length≤1
theorem DK.none (d:ay):DK d.aU d ⟨d,[]⟩:=⟨rfl,rfl,rfl,by simp,by simp⟩
theorem Ot (d:ay):DK d.aU d (uH d):=⟨rfl,rfl,rfl,by simp[uH,vp,sX],by simp[uH]⟩
theorem EE {d d':ay} (h:d'.dq=d.dq):DK d'.aU d (uH d'):=⟨by rw[←h];rfl,by rw[←h];rfl,rfl,by simp[uH,vp,sX],by simp[uH]⟩
theorem rU (d:ay):DK d.aU d (pS d):=by
 rw[pS]
 cases ltB 0 d.fU<;>cases eqB d.bg 1<;>cases eqB d.bg 2&&!d.de<;>exact⟨rfl,rfl,rfl,by simp[tq,vp,sX],by simp⟩
theorem GM (d:ay):DK d.aU d (dOn d):=by
 rw[dOn];cases eqB d.bg 0<;>exact⟨rfl,rfl,rfl,by simp[tq],by simp⟩
theorem Ih (d:ay) (m:az):DK d.aU d (zm d m):=by
 rw[zm]
 cases !kq m||(!eqB m.aU d.aU||eqB d.bg 0)
 ·simp only[cond_false]
  cases eqB m.aP 2&&eqB d.bg 1
  ·simp only[cond_false]
   cases eqB m.aP 4&&(eqB d.bg 1&&(oA d.aJ&&(eqB m.aa d.aa&&tg d.aJ m)))
   ·simp only[cond_false]
    cases eqB m.aP 6&&(eqB d.bg 2&&(eqB m.aa d.aa&&(eqB m.aR d.aR&&tg d.aJ m)))
    ·simp only[cond_false]
     cases eqB m.aP 7&&(eqB d.bg 3&&ltB d.aR 999999)
     ·simp only[cond_false]
      cases eqB m.aP 7&&eqB d.bg 2
      ·exact .none d
      ·exact Ot d
     ·exact EE (d:=d) (d':={d with bg:=2,aR:=d.aR+1}) rfl
    ·exact⟨rfl,rfl,rfl,by simp,by simp⟩
   ·exact⟨rfl,rfl,rfl,by simp,by simp⟩
  ·simp only[cond_true,EF]
   cases eqB (i6 d.dq.eP d.dq.dw m.bQ) 0<;>exact⟨rfl,rfl,rfl,by simp,by simp⟩
 ·exact .none d
theorem If (d:ay) (x:av):DK d.aU d (zl d x):=by
 simp only[zl]
 cases eqB d.bg 2&&(pZ d.aJ d.aa d.aR x).2
 ·exact .none d
 ·exact⟨rfl,rfl,rfl,by simp[dAck,sX],by simp⟩
theorem EG (d:ay) (c:Int):DK d.aU d (rm d c)∨(0≤c∧c≤5)∧DK c d (rm d c):=by
 rw[rm]
 cases h:eqB c d.aU||!inR c 0 5
 ·simp only[SX,Uy] at h
  right;refine⟨bp.1 h.2,?_⟩
  simp only[cond_false]
  cases eqB d.bg 2&&ltB d.aR 999999
  ·exact⟨rfl,rfl,rfl,by simp,by simp⟩
  ·exact EE (d:=d) (d':={d with aU:=c,aR:=d.aR+1}) rfl
 ·exact .inl (.none d)
structure SK (c:Int) (s:ag) (r:bH):Prop where
 id:r.aF.bv.ID=s.bv.ID
 key:r.aF.bv.eP=s.bv.eP
 si:r.aF.bO.au=s.bO.au
 cell:r.aF.aU=s.aU∨r.aF.aU=c
 sg:∀m∈r.dD,m.aU=c
 len:r.dD.length≤1
 sub:r.aF.ao=s.ao
theorem SK.none (c:Int) (s:ag):SK c s ⟨s,[]⟩:=⟨rfl,rfl,rfl,.inl rfl,by simp,by simp,rfl⟩
theorem Ni (s:ag) (m:az):SK m.aU s (sUp s m):=by
 rw[sUp]
 cases kq m
 ·exact .none _ s
 ·simp only[TF,cond_false]
  cases eqB m.aP 1
  ·simp only[cond_false]
   cases eqB m.aP 3
   ·simp only[cond_false]
    cases eqB m.aP 5
    ·simp only[cond_false]
     cases eqB m.aP 8
     ·exact .none _ s
     ·simp only[cond_true,FW]
      cases !pX s m||ltB s.an.bj m.bM
      ·refine⟨rfl,rfl,?_,.inl rfl,by simp,by simp,rfl⟩
       simp only[cond_false,ks,tp]
       cases inR (fa s.an.aw-fa (i7 s.an m.bM).aw) 0 (s.bO.cE-s.bO.dX)<;>rfl
      ·exact .none _ s
    ·simp only[cond_true,xT]
     cases !pX s m||(ltB m.aR s.aR||(eqB m.aR s.aR&&!eqB m.aU s.aU))
     ·exact⟨rfl,rfl,rfl,.inr rfl,by simp[tJ,sX,uT],by simp,rfl⟩
     ·exact .none _ s
   ·simp only[cond_true,xU]
    cases leB s.bC 0||(!eqB m.aa s.bC||(!eqB m.bM s.aD.ug||leB 999999 s.aR))
    ·exact⟨rfl,rfl,rfl,.inr rfl,by simp[tJ,sX,ub],by simp,rfl⟩
    ·exact .none _ s
  ·simp only[cond_true,FX]
   cases eqB s.bv.cO 999999
   ·exact⟨rfl,rfl,rfl,.inl rfl,by simp,by simp,rfl⟩
   ·exact .none _ s
theorem MP.dev {nc i:Nat} {d:ay} {s:ag} {a:aj} (h:MP nc i d s a) {c:Int} {r:aS} (hk:DK c d r) (hd:DP r.a9) (hc:c<nc):MP nc i r.a9 s a:=by
 refine⟨hd,by rw[hk.cell];exact hc,h.sg,h.sc,h.si,?_⟩
 have:=h.ids
 simp only[Ba,hk.id,hk.key] at this ⊢;exact this
theorem MP.ses {nc i:Nat} {d:ay} {s:ag} {a:aj} (h:MP nc i d s a) {c:Int} {r:bH} (hk:SK c s r) (hs:SG r.aF a) (hc:c<nc):MP nc i d r.aF a:=by
 refine⟨h.dp,h.dc,hs,?_,by rw[hk.si];exact h.si,?_⟩
 ·rcases hk.cell with e|e<;>rw[e]
  ·exact h.sc
  ·exact hc
 ·have:=h.ids
  simp only[Ba,hk.id,hk.key] at this ⊢;exact this
theorem iP {B:Int} {n:ab} (h:NP B n) {i:Nat} {d:ay} (hd:n.ai[i]?=some d) {c:Int} {r:aS} (hk:DK c d r) (hr:DP r.a9) (hc:c<n.dW.aX.length) (hB:B+1<4611686018427387904):NP (B+1) (fL n i r):=by
 have hi:=(List.getElem?_eq_some_iff.1 hd).1
 obtain⟨d',s,a,h1,h2,h3,hm⟩:=h.at_ hi
 rw[hd] at h1;cases h1
 have hn:=h.setD h2 h3 (hm.dev hk hr hc)
 have hl:=hk.len
 have:=sW (r.dD.map (hU i true)) hn (fun f hf=>by
  obtain⟨m,hm',rfl⟩:=List.mem_map.1 hf
  rw[show({n with ai:=n.ai.set i r.a9}:ab).ai.length=n.ai.length by simp]
  refine DN hi ?_
  rw[hk.sg m hm',←hk.cell];exact⟨hr.ce.1,by rw[hk.cell];exact hc⟩) (by simp;omega)
 exact this.mono (by simp;omega)
def xg (n:ab) (i:Nat) (r:bH):ab:=sends {n with am:=n.am.set i r.aF} (r.dD.map (hU i false))
theorem Kr {B:Int} {n:ab} (h:NP B n) {i:Nat} {s:ag} (hs:n.am[i]?=some s) {c:Int} {r:bH} (hk:SK c s r) (hr:∀a,SG s a→SG r.aF a) (hc:0≤c∧c<n.dW.aX.length) (hB:B+1<4611686018427387904):NP (B+1) (xg n i r):=by
 have hi:=(List.getElem?_eq_some_iff.1 hs).1
 have hls:=h.ls
 obtain⟨d,s',a,h1,h2,h3,hm⟩:=h.at_ (show i<n.ai.length by omega)
 rw[hs] at h2;cases h2
 have hn:=h.setS h1 h3 (hm.ses hk (hr a hm.sg) hc.2)
 have hl:=hk.len
 have:=sW (r.dD.map (hU i false)) hn (fun f hf=>by
  obtain⟨m,hm',rfl⟩:=List.mem_map.1 hf
  refine DN (show i<n.ai.length by omega) ?_
  rw[hk.sg m hm'];exact hc) (by simp;omega)
 exact this.mono (by simp;omega)
def iN (n:ab) (k:Nat):ab:={n with aQ:=n.aQ.take k++n.aQ.drop (k+1)}
theorem yC {B:Int} {n:ab} (h:NP B n) (k:Nat):NP B (iN n k):=by
 have:=h.fl
 refine {h with fl:=by simp[iN];omega,fs:=fun f hf=>?_}
 have:f∈n.aQ:=by
  simp only[iN,TG] at hf
  rcases hf with hf|hf
  ·exact U6 hf
  ·exact List.mem_of_mem_drop hf
 exact h.fs f this
theorem Jt {n:ab} (hl:n.aQ.length≤200) {k:Nat} {f:bJ} (hf:n.aQ[k]?=some f):ta n (k:Int)=some (f,iN n k):=by
 have hk:=(List.getElem?_eq_some_iff.1 hf).1
 have a1:fw n.aQ 0 ((k:Nat):Int)=true:=by simp[fw];omega
 have a2:fw n.aQ ((k+1:Nat):Int) ((n.aQ.length:Nat):Int)=true:=by simp[fw];omega
 have a3:cS 176 (n.aQ.take k).length=true:=ct (by omega) (by simp;omega)
 have a4:cS 176 (n.aQ.take k++n.aQ.drop (k+1)).length=true:=ct (by omega) (by simp;omega)
 simp only[ta,bb,hf,Up,a1,cp (show k<9223372036854775807 by omega),a2,cond_true,List.nil_append,Us,a3,a4,iN]
def xa (n:ab) (c:Int):Bool:=ew n.dW c&&eqB (wU .i64 (A5 .i64 n.dh c) 1) 0
theorem Mm {n:ab} (hm:1≤n.dW.aX.length∧n.dW.aX.length≤6) (c:Int):qa n c=some (xa n c):=by
 have hmin:lW ((n.dW.aX.length:Nat):Int) 6=((n.dW.aX.length:Nat):Int):=by unfold lW;split<;>omega
 simp only[qa,Fp,hmin,et,Up,bB (n:=((n.dW.aX.length:Nat):Int)-1) (by omega),xa]
 rw[show inR c 0 (((n.dW.aX.length:Nat):Int)-1)=ew n.dW c from rfl]
 cases hc:ew n.dW c
 ·rfl
 ·have:=bp.1 (show inR c 0 (((n.dW.aX.length:Nat):Int)-1)=true from hc)
  rw[leB_t.2 this.1];rfl
def J4 (n:ab):ab:={n with jX:=WR (n.jX+1)}
theorem Da {B:Int} {n:ab} (h:NP B n) (hB:B<4611686018427387904):NP (B+1) (J4 n):=by
 have hl:=h.lo
 exact {h.mono (show B≤B+1 by omega) with lo:=by simp only[J4];rw[bB (by omega)];omega}
def iA (n:ab) (k:Nat):ab:=match n.aQ[k]? with
 |none=>n
 |some f=>
  let n1:=iN n k
  let i:=f.a9.toNat
  bif !xa n1 f.aU then J4 n1 else
  bif f.eb then(bif f.di||!eqB f.aV.aU f.aU then n1 else match n1.am[i]? with
   |none=>n1
   |some s=>xg n1 i (sUp s f.aV))
  else match n1.ai[i]? with
   |none=>n1
   |some d=>bif !eqB d.aU f.aU then J4 n1 else fL n1 i (bif f.di then zl d f.b7 else zm d f.aV)
theorem GN {B:Int} {n:ab} (h:NP B n) (k:Nat) (hB:B+1<4611686018427387904):NP (B+1) (iA n k):=by
 rw[iA]
 cases hf:n.aQ[k]? with
 |none=>exact h.mono (by omega)
 |some f=>
  have hp:=h.fs f (RS hf)
  have h1:=yC h k
  simp only
  cases xa (iN n k) f.aU
  ·exact Da h1 (by omega)
  ·simp only[TF,cond_false]
   cases f.eb
   ·simp only[cond_false]
    cases hd:(iN n k).ai[f.a9.toNat]? with
    |none=>exact h1.mono (by omega)
    |some d=>
     have hdi:=(List.getElem?_eq_some_iff.1 hd).1
     obtain⟨d',s,a,e1,e2,e3,hm⟩:=h1.at_ hdi
     rw[hd] at e1;cases e1
     simp only
     cases eqB d.aU f.aU
     ·exact Da h1 (by omega)
     ·simp only[TF,cond_false]
      cases f.di
      ·exact iP h1 hd (Ih d f.aV) (Ox hm.dp _) hm.dc hB
      ·exact iP h1 hd (If d f.b7) (Ow hm.dp _) hm.dc hB
   ·simp only[cond_true]
    cases he:f.di||!eqB f.aV.aU f.aU
    ·simp only[cond_false]
     simp only[SX,Uy] at he
     have he:=mR he.2
     cases hs:(iN n k).am[f.a9.toNat]? with
     |none=>exact h1.mono (by omega)
     |some s=>exact Kr h1 hs (Ni s f.aV) (fun a ha=>Rk ha _) (by rw[he];exact hp.c) hB
    ·exact h1.mono (by omega)
theorem LG (i:Int) (h:0≤i):i=((i.toNat:Nat):Int):=by omega
theorem JR {B:Int} {n:ab} (h:NP B n) {k:Nat} (hk:k<n.aQ.length):pj n (k:Int)=some (iA n k):=by
 obtain⟨f,hf⟩:∃f,n.aQ[k]?=some f:=⟨_,v0 hk⟩
 have hp:=h.fs f (RS hf)
 have h1:=yC h k
 have hls:=h1.ls
 have hdd:=hp.d
 obtain⟨d,s,a,e1,e2,e3,hm⟩:=h1.at_ (show f.a9.toNat<(iN n k).ai.length by simp only[iN];omega)
 have hdev:=LG f.a9 hdd.1
 have hix:ix (iN n k).am f.a9=some s:=by rw[hdev,bb];exact e2
 have hixd:ix (iN n k).ai f.a9=some d:=by rw[hdev,bb];exact e1
 have hdl:=(List.getElem?_eq_some_iff.1 e1).1
 have hp1:gk (iN n k) f.a9 (zl d f.b7)=some (fL (iN n k) f.a9.toNat (zl d f.b7)):=by
  rw[hdev];exact sH (by simpa using hdl) (by have:=(If d f.b7).len;omega)
 have hp2:gk (iN n k) f.a9 (zm d f.aV)=some (fL (iN n k) f.a9.toNat (zm d f.aV)):=by
  rw[hdev];exact sH (by simpa using hdl) (by have:=(Ih d f.aV).len;omega)
 have hp3:∀n',iG n' f.a9 false (sUp s f.aV).dD=some (sends n' ((sUp s f.aV).dD.map (hU ((f.a9.toNat:Nat):Int) false))):=fun n'=>by
  rw[←hdev];exact HA _ _ _ (by have:=(Ni s f.aV).len;omega)
 simp only[pj,Jt h.fl hf,Mm (kn h1.map),hix,hixd,up_s hm.sg.sp,rad_s hm.dp.ok (show P7 f.b7 from hp.b),sig_s hm.dp.ok hm.dp.card hm.dp.ep,hp1,hp2,hp3,Up,iA,hf,e1,e2,xg,J4]
 cases xa (iN n k) f.aU<;>cases f.eb<;>cases f.di<;>cases eqB f.aV.aU f.aU<;>cases eqB d.aU f.aU<;>rfl
end Go.AM
namespace Go.AM
attribute [local simp] bz be bb
theorem lr (n:ab) (i:Nat) (r:aS):(fL n i r).ai.length=n.ai.length∧(fL n i r).dW=n.dW∧(fL n i r).am=n.am∧(fL n i r).aY=n.aY∧(fL n i r).oD=n.oD:=by
 have:=gT (r.dD.map (hU i true)) {n with ai:=n.ai.set i r.a9}
 rw[fL,this.1,this.2.1,this.2.2.1,this.2.2.2.1,this.2.2.2.2.2.2];simp
def js:Nat→Nat→ab→ab
 |0,_,n=>n
 |c+1,i,n=>match n.ai[i]? with
  |none=>n
  |some d=>js c (i+1) (fL n i (pS d))
theorem Cp {L:Int×ab→Option (cB (Int×ab) ab)} (N:Nat) (hN:N≤4)
 (hL:∀(i:Nat) (n:ab),n.ai.length=N→(i<N→∀d,n.ai[i]?=some d→DP d→L ((i:Int),n)=some (.next (((i+1:Nat):Int),fL n i (pS d))))∧(N≤i→L ((i:Int),n)=some (.done n))):
 ∀(c i:Nat) {B:Int} (n:ab) (fu:Nat),NP B n→i+c=N→n.ai.length=N→c<fu→B+c<4611686018427387904→iter L fu ((i:Int),n)=some (js c i n)∧NP (B+c) (js c i n)∧(js c i n).ai.length=N∧(js c i n).dW=n.dW
 |0,i,B,n,fu,h,h1,h2,h3,hB=>by
  cases fu with
  |zero=>omega
  |succ fu=>
   rw[iter,(hL i n h2).2 (by omega)]
   exact⟨rfl,by simpa [js] using h,h2,rfl⟩
 |c+1,i,B,n,fu,h,h1,h2,h3,hB=>by
  cases fu with
  |zero=>omega
  |succ fu=>
   obtain⟨d,s,a,e1,e2,e3,hm⟩:=h.at_ (show i<n.ai.length by omega)
   have hp:=iP h e1 (rU d) (vq hm.dp) hm.dc (by omega)
   have hk:=lr n i (pS d)
   rw[iter,(hL i n h2).1 (by omega) d e1 hm.dp,js,e1]
   simp only
   have ih:=Cp N hN hL c (i+1) (fL n i (pS d)) fu hp (by omega) (by rw[hk.1];exact h2) (by omega) (by omega)
   refine⟨ih.1,ih.2.1.mono (by omega),ih.2.2.1,ih.2.2.2.trans hk.2.1⟩
def uf (x:av):Prop:=okB x.aZ.aN∧x.aZ.aN.length≤60
theorem uY (k g e:Int) {x:ae} (h:x.aN.length≤60):uf (gJ k g e x):=⟨Im _ _,by simp[gJ,Av];exact h⟩
theorem Em {s:ag} (h:WOK s.an):∀x∈vh s,uf x:=by
 rw[vh];cases eqB s.bg 1
 ·simp
 ·intro x hx
  obtain⟨y,hy,rfl⟩:=List.mem_map.1 hx
  exact uY _ _ _ (h.d y (U6 hy))
theorem JX (s:ag) (a:aj) (n:Int):(cQ s a n).1.bO.au=s.bO.au:=by rw[cQ];cases leB (jP s n) 0<;>rfl
theorem Aw:∀(k:Nat) (s:ag) (a:aj) (r:List av),SG s a→(∀x∈r,uf x)→
 (gK k s a r).1.bv=s.bv∧(gK k s a r).1.aU=s.aU∧(gK k s a r).1.bO.au=s.bO.au∧(gK k s a r).1.ao=s.ao∧∀x∈(gK k s a r).2.2,uf x
 |0,s,a,r,h,hr=>⟨rfl,rfl,rfl,rfl,hr⟩
 |k+1,s,a,r,h,hr=>by
  rw[gK]
  cases e:oK s with
  |none=>exact⟨rfl,rfl,rfl,rfl,hr⟩
  |some x=>
   obtain⟨hm,hx,_,hn,hl,hb⟩:=lk h.sp e
   have he:=tv h (n:=((x.aN.length:Nat):Int)) (by omega)
   obtain⟨q,hk⟩:=lS s a ((x.aN.length:Nat):Int)
   have hid:=JX s a ((x.aN.length:Nat):Int)
   simp only
   cases hq:ltB 0 (jP (cQ s a ((x.aN.length:Nat):Int)).1 ((x.aN.length:Nat):Int))
   ·simp only[cond_false]
    have ih:=Aw k {(cQ s a ((x.aN.length:Nat):Int)).1 with an:=mF (cQ s a ((x.aN.length:Nat):Int)).1.an x.aN} (cQ s a ((x.aN.length:Nat):Int)).2
     (r++[gJ (cQ s a ((x.aN.length:Nat):Int)).1.aJ (cQ s a ((x.aN.length:Nat):Int)).1.aa (cQ s a ((x.aN.length:Nat):Int)).1.aR ⟨(cQ s a ((x.aN.length:Nat):Int)).1.an.bj,x.aN⟩])
     (yL he (by rw[hk];exact e) hq) (fun y hy=>by
      rcases List.mem_append.1 hy with hy|hy
      ·exact hr y hy
      ·simp at hy;subst hy;exact uY _ _ _ hb)
    rw[ih.1,ih.2.1,ih.2.2.1,ih.2.2.2.1]
    exact⟨by rw[hk],by rw[hk],hid,by rw[hk],ih.2.2.2.2⟩
   ·exact⟨by simp only[cond_true];rw[hk],by simp only[cond_true];rw[hk],hid,by simp only[cond_true];rw[hk],hr⟩
theorem MS {m:aK} {a t:Int}:∀c∈B1 m a t,0≤c∧c<m.aX.length:=by
 intro c hc
 have h1:∀c∈mO m a,0≤c∧c<m.aX.length:=fun c hc=>by
  obtain⟨y,hy,rfl⟩:=List.mem_map.1 hc
  have:=(List.mem_filter.1 hy).1
  have:=List.mem_zipIdx this
  simp at this
  omega
 have h2:∀c∈Oi m,0≤c∧c<m.aX.length:=fun c hc=>by
  obtain⟨k,hk,rfl⟩:=List.mem_map.1 hc
  have:=List.mem_range.1 hk
  omega
 rw[B1] at hc;revert hc
 cases eqB t 1&&ltB 0 (((mO m a).length:Nat):Int)
 ·cases inR t 1 4
  ·simp
  ·exact h2 c
 ·exact h1 c
structure TK (nc:Nat) (s:ag) (a:aj) (t:bX):Prop where
 rcd:t.aF.bv=s.bv
 cell:t.aF.aU=s.aU
 si:t.aF.bO.au=s.bO.au
 sub:t.aF.ao=s.ao
 pg:∀m∈t.iy,0≤m.aU∧m.aU<nc
 pl:t.iy.length≤1000
 rd:∀x∈t.b7,uf x
 rl:t.b7.length≤4
theorem wh {s:ag} {a:aj} (h:SG s a) {m:aK} (hm:m.aX.length≤1000):TK m.aX.length s a (md s a m):=by
 rw[md]
 cases eqB s.bg 1
 ·exact⟨rfl,rfl,rfl,rfl,by simp,by simp,by simp,by simp⟩
 ·simp only[TF,cond_false]
  have hg:=zE h
  have hq:=vQ h.sp
  cases ltB 4 (jh s)
  ·simp only[cond_false,Jk]
   have hk:=Aw 2 _ _ [] (h.upd hq (vW h.sp)) (by simp)
   have hl:=xy 2 {s with d9:=jh s,dS:=(lX s).2,bO:=(fS s a).2} (fS s a).1 []
   have hr:=Ce s
   refine⟨hk.1,hk.2.1,hk.2.2.1.trans hg.2.2.1,hk.2.2.2.1,by simp,by simp,fun x hx=>?_,by simp at hl ⊢;omega⟩
   rcases List.mem_append.1 hx with hx|hx
   ·rw[lX] at hx;revert hx
    cases A6 s
    ·simp
    ·cases ltB 0 s.dS
     ·exact Em h.sp.win x
     ·simp
   ·exact hk.2.2.2.2 x hx
  ·simp only[cond_true,F2]
   refine⟨rfl,rfl,hg.2.2.1,rfl,fun x hx=>?_,by have:=Cq (p:={s.ik with fT:=nH m s.aU}) hm;simp only[List.length_map];exact this,by simp,by simp⟩
   obtain⟨c,hc,rfl⟩:=List.mem_map.1 hx
   simp only[Fz]
   rw[wL] at hc;revert hc
   cases ltB 0 s.ik.fU
   ·exact MS c
   ·simp
def rx (n:ab) (i:Nat) (t:bX):ab:=
 sends (sends {n with am:=n.am.set i t.aF,aY:=n.aY.set i t.dQ} (t.iy.map (hU i false))) (t.b7.map (sI i t.aF.aU))
theorem Pe {nd nc i:Nat} (hi:i<nd) {c:Int} (hc:0≤c∧c<nc) {x:av} (hx:uf x):FP nd nc (sI i c x):=
 ⟨by simp only[sI];omega,hc,hx.1,⟨by have:=hx.2;simp only[sI];omega,fun _ _=>trivial⟩⟩
theorem B4 (n:ab) (i:Nat) (t:bX):(rx n i t).ai=n.ai∧(rx n i t).dW=n.dW∧(rx n i t).am.length=n.am.length∧(rx n i t).oD=n.oD:=by
 have h1:=gT (t.iy.map (hU i false)) {n with am:=n.am.set i t.aF,aY:=n.aY.set i t.dQ}
 have h2:=gT (t.b7.map (sI i t.aF.aU)) (sends {n with am:=n.am.set i t.aF,aY:=n.aY.set i t.dQ} (t.iy.map (hU i false)))
 rw[rx,h2.1,h2.2.1,h2.2.2.2.1,h2.2.2.2.2.2.2,h1.1,h1.2.1,h1.2.2.2.1,h1.2.2.2.2.2.2];simp
theorem zY {B:Int} {n:ab} (h:NP B n) {i:Nat} {s:ag} {a:aj} (hs:n.am[i]?=some s) (ha:n.aY[i]?=some a) {t:bX} (hk:TK n.dW.aX.length s a t) (hg:SG t.aF t.dQ) (hB:B+2000<4611686018427387904):NP (B+2000) (rx n i t):=by
 have hi:=(List.getElem?_eq_some_iff.1 hs).1
 have hls:=h.ls
 obtain⟨d,s',a',h1,h2,h3,hm⟩:=h.at_ (show i<n.ai.length by omega)
 rw[hs] at h2;cases h2
 rw[ha] at h3;cases h3
 have hmp:MP n.dW.aX.length i d t.aF t.dQ:=by
  refine⟨hm.dp,hm.dc,hg,by rw[hk.cell];exact hm.sc,by rw[hk.si];exact hm.si,?_⟩
  have:=hm.ids
  simp only[Ba,hk.rcd] at this ⊢;exact this
 have hn:=h.setM hmp
 rw[dK h1] at hn
 have hpl:=hk.pl
 have hrl:=hk.rl
 have k1:=gT (t.iy.map (hU i false)) {n with am:=n.am.set i t.aF,aY:=n.aY.set i t.dQ}
 have p1:=sW (t.iy.map (hU i false)) hn (fun f hf=>by
  obtain⟨m,hm',rfl⟩:=List.mem_map.1 hf
  exact DN (show i<n.ai.length by omega) (hk.pg m hm')) (by simp;omega)
 have p2:=sW (t.b7.map (sI i t.aF.aU)) p1 (fun f hf=>by
  obtain⟨x,hx,rfl⟩:=List.mem_map.1 hf
  rw[k1.1,k1.2.2.2.1]
  exact Pe (show i<n.ai.length by omega) (by rw[hk.cell];exact⟨hm.sg.sp.ce.1,hm.sc⟩) (hk.rd x hx)) (by simp;omega)
 exact p2.mono (by simp;omega)
def pu:Nat→Nat→ab→ab
 |0,_,n=>n
 |c+1,i,n=>match n.am[i]?,n.aY[i]? with
  |some s,some a=>pu c (i+1) (rx n i (md s a n.dW))
  |_,_=>n
theorem Cr {L:Int×ab→Option (cB (Int×ab) ab)} (N:Nat) (hN:N≤4)
 (hL:∀(i:Nat) (n:ab),n.am.length=N→(i<N→∀s a,n.am[i]?=some s→n.aY[i]?=some a→SG s a→nr n.dW=true→L ((i:Int),n)=some (.next (((i+1:Nat):Int),rx n i (md s a n.dW))))∧(N≤i→L ((i:Int),n)=some (.done n))):
 ∀(c i:Nat) {B:Int} (n:ab) (fu:Nat),NP B n→i+c=N→n.am.length=N→c<fu→B+2000*c<4611686018427387904→iter L fu ((i:Int),n)=some (pu c i n)∧NP (B+2000*c) (pu c i n)∧(pu c i n).ai=n.ai∧(pu c i n).dW=n.dW
 |0,i,B,n,fu,h,h1,h2,h3,hB=>by
  cases fu with
  |zero=>omega
  |succ fu=>
   rw[iter,(hL i n h2).2 (by omega)]
   exact⟨rfl,by simpa [pu] using h,rfl,rfl⟩
 |c+1,i,B,n,fu,h,h1,h2,h3,hB=>by
  cases fu with
  |zero=>omega
  |succ fu=>
   have hls:=h.ls
   obtain⟨d,s,a,e1,e2,e3,hm⟩:=h.at_ (show i<n.ai.length by omega)
   have hml:=kn h.map
   have hp:=zY h e2 e3 (wh hm.sg (by omega)) (At hm.sg h.map) (by omega)
   have hk:=B4 n i (md s a n.dW)
   rw[iter,(hL i n h2).1 (by omega) s a e2 e3 hm.sg h.map,pu,e2,e3]
   simp only
   have ih:=Cr N hN hL c (i+1) (rx n i (md s a n.dW)) fu hp (by omega) (by rw[hk.2.2.1];exact h2) (by omega) (by omega)
   exact⟨ih.1,ih.2.1.mono (by omega),ih.2.2.1.trans hk.1,ih.2.2.2.trans hk.2.1⟩
def zT (n:ab):Bool×ab:=
 bif leB 100000 n.oD then(false,n) else
  let n1:=js n.ai.length 0 {n with oD:=n.oD+1}
  (true,pu n1.am.length 0 n1)
theorem KR {B:Int} {n:ab} (h:NP B n) (hB:B+10000<4611686018427387904):wH n=some (zT n)∧True∧NP (B+10000) (zT n).2:=by
 have hnw:=h.nw
 have hld:=h.ld
 rw[zT,wH]
 cases hb:leB 100000 n.oD
 ·have hb:=vG hb
  simp only[cond_false]
  have h1:NP B {n with oD:=n.oD+1}:={h with nw:=by simp only;omega}
  rw[bB (n:=n.oD+1) (by omega)]
  have rs:=Cp (L:=pk) n.ai.length hld (fun i n' hn'=>⟨fun hi d hd hp=>by
   simp only[pk,hn',cR hi,bb,hd,Up,cond_true,Ry hp.ok hp.wt.2,sH (show i<n'.ai.length by omega) (show(pS d).dD.length≤1048576 by have:=(rU d).len;omega),cp (show i<9223372036854775807 by omega)],fun hi=>by
   simp only[pk,hn',ltB_f.2 (show((n.ai.length:Nat):Int)≤(i:Int) by omega),cond_false]⟩) n.ai.length 0 _ FU h1 (by omega) rfl (by have:=jC;omega) (by omega)
  rw[show((0:Nat):Int)=0 from rfl] at rs
  have h2:=(rs).2.1
  have hls:=h2.ls
  have hl2:=h2.ld
  generalize js n.ai.length 0 {n with oD:=n.oD+1}=n1 at*
  have radS:∀(n':ab) (i:Nat) (t:bX),(∀x∈t.b7,uf x)→t.b7.length≤4→iter (jT (i:Int) t) FU (0,n')=some (sends n' (t.b7.map (sI i t.aF.aU))):=fun n' i t ht hl=>by
   have:=fy (step:=jT (i:Int) t) t.b7 (fun k n=>((k:Int),n)) (fun n x=>Un (eM n (sI i t.aF.aU x)) fun r=>some (.next r)) some (by omega)
    (fun k x n hx hk=>by
     simp only[jT,cR hk,bb,hx,Up,cond_true,cp (show k<9223372036854775807 by omega),sI]
     cases eM n ⟨(i:Int),false,true,t.aF.aU,dH,x⟩<;>rfl) (fun n=>by simp[jT]) n'
   refine Eq.trans (show iter (jT (i:Int) t) FU (0,n')=_ from this) ?_
   clear this
   have key:∀(l:List av) (n':ab),(∀x∈l,uf x)→jV (fun(n:ab) x=>Un (eM n (sI i t.aF.aU x)) fun r=>some (cB.next (ρ:=ab) r)) some l n'=some (sends n' (l.map (sI i t.aF.aU))):=by
    intro l
    induction l with
    |nil=>intro n' _;rfl
    |cons x l ih=>intro n' hx;rw[jV,vL (f:=sI i t.aF.aU x) ⟨by have:=(hx x (by simp)).2;simp only[sI];omega,fun _ _=>trivial⟩];exact ih _ fun y hy=>hx y (by simp[hy])
   exact key t.b7 n' ht
  have ss:=Cr (L:=pm) n1.am.length (by omega) (fun i n' hn'=>⟨fun hi s a hs ha hg hm=>by
   have hml:=kn hm
   have hk:=wh hg (m:=n'.dW) (by omega)
   simp only[pm,hn',cR hi,bb,hs,ha,Up,cond_true,PB hg (m:=n'.dW) (by omega) (FA hg.sp.page),Us,HA _ _ _ (show(md s a n'.dW).iy.length≤1048576 by have:=hk.pl;omega),radS _ i _ hk.rd hk.rl,rx,cp (show i<9223372036854775807 by omega)],fun hi=>by
   simp only[pm,hn',ltB_f.2 (show((n1.am.length:Nat):Int)≤(i:Int) by omega),cond_false]⟩) n1.am.length 0 n1 FU h2 (by omega) rfl (by have:=jC;omega) (by omega)
  rw[show((0:Nat):Int)=0 from rfl] at ss
  rw[rs.1]
  simp only[Up]
  rw[ss.1]
  exact⟨by first|rfl|trivial,by first|rfl|trivial,(ss).2.1.mono (by omega)⟩
 ·exact⟨by first|rfl|trivial,by first|rfl|trivial,h.mono (by omega)⟩
end Go.AM
namespace Go.AM
attribute [local simp] bz be bb
def tc (p:bN) (k:Int):Bool:=kZ p&&(inR k 0 (p.fH-1)&&eqB (wU .i64 (A5 .i64 p.fj k) 1) 1)
theorem nX {p:bN} (h:kZ p=true):1≤p.fH∧p.fH≤6:=by
 simp only[kZ,hV,bp] at h;exact h.1
theorem Jp (p:bN) (k:Int):lZ p k=some (tc p k):=by
 simp only[lZ,Hk,et,Up,tc]
 cases hp:kZ p
 ·rfl
 ·have:=nX hp
  rw[bB (n:=p.fH-1) (by omega)]
  cases hk:inR k 0 (p.fH-1)
  ·rfl
  ·rw[leB_t.2 (bp.1 hk).1];rfl
def kQ (p:bN) (k:Int) (up:Bool):bN:=
 bif !kZ p||!inR k 0 (p.fH-1) then p else⟨p.fH,bif up then bOr .i64 p.fj (jZ .i64 1 k) else tl .i64 p.fj (jZ .i64 1 k)⟩
theorem Pu (p:bN) (k:Int) (up:Bool):nj p k up=some (kQ p k up):=by
 simp only[nj,Hk,et,Up,kQ]
 cases hp:kZ p
 ·rfl
 ·have:=nX hp
  rw[bB (n:=p.fH-1) (by omega)]
  cases hk:inR k 0 (p.fH-1)
  ·rfl
  ·rw[leB_t.2 (bp.1 hk).1];cases up<;>rfl
theorem Mt:∀c∈SO 7,∀d∈SO (2^c),∀i∈SO c,
 (inR (Er .i64 (d:Int) (jZ .i64 1 (i:Int))) 0 (WR (jZ .i64 1 (c:Int)-1))&&(inR (bOr .i64 (d:Int) (jZ .i64 1 (i:Int))) 0 (WR (jZ .i64 1 (c:Int)-1))&&inR (tl .i64 (d:Int) (jZ .i64 1 (i:Int))) 0 (WR (jZ .i64 1 (c:Int)-1))))=true:=by decide+kernel
theorem Rp:∀c∈SO 7,WR (jZ .i64 1 (c:Int)-1)=((2^c:Nat):Int)-1:=by decide+kernel
theorem IP {c:Nat} (hc:c≤6) {d k:Int} (hd:inR d 0 (WR (jZ .i64 1 (c:Int)-1))=true) (hk:0≤k∧k<c):
 inR (Er .i64 d (jZ .i64 1 k)) 0 (WR (jZ .i64 1 (c:Int)-1))=true∧inR (bOr .i64 d (jZ .i64 1 k)) 0 (WR (jZ .i64 1 (c:Int)-1))=true∧inR (tl .i64 d (jZ .i64 1 k)) 0 (WR (jZ .i64 1 (c:Int)-1))=true:=by
 have hd':=bp.1 hd
 rw[Rp c (List.mem_range.2 (by omega))] at hd'
 have:=Mt c (List.mem_range.2 (by omega)) d.toNat (List.mem_range.2 (by omega)) k.toNat (List.mem_range.2 (by omega))
 rw[show((d.toNat:Nat):Int)=d by omega,show((k.toNat:Nat):Int)=k by omega] at this
 simpa only[hV] using this
theorem Nm {p:bN} (h:kZ p=true) (k:Int) (up:Bool):kZ (kQ p k up)=true∧(kQ p k up).fH=p.fH:=by
 rw[kQ,h]
 cases hk:inR k 0 (p.fH-1)
 ·exact⟨h,rfl⟩
 ·have hk:=bp.1 hk
  have hp:=nX h
  simp only[kZ,hV] at h
  have hm:=IP (c:=p.fH.toNat) (by omega) (d:=p.fj) (k:=k) (by rw[show((p.fH.toNat:Nat):Int)=p.fH by omega];exact h.2) (by omega)
  rw[show((p.fH.toNat:Nat):Int)=p.fH by omega] at hm
  simp only[TF,Bool.or_self,cond_false,kZ,hV]
  exact⟨⟨h.1,by cases up;exact hm.2.2;exact hm.2.1⟩,trivial⟩
def wt (a b:Int):Int:=Ur (WR (eh 17 [a,b]*eh 17 [a,b])) 2147483647
theorem wt_s (a b:Int):ga a b=some (wt a b):=by simp[ga,dB,wt]
def DI (p:bN) (i v:Int) (k:Int):Int:=bif tc p k&&(ltB v 0||ltB (wt v i) (wt k i)) then k else v
def Ps (p:bN) (i:Int):Nat→Nat→Int→Int
 |0,_,v=>v
 |c+1,k,v=>Ps p i c (k+1) (DI p i v k)
def sel (p:bN) (i:Int):Int:=Ps p i p.fH.toNat 0 (-1)
theorem Cl {p:bN} (h:kZ p=true) (i:Int):∀(c k fu:Nat) (v:Int),k+c=p.fH.toNat→c<fu→iter (iV p i) fu (v,(k:Int))=some (Ps p i c k v)
 |0,k,fu,v,h1,h2=>by
  have hp:=nX h
  cases fu with
  |zero=>omega
  |succ fu=>rw[iter];simp[iV,ltB_f.2 (show p.fH≤(k:Int) by omega),Ps]
 |c+1,k,fu,v,h1,h2=>by
  have hp:=nX h
  cases fu with
  |zero=>omega
  |succ fu=>
   have hc:(bif ltB (k:Int) p.fH then some (ltB (k:Int) 6) else some false)=some true:=by rw[ltB_t.2 (show(k:Int)<p.fH by omega),ltB_t.2 (show(k:Int)<6 by omega)];rfl
   have hs:(Un (bif tc p k then(bif ltB v 0 then some true else some (ltB (wt v i) (wt k i))) else some false) fun(v12:Bool)=>Un (bif v12 then some (k:Int) else some v) fun(v15:Int)=>some (cB.next (ρ:=Int) (v15,WR ((k:Int)+1))))=some (.next (DI p i v k,((k+1:Nat):Int))):=by
    rw[cp (by omega),DI]
    cases tc p k<;>cases ltB v 0<;>cases ltB (wt v i) (wt k i)<;>rfl
   rw[iter]
   simp only[iV,hc,Up,cond_true,Jp,wt_s,hs]
   exact Cl h i c (k+1) fu _ (by omega) (by omega)
theorem P9 {p:bN} (h:kZ p=true) (i:Int):jk p i=some (sel p i):=by
 have hp:=nX h
 have:=Cl h i p.fH.toNat 0 FU (-1) (by omega) (by have:=jC;omega)
 rw[show((0:Nat):Int)=0 from rfl] at this
 rw[jk,this];rfl
def rZ (p q:bN):Nat→Nat→List ag→List ag
 |0,_,l=>l
 |c+1,i,l=>rZ p q c (i+1) (bif eqB (sel p i) (sel q i) then l else match l[i]? with
  |some s=>l.set i (jj s)
  |none=>l)
def lI (n:ab) (k:Int) (up:Bool):Bool×ab:=
 let q:=kQ n.dR k up
 bif !inR k 0 (n.dR.fH-1)||(booB (tc n.dR k) up||eqB q.fj 0) then(false,n) else(true,{n with am:=rZ n.dR q n.am.length 0 n.am,dR:=q})
theorem lg (p q:bN):∀(c i:Nat) (l:List ag) (j:Nat),(rZ p q c i l)[j]?=l[j]?∨∃s,l[j]?=some s∧(rZ p q c i l)[j]?=some (jj s)
 |0,i,l,j=>.inl rfl
 |c+1,i,l,j=>by
  rw[rZ]
  cases eqB (sel p i) (sel q i)
  ·simp only[cond_false]
   cases hi:l[i]? with
   |none=>exact lg p q c (i+1) l j
   |some s=>
    simp only
    by_cases e:i=j
    ·subst e
     have hg:(l.set i (jj s))[i]?=some (jj s):=by simp[(List.getElem?_eq_some_iff.1 hi).1]
     rcases lg p q c (i+1) (l.set i (jj s)) i with h|⟨t,h1,h2⟩
     ·exact .inr ⟨s,hi,by rw[h,hg]⟩
     ·rw[hg] at h1;cases h1;exact .inr ⟨s,hi,h2⟩
    ·have hg:(l.set i (jj s))[j]?=l[j]?:=by rw[Uc,if_neg e]
     rcases lg p q c (i+1) (l.set i (jj s)) j with h|⟨t,h1,h2⟩
     ·exact .inl (by rw[h,hg])
     ·exact .inr ⟨t,by rw[←hg];exact h1,h2⟩
  ·exact lg p q c (i+1) l j
theorem BN (p q:bN):∀(c i:Nat) (l:List ag),(rZ p q c i l).length=l.length
 |0,i,l=>rfl
 |c+1,i,l=>by
  rw[rZ,BN]
  cases eqB (sel p i) (sel q i)
  ·simp only[cond_false];cases l[i]?<;>simp
  ·rfl
theorem ES {L:Int×List ag→Option (cB (Int×List ag) (List ag))} {p q:bN} (N:Nat)
 (hL:∀(i:Nat) (l:List ag),l.length=N→(i<N→(∀s∈l,eO s)→L ((i:Int),l)=some (.next (((i+1:Nat):Int),bif eqB (sel p i) (sel q i) then l else match l[i]? with|some s=>l.set i (jj s)|none=>l)))∧(N≤i→L ((i:Int),l)=some (.done l))):
 ∀(c i fu:Nat) (l:List ag),i+c=N→l.length=N→(∀s∈l,eO s)→c<fu→iter L fu ((i:Int),l)=some (rZ p q c i l)
 |0,i,fu,l,h1,h2,h3,h4=>by
  cases fu with
  |zero=>omega
  |succ fu=>rw[iter,(hL i l h2).2 (by omega)];rfl
 |c+1,i,fu,l,h1,h2,h3,h4=>by
  cases fu with
  |zero=>omega
  |succ fu=>
   rw[iter,(hL i l h2).1 (by omega) h3,rZ]
   simp only
   refine ES N hL c (i+1) fu _ (by omega) ?_ (fun s hs=>?_) (by omega)
   ·cases eqB (sel p i) (sel q i)
    ·simp only[cond_false];cases l[i]?<;>simp[h2]
    ·exact h2
   ·revert hs
    cases eqB (sel p i) (sel q i)
    ·simp only[cond_false]
     cases hi:l[i]? with
     |none=>exact h3 s
     |some t=>
      intro hs
      rcases U7 hs with hs|rfl
      ·exact h3 s hs
      ·exact h3 t (RS hi)
    ·exact h3 s
theorem F9 {B:Int} {n:ab} (h:NP B n) (k:Int) (up:Bool):qX n k up=some (lI n k up)∧True∧NP B (lI n k up).2:=by
 have hp:=nX h.core
 have hls:=h.ls
 have hq:=Nm h.core k up
 have hok:∀s∈n.am,eO s:=fun s hs=>by
  obtain⟨i,hi⟩:=SS hs
  have hlt:=(List.getElem?_eq_some_iff.1 hi).1
  obtain⟨d,s',a,e1,e2,e3,hm⟩:=h.at_ (show i<n.ai.length by omega)
  rw[hi] at e2;cases e2;exact hm.sg.sp.ok
 have hl4:=h.ld
 have r1:=ES (L:=lP n (kQ n.dR k up)) (p:=n.dR) (q:=kQ n.dR k up) n.am.length (fun i l hl=>⟨fun hi hl3=>by
  obtain⟨s,hs⟩:∃s,l[i]?=some s:=⟨_,v0 (by omega)⟩
  simp only[lP,hl,cR hi,P9 h.core,P9 hq.1,bb,hs,Qy (hl3 s (RS hs)),Up,cond_true,Us,cp (show i<9223372036854775807 by omega)]
  cases eqB (sel n.dR i) (sel (kQ n.dR k up) i)<;>rfl,fun hi=>by
  simp only[lP,hl,ltB_f.2 (show((n.am.length:Nat):Int)≤(i:Int) by omega),cond_false]⟩) n.am.length 0 FU n.am (by omega) rfl hok (by have:=jC;omega)
 rw[show((0:Nat):Int)=0 from rfl] at r1
 refine⟨?_,trivial,?_⟩
 ·simp only[qX,Pu,et,Jp,r1,Up,bB (n:=n.dR.fH-1) (by omega),lI]
  cases inR k 0 (n.dR.fH-1)<;>cases booB (tc n.dR k) up<;>cases eqB (kQ n.dR k up).fj 0<;>rfl
 ·simp only[lI]
  cases hb:!inR k 0 (n.dR.fH-1)||(booB (tc n.dR k) up||eqB (kQ n.dR k up).fj 0)
  ·simp only[SX] at hb
   refine {h with core:=hq.1,up:=EN hb.2.2,ls:=by simp only[cond_false];rw[BN];exact hls,m:=fun i d s a hd hs ha=>?_}
   simp only[cond_false] at hd hs ha ⊢
   rcases lg n.dR (kQ n.dR k up) n.am.length 0 n.am i with e|⟨t,e1,e2⟩
   ·rw[e] at hs;exact h.m i d s a hd hs ha
   ·rw[e2] at hs;cases hs
    have hm:=h.m i d t a hd e1 ha
    exact⟨hm.dp,hm.dc,Nd hm.sg,hm.sc,hm.si,hm.ids⟩
  ·exact h
end Go.AM
namespace Go.AM
attribute [local simp] bz be bb
theorem I6:eqB 3 2=false:=by simp[eqB]
theorem I8:eqB 4 2=false:=by simp[eqB]
theorem I9:eqB 4 3=false:=by simp[eqB]
theorem Ja:eqB 6 5=false:=by simp[eqB]
theorem Jb:eqB 7 5=false:=by simp[eqB]
theorem Jc:eqB 7 6=false:=by simp[eqB]
theorem FG:eqB 8 5=false:=by simp[eqB]
theorem FH:eqB 8 6=false:=by simp[eqB]
theorem FJ:eqB 8 7=false:=by simp[eqB]
theorem I7:eqB 3 4=false:=by simp[eqB]
theorem I5:eqB 2 3=false:=by simp[eqB]
structure EP (e:cX):Prop where
 d:okB e.aN
 f:jQ e.bk
 r:okB e.bk.b7.aZ.aN
def qE (n:ab) (e:cX):Bool×ab:=
 bif !inR e.cr 0 (((n.aQ.length:Nat):Int)-1) then(false,n) else
 bif eqB e.aP 2 then(true,iA n e.cr.toNat) else
 bif eqB e.aP 3 then(true,J4 (iN n e.cr.toNat)) else
 bif leB 200 ((n.aQ.length:Nat):Int) then(false,n) else match n.aQ[e.cr.toNat]? with
  |none=>(true,n)
  |some f=>(true,eF n f)
theorem EU {B:Int} {n:ab} (h:NP B n) (e:cX) (hk:e.aP=2∨e.aP=3∨e.aP=4) (hB:B+1<4611686018427387904):
 qW n e=some (qE n e)∧True∧NP (B+1) (qE n e).2:=by
 have hfl:=h.fl
 simp only[qW,et,qE,bB (n:=((n.aQ.length:Nat):Int)-1) (by omega),Up]
 cases hr:inR e.cr 0 (((n.aQ.length:Nat):Int)-1)
 ·exact⟨by first|rfl|trivial,by first|rfl|trivial,h.mono (by omega)⟩
 ·have hr:=bp.1 hr
  obtain⟨k,hk'⟩:∃k:Nat,e.cr=k:=⟨e.cr.toNat,by omega⟩
  have hlt:k<n.aQ.length:=by omega
  obtain⟨f,hf⟩:∃f,n.aQ[k]?=some f:=⟨_,v0 hlt⟩
  have hp:=h.fs f (RS hf)
  simp only[hk',Us,JR h hlt,Jt h.fl hf,vL hp.ok,bb,hf,Up,TF,cond_false]
  rcases hk with e2|e2|e2<;>rw[e2]<;>simp only[I6,I8,I9,Ja,Jb,Jc,FG,FH,FJ,I7,I5,be,cond_true,cond_false]
  ·exact⟨by first|rfl|trivial,by first|rfl|trivial,GN h k hB⟩
  ·exact⟨by first|rfl|trivial,by first|rfl|trivial,Da (yC h k) (by omega)⟩
  ·cases leB 200 ((n.aQ.length:Nat):Int)
   ·exact⟨by first|rfl|trivial,by first|rfl|trivial,uO h hp (by omega)⟩
   ·exact⟨by first|rfl|trivial,by first|rfl|trivial,h.mono (by omega)⟩
def zS (n:ab) (e:cX):Bool×ab:=
 bif !inR e.cr 0 (((n.ai.length:Nat):Int)-1) then(false,n) else match n.ai[e.cr.toNat]?,n.am[e.cr.toNat]? with
  |some d,some s=>
   bif eqB e.aP 5 then(bif !eqB d.bg 0 then(false,n) else(true,fL n e.cr.toNat (dOn d))) else
   bif eqB e.aP 6 then(bif eqB e.aU d.aU||!ew n.dW e.aU then(false,n) else(true,fL n e.cr.toNat (rm d e.aU))) else
   bif eqB e.aP 7 then(bif !eqB d.bg 2 then(false,n) else(true,{n with ai:=n.ai.set e.cr.toNat (rT d)})) else
   bif(pL s e.aN).2 then(true,{n with am:=n.am.set e.cr.toNat (pL s e.aN).1}) else(false,n)
  |_,_=>(false,n)
theorem GL (d:ay):(rT d).dq=d.dq∧(rT d).aU=d.aU:=by
 rw[rT];cases eqB d.bg 2<;>exact⟨rfl,rfl⟩
theorem MR {B:Int} {n:ab} (h:NP B n) (e:cX) (he:EP e) (hk:e.aP=5∨e.aP=6∨e.aP=7∨e.aP=8) (hB:B+1<4611686018427387904):
 yP n e=some (zS n e)∧True∧NP (B+1) (zS n e).2:=by
 have hl:=h.ld
 have hm6:=kn h.map
 have hnm:NP (B+1) n:=h.mono (by omega)
 simp only[yP,et,zS,bB (n:=((n.ai.length:Nat):Int)-1) (by omega),bB (n:=((n.dW.aX.length:Nat):Int)-1) (by omega),Up]
 cases hr:inR e.cr 0 (((n.ai.length:Nat):Int)-1)
 ·exact⟨by first|rfl|trivial,by first|rfl|trivial,hnm⟩
 ·have hr:=bp.1 hr
  obtain⟨k,hk'⟩:∃k:Nat,e.cr=k:=⟨e.cr.toNat,by omega⟩
  have hlt:k<n.ai.length:=by omega
  obtain⟨d,s,a,e1,e2,e3,hm⟩:=h.at_ hlt
  have l1:=(GM d).len
  have l2:(rm d e.aU).dD.length≤1:=by rcases EG d e.aU with h|h;exact h.len;exact h.2.len
  simp only[hk',Us,bb,e1,e2,on_s hm.dp.ok,QU hm.dp.ok hm.dp.ep,QH hm.dp.ok,Qd hm.sg.sp.ok,sH hlt (show(dOn d).dD.length≤1048576 by omega),sH hlt (show(rm d e.aU).dD.length≤1048576 by omega),Up,TF,cond_false]
  rw[show inR e.aU 0 (((n.dW.aX.length:Nat):Int)-1)=ew n.dW e.aU from rfl]
  rcases hk with e4|e4|e4|e4<;>rw[e4]<;>simp only[I6,I8,I9,Ja,Jb,Jc,FG,FH,FJ,I7,I5,be,cond_true,cond_false]
  ·cases eqB d.bg 0
   ·exact⟨by first|rfl|trivial,by first|rfl|trivial,hnm⟩
   ·exact⟨by first|rfl|trivial,by first|rfl|trivial,iP h e1 (GM d) (Qs hm.dp) hm.dc hB⟩
  ·cases hx:eqB e.aU d.aU<;>cases hy:ew n.dW e.aU<;>try exact⟨by first|rfl|trivial,by first|rfl|trivial,hnm⟩
   refine⟨by first|rfl|trivial,by first|rfl|trivial,?_⟩
   have hc:=bp.1 (show inR e.aU 0 (((n.dW.aX.length:Nat):Int)-1)=true from hy)
   rcases EG d e.aU with h'|h'
   ·exact iP h e1 h' (EI hm.dp _) hm.dc hB
   ·exact iP h e1 h'.2 (EI hm.dp _) (by omega) hB
  ·cases eqB d.bg 2
   ·exact⟨by first|rfl|trivial,by first|rfl|trivial,hnm⟩
   ·refine⟨by first|rfl|trivial,by first|rfl|trivial,NP.mono (B:=B) ?_ (by omega)⟩
    have hik:=GL d
    refine h.setD e2 e3 ⟨LC hm.dp,by rw[hik.2];exact hm.dc,hm.sg,hm.sc,hm.si,?_⟩
    have:=hm.ids
    simp only[Ba,hik.1] at this ⊢;exact this
  ·cases hb:(pL s e.aN).2
   ·have hs:(pL s e.aN).1=s:=by
     revert hb;rw[pL];cases leB 24 ((s.ao.length:Nat):Int)||ltB 60 ((e.aN.length:Nat):Int)
     ·intro hb;cases hb
     ·intro _;rfl
    refine⟨?_,by first|rfl|trivial,hnm⟩
    first|trivial|(rw[hs,dK e2];rfl)
   ·refine⟨by first|rfl|trivial,by first|rfl|trivial,NP.mono (B:=B) ?_ (by omega)⟩
    have hg:=Pq hm.sg he.d
    refine h.setS e1 e3 ⟨hm.dp,hm.dc,hg,?_,?_,?_⟩
    all_goals
     rw[pL]
     cases leB 24 ((s.ao.length:Nat):Int)||ltB 60 ((e.aN.length:Nat):Int)
    ·exact hm.sc
    ·exact hm.sc
    ·exact hm.si
    ·exact hm.si
    ·exact hm.ids
    ·exact hm.ids
def zR (n:ab) (c:Int) (up:Bool):Bool×ab:=
 bif !ew n.dW c||booB (xa n c) up then(false,n) else(true,{n with dh:=Er .i64 n.dh (jZ .i64 1 c)})
theorem JL {B:Int} {n:ab} (h:NP B n) (e:cX):
 wE n e.cr (eqB e.aP 10)=some (zR n e.cr (eqB e.aP 10))∧True∧NP B (zR n e.cr (eqB e.aP 10)).2:=by
 have hm6:=kn h.map
 simp only[wE,et,Mm hm6,zR,bB (n:=((n.dW.aX.length:Nat):Int)-1) (by omega),Up]
 rw[show inR e.cr 0 (((n.dW.aX.length:Nat):Int)-1)=ew n.dW e.cr from rfl]
 cases hc:ew n.dW e.cr
 ·exact⟨by first|rfl|trivial,by first|rfl|trivial,h⟩
 ·have hi:=bp.1 (show inR e.cr 0 (((n.dW.aX.length:Nat):Int)-1)=true from hc)
  rw[leB_t.2 hi.1]
  cases booB (xa n e.cr) (eqB e.aP 10)
  ·exact⟨by first|rfl|trivial,by first|rfl|trivial,{h with dn:=(IP hm6.2 h.dn (by omega)).1}⟩
  ·exact⟨by first|rfl|trivial,by first|rfl|trivial,h⟩
def ur (n:ab) (f:bJ):Bool:=ltB ((n.aQ.length:Nat):Int) 200&&(inR f.a9 0 (((n.ai.length:Nat):Int)-1)&&ew n.dW f.aU)
def uM (n:ab) (f:bJ):Bool×ab:=bif !ur n f then(false,n) else(true,eF n f)
theorem GX {B:Int} {n:ab} (h:NP B n) (e:cX) (he:EP e) (hB:B<4611686018427387904):
 (Un (gV n e.bk) fun r13=>bif !r13 then(some (false,n)) else(Un (eM n e.bk) fun r14=>some (true,r14)))=some (uM n e.bk)∧True∧NP (B+1) (uM n e.bk).2:=by
 have hm6:=kn h.map
 have hl:=h.ld
 simp only[gV,et,vL he.f,uM,ur,bB (n:=((n.dW.aX.length:Nat):Int)-1) (by omega),bB (n:=((n.ai.length:Nat):Int)-1) (by omega),Up]
 rw[show inR e.bk.aU 0 (((n.dW.aX.length:Nat):Int)-1)=ew n.dW e.bk.aU from rfl]
 try rw[show leB 200 ((n.aQ.length:Nat):Int)=!ltB ((n.aQ.length:Nat):Int) 200 by simp only[leB,ltB];rw[Bool.eq_iff_iff];simp]
 cases h1:ltB ((n.aQ.length:Nat):Int) 200<;>cases h2:inR e.bk.a9 0 (((n.ai.length:Nat):Int)-1)<;>cases h3:ew n.dW e.bk.aU<;>try exact⟨by first|rfl|trivial,by first|rfl|trivial,h.mono (by omega)⟩
 have hd:=bp.1 h2
 have hc:=bp.1 (show inR e.bk.aU 0 (((n.dW.aX.length:Nat):Int)-1)=true from h3)
 exact⟨by first|rfl|trivial,by first|rfl|trivial,uO h ⟨by omega,by omega,he.r,he.f⟩ (by omega)⟩
def i9 (n:ab) (e:cX):Bool×ab:=
 if e.aP=1 then zT n else
 if e.aP=2∨e.aP=3∨e.aP=4 then qE n e else
 if e.aP=5∨e.aP=6∨e.aP=7∨e.aP=8 then zS n e else
 if e.aP=9∨e.aP=10 then zR n e.cr (eqB e.aP 10) else
 if e.aP=11∨e.aP=12 then lI n e.cr (eqB e.aP 12) else
 if e.aP=13 then uM n e.bk else(false,n)
theorem yZ {B:Int} {n:ab} (h:NP B n) {e:cX} (he:EP e) (hB:B+10000<4611686018427387904):
 tM n e=some (i9 n e)∧True∧NP (B+10000) (i9 n e).2:=by
 rw[i9,tM]
 by_cases h1:e.aP=1
 ·rw[if_pos h1,h1]
  have:=KR h hB
  simp only[be,cond_true,this.1,Up]
  exact⟨by first|rfl|trivial,by first|rfl|trivial,this.2.2⟩
 rw[if_neg h1]
 have n1:eqB e.aP 1=false:=by simpa [eqB] using h1
 by_cases h2:e.aP=2∨e.aP=3∨e.aP=4
 ·rw[if_pos h2]
  have:=EU h e h2 (by omega)
  have hb':(bif eqB e.aP 2 then(some (eqB e.aP 2)) else(Un (bif eqB e.aP 3 then(some (eqB e.aP 3)) else(some (eqB e.aP 4))) fun(v3:Bool)=>some v3))=some true:=by
   rcases h2 with e|e|e<;>rw[e]<;>simp only[I6,I8,I9,Ja,Jb,Jc,FG,FH,FJ,I7,I5,be,cond_true,cond_false]<;>rfl
  rw[n1,hb']
  simp only[cond_true,cond_false,this.1,Up]
  exact⟨by first|rfl|trivial,by first|rfl|trivial,this.2.2.mono (by omega)⟩
 rw[if_neg h2]
 have hb':(bif eqB e.aP 2 then(some (eqB e.aP 2)) else(Un (bif eqB e.aP 3 then(some (eqB e.aP 3)) else(some (eqB e.aP 4))) fun(v3:Bool)=>some v3))=some false:=by
  rw[show eqB e.aP 2=false by simp[eqB];omega,show eqB e.aP 3=false by simp[eqB];omega,show eqB e.aP 4=false by simp[eqB];omega];rfl
 rw[n1,hb']
 simp only[cond_false,Up]
 by_cases h3:e.aP=5∨e.aP=6∨e.aP=7∨e.aP=8
 ·rw[if_pos h3]
  have:=MR h e he h3 (by omega)
  have hb3:(bif eqB e.aP 5 then(some (eqB e.aP 5)) else(Un (bif eqB e.aP 6 then(some (eqB e.aP 6)) else(Un (bif eqB e.aP 7 then(some (eqB e.aP 7)) else(some (eqB e.aP 8))) fun(v7:Bool)=>some v7)) fun(v6:Bool)=>some v6))=some true:=by
   rcases h3 with e|e|e|e<;>rw[e]<;>simp only[I6,I8,I9,Ja,Jb,Jc,FG,FH,FJ,I7,I5,be,cond_true,cond_false]<;>rfl
  rw[hb3]
  simp only[cond_true,this.1,Up]
  exact⟨by first|rfl|trivial,by first|rfl|trivial,this.2.2.mono (by omega)⟩
 rw[if_neg h3]
 have hb3:(bif eqB e.aP 5 then(some (eqB e.aP 5)) else(Un (bif eqB e.aP 6 then(some (eqB e.aP 6)) else(Un (bif eqB e.aP 7 then(some (eqB e.aP 7)) else(some (eqB e.aP 8))) fun(v7:Bool)=>some v7)) fun(v6:Bool)=>some v6))=some false:=by
  rw[show eqB e.aP 5=false by simp[eqB];omega,show eqB e.aP 6=false by simp[eqB];omega,show eqB e.aP 7=false by simp[eqB];omega,show eqB e.aP 8=false by simp[eqB];omega];rfl
 rw[hb3]
 simp only[cond_false,Up]
 by_cases h4:e.aP=9∨e.aP=10
 ·rw[if_pos h4]
  have:=JL h e
  have hb4:(bif eqB e.aP 9 then(some (eqB e.aP 9)) else(some (eqB e.aP 10)))=some true:=by rcases h4 with e|e<;>rw[e]<;>simp[eqB]
  rw[hb4]
  simp only[cond_true,this.1,Up]
  exact⟨by first|rfl|trivial,by first|rfl|trivial,this.2.2.mono (by omega)⟩
 rw[if_neg h4]
 have hb4:(bif eqB e.aP 9 then(some (eqB e.aP 9)) else(some (eqB e.aP 10)))=some false:=by
  rw[show eqB e.aP 9=false by simp[eqB];omega,show eqB e.aP 10=false by simp[eqB];omega];rfl
 rw[hb4]
 simp only[cond_false,Up]
 by_cases h5:e.aP=11∨e.aP=12
 ·rw[if_pos h5]
  have:=F9 h e.cr (eqB e.aP 12)
  have hb5:(bif eqB e.aP 11 then(some (eqB e.aP 11)) else(some (eqB e.aP 12)))=some true:=by rcases h5 with e|e<;>rw[e]<;>simp[eqB]
  rw[hb5]
  simp only[cond_true,this.1,Up]
  exact⟨by first|rfl|trivial,by first|rfl|trivial,this.2.2.mono (by omega)⟩
 rw[if_neg h5]
 have hb5:(bif eqB e.aP 11 then(some (eqB e.aP 11)) else(some (eqB e.aP 12)))=some false:=by
  rw[show eqB e.aP 11=false by simp[eqB];omega,show eqB e.aP 12=false by simp[eqB];omega];rfl
 rw[hb5]
 simp only[cond_false,Up]
 by_cases h6:e.aP=13
 ·rw[if_pos h6,h6]
  have:=GX h e he (by omega)
  simp only[be,cond_true,this.1,Up]
  exact⟨by first|rfl|trivial,by first|rfl|trivial,this.2.2.mono (by omega)⟩
 ·rw[if_neg h6,show eqB e.aP 13=false by simpa [eqB] using h6]
  exact⟨by first|rfl|trivial,by first|rfl|trivial,h.mono (by omega)⟩
end Go.AM
namespace Go.AM
attribute [local simp] bz be bb
structure BY (n:ab):Prop where
 d1:∀d∈n.ai,∀x∈d.bi.aD,okB x.aN
 d2:∀d∈n.ai,∀p∈d.bi.aG,okB p.aN
 s1:∀s∈n.am,∀p∈s.ao,okB p.aN
 s2:∀s∈n.am,∀x∈s.an.aw,okB x.aN
 f:∀f∈n.aQ,okB f.b7.aZ.aN
theorem NP.of {n:ab} (ok:iB n) (v:mn n=true) (b:BY n):NP n.jX n:=by
 simp only[mn,A7,hV,bp,eo,Ui,flB] at v
 obtain⟨v1,v2,v3,v4,v5,v6,v7,v8,v9,v10,v11,v12⟩:=v
 have v4:=t0 v4
 have v5:=yF v5
 have v6:=yF v6
 have v8:=t0 v8
 have v12:=t0 v12
 refine⟨v1,ok.1,v2,EN (by simpa using v3),by omega,v5,v6,fun i d s a hd hs ha=>?_,by omega,fun f hf=>?_,bp.2 v10,v11,⟨v12,by omega⟩⟩
 ·have:=v7 i d hd
  simp only[xe,hs,ha,hV] at this
  obtain⟨m1,m2,m3,m4,m5,m6,m7,m8⟩:=this
  have hdm:=RS hd
  have hsm:=RS hs
  have c1:=bp.1 (show inR d.aU 0 (((n.dW.aX.length:Nat):Int)-1)=true from m5)
  have c2:=bp.1 (show inR s.aU 0 (((n.dW.aX.length:Nat):Int)-1)=true from m6)
  exact⟨DP.of m1 (ok.2.1.2 d hdm) (b.d1 d hdm) (b.d2 d hdm),by omega,⟨(wl (ok.2.2.1.2 s hsm)).1 m2,b.s1 s hsm,b.s2 s hsm,tE.1 m8⟩,by omega,mR m7,m4⟩
 ·have:=v9 f hf
  have c2:=bp.1 (show inR f.aU 0 (((n.dW.aX.length:Nat):Int)-1)=true from this.2)
  exact⟨by omega,by omega,b.f f hf,ok.2.2.2.2.2 f hf⟩
theorem NP.okN {B:Int} {n:ab} (h:NP B n):iB n:=by
 have h1:=h.ld
 have h2:=h.ls
 have h3:=h.la
 have h4:=h.fl
 refine⟨h.mok,⟨by omega,fun d hd=>?_⟩,⟨by omega,fun s hs=>?_⟩,⟨by omega,fun a ha=>?_⟩,⟨by omega,fun f hf=>(h.fs f hf).ok⟩⟩
 ·obtain⟨i,hi⟩:=SS hd
  have hlt:=(List.getElem?_eq_some_iff.1 hi).1
  obtain⟨d',s,a,e1,e2,e3,hm⟩:=h.at_ hlt
  rw[hi] at e1;cases e1;exact hm.dp.ok
 ·obtain⟨i,hi⟩:=SS hs
  have hlt:=(List.getElem?_eq_some_iff.1 hi).1
  obtain⟨d',s,a,e1,e2,e3,hm⟩:=h.at_ (show i<n.ai.length by omega)
  rw[hi] at e2;cases e2;exact hm.sg.sp.ok
 ·obtain⟨i,hi⟩:=SS ha
  have hlt:=(List.getElem?_eq_some_iff.1 hi).1
  obtain⟨d',s,a,e1,e2,e3,hm⟩:=h.at_ (show i<n.ai.length by omega)
  rw[hi] at e3;cases e3;exact hm.sg.mo.acc.ok
theorem NP.by_ {B:Int} {n:ab} (h:NP B n):BY n:=by
 have h1:=h.ld
 have h2:=h.ls
 have gd:∀d∈n.ai,DP d:=fun d hd=>by
  obtain⟨i,hi⟩:=SS hd
  obtain⟨d',s,a,e1,e2,e3,hm⟩:=h.at_ (List.getElem?_eq_some_iff.1 hi).1
  rw[hi] at e1;cases e1;exact hm.dp
 have gs:∀s∈n.am,∃a,SG s a:=fun s hs=>by
  obtain⟨i,hi⟩:=SS hs
  have hlt:=(List.getElem?_eq_some_iff.1 hi).1
  obtain⟨d',s,a,e1,e2,e3,hm⟩:=h.at_ (show i<n.ai.length by omega)
  rw[hi] at e2;cases e2;exact⟨a,hm.sg⟩
 exact⟨fun d hd=>(gd d hd).rc.b1,fun d hd=>(gd d hd).rc.b2,fun s hs=>(gs s hs).elim fun a h=>h.b1,fun s hs=>(gs s hs).elim fun a h=>h.b2,fun f hf=>(h.fs f hf).b⟩
theorem NP.vn {B:Int} {n:ab} (h:NP B n):mn n=true:=by
 have h1:=h.ld
 have h2:=h.ls
 have h3:=h.la
 have h4:=h.fl
 have h5:=h.lo
 have hu:eqB n.dR.fj 0=false:=by simpa [eqB] using h.up
 simp only[mn,A7,hV,bp,eo,Ui,flB]
 refine⟨h.map,h.core,by simp[hu],leB_t.2 (by omega),eqB_t.2 (by omega),eqB_t.2 (by omega),fun i d hd=>?_,leB_t.2 (by omega),fun f hf=>?_,bp.1 h.dn,h.nw,leB_t.2 h5.1⟩
 ·obtain⟨d',s,a,e1,e2,e3,hm⟩:=h.at_ (List.getElem?_eq_some_iff.1 hd).1
  rw[hd] at e1;cases e1
  have hc:=hm.dp.ce
  have hsc:=hm.sg.sp
  simp only[xe,e2,e3,hV]
  exact⟨hm.dp.v,(wl hm.sg.sp.ok).2 hm.sg.sp,yy.2 hm.sg.mo.acc,hm.ids,bp.2 (by have:=hm.dc;omega),bp.2 (by have:=hm.sc;have:=hsc.ce;omega),eqB_t.2 hm.si,tE.2 hm.sg.mo⟩
 ·have hf:=h.fs f hf
  exact⟨by have:=hf.d;omega,bp.2 (by have:=hf.c;omega)⟩
end Go.AM
namespace Go.AM
open Go.Proofs
attribute [local simp] bz be bb
theorem CK (x:Int) (m:Nat) (hm:m<9223372036854775808):0≤wU .i64 x (m:Int)∧wU .i64 x (m:Int)≤m:=by
 unfold wU
 have h1:(BitVec.ofInt IntKind.i64.bits x&&& BitVec.ofInt IntKind.i64.bits (m:Int)).toNat≤m:=by
  rw[BitVec.toNat_and]
  refine Nat.le_trans Nat.and_le_right ?_
  show(BitVec.ofInt 64 (m:Int)).toNat≤m
  rw[BitVec.toNat_ofInt]
  omega
 rw[Ee (by omega)]
 omega
structure cL (c:aH):Prop where
 l:c.fb.length≤1048576
 u:∀x∈c.fb,sE x
 a:0≤c.fi
 b:c.fi≤c.fb.length
theorem vl {c:aH} (h:cL c):∃v c',o6 c=some (v,c')∧0≤v∧v≤255∧cL c':=by
 unfold o6
 have:=h.l
 have ha:=h.a
 have hb:=h.b
 by_cases hi:c.fi<c.fb.length
 ·obtain⟨x,hx,e⟩:=ix_in h.a hi
  rw[show ltB c.fi ((c.fb.length:Nat):Int)=true from by simp[ltB,hi]]
  simp only[cond_true,e,Up]
  refine⟨_,_,rfl,(CK _ 255 (by omega)).1,(CK _ 255 (by omega)).2,⟨h.l,h.u,?_,?_⟩⟩
  ·show 0≤WR (c.fi+1);rw[bB (by omega)];omega
  ·show WR (c.fi+1)≤(c.fb.length:Int);rw[bB (by omega)];omega
 ·rw[show ltB c.fi ((c.fb.length:Nat):Int)=false from by simp[ltB];omega]
  simp only[cond_false,Up]
  exact⟨_,_,rfl,(CK _ 255 (by omega)).1,(CK _ 255 (by omega)).2,⟨h.l,h.u,h.a,h.b⟩⟩
theorem yR {v n:Int} (hv:0≤v) (hn:0<n):0≤Ur v n∧Ur v n<n:=by
 rw[Int.tmod_eq_emod_of_nonneg hv]
 exact⟨Int.emod_nonneg _ (by omega),Int.emod_lt_of_pos _ hn⟩
theorem Et {c:aH} (h:cL c) {n:Int} (hn:1≤n):∃v c',bZ c n=some (v,c')∧0≤v∧v<n∧cL c':=by
 unfold bZ
 rw[show leB n 0=false from by simp[leB];omega]
 have hz:(!eqB n 0)=true:=by simp[eqB];omega
 simp only[cond_false,hz,cond_true]
 by_cases h2:n≤256
 ·rw[show leB n 256=true from by simp[leB,h2]]
  obtain⟨v,c',e,h0,h1,hc⟩:=vl h
  have:=yR h0 (show 0<n by omega)
  simp only[cond_true,e,Up]
  exact⟨_,_,rfl,this.1,this.2,hc⟩
 ·rw[show leB n 256=false from by simp[leB];omega]
  obtain⟨v,c1,e,h0,h1,hc⟩:=vl h
  obtain⟨v2,c2,e2,h02,h12,hc2⟩:=vl hc
  obtain⟨v3,c3,e3,h03,h13,hc3⟩:=vl hc2
  simp only[cond_false,e,e2,e3,Up]
  rw[bB (n:=v*65536) (by omega),bB (n:=v2*256) (by omega),bB (n:=v*65536+v2*256) (by omega),bB (n:=v*65536+v2*256+v3) (by omega)]
  have:=yR (v:=v*65536+v2*256+v3) (by omega) (show 0<n by omega)
  exact⟨_,_,rfl,this.1,this.2,hc3⟩
theorem O8 {c:aH} (h:cL c) {n:Int} (hn:1≤n):∃v c',gb c n=some (v,c')∧cL c':=by
 obtain⟨v,c',e,_,_,hc⟩:=Et h hn
 exact⟨_,_,by rw[gb,e];rfl,hc⟩
theorem Q1 {xs:List Int} (hl:xs.length≤1048576) (hu:∀x∈xs,sE x):∃c,DT xs=some c∧cL c∧c.fb=xs:=by
 have key:∀(m n k:Nat) (v:Int),m=xs.length-k→k≤xs.length→m<n→∃r,iter (qh xs) n (v,(k:Int))=some r:=by
  intro m
  induction m with
  |zero=>
   intro n k v hm hk hn
   cases n with
   |zero=>omega
   |succ n=>
    have:k=xs.length:=by omega
    subst this
    exact⟨v,by rw[iter];simp[qh]⟩
  |succ m ih=>
   intro n k v hm hk hn
   cases n with
   |zero=>omega
   |succ n=>
    have hlt:k<xs.length:=by omega
    rw[iter]
    simp only[qh,cR hlt,cond_true,Up,bb,v0 hlt,cp (show k<9223372036854775807 by omega)]
    cases ltB (k:Int) 4000
    ·exact⟨v,rfl⟩
    ·exact ih n (k+1) _ (by omega) (by omega) (by omega)
 obtain⟨r,hr⟩:=key xs.length FU 0 (WR (193017+((xs.length:Nat):Int))) (by omega) (by omega) (by have:=jC;omega)
 refine⟨⟨xs,0,r⟩,?_,⟨hl,hu,U5 0,Int.natCast_nonneg _⟩,rfl⟩
 rw[DT,show iter (qh xs) FU (WR (193017+((xs.length:Nat):Int)),0)=some r from hr]
 rfl
end Go.AM
namespace Go.AM
attribute [local simp] bz be bb
theorem dx {c:aH} (h:cL c) {n:Int} (hn:1≤n):Wp (bZ c n) (fun r=>cL r.2∧0≤r.1∧r.1<n):=by
 obtain⟨v,c',e,h0,h1,hc⟩:=Et h hn
 exact Wp.of e ⟨hc,h0,h1⟩
theorem th {c:aH} (h:cL c) {n:Int} (hn:1≤n):Wp (gb c n) (fun r=>cL r.2):=by
 obtain⟨v,c',e,hc⟩:=O8 h hn
 exact Wp.of e hc
theorem PG {c:aH} (h:cL c) {xs:List Int} (hx:xs≠[]):Wp (u6 c xs) (fun r=>cL r.2∧r.1∈xs):=by
 have hl:0<xs.length:=List.length_pos_iff.2 hx
 unfold u6
 refine Wp.call (dx h (by omega)) fun r hr=>?_
 exact Wp.ix hr.2.1 hr.2.2 fun x hm _=>Wp.some ⟨hr.1,hm⟩
theorem N0 {c:aH} (h:cL c) {n:Int} (h0:0≤n) (hn:n≤4000):Wp (sY c n) (fun r=>cL r.2∧okB r.1∧(r.1.length:Int)=n):=by
 unfold sY
 refine Wp.call (P:=fun x=>cL x.2∧okB x.1∧(x.1.length:Int)=n) ?_ fun x hx=>Wp.some hx
 refine Wp.iterF (fun x=>(0≤x.1∧x.1≤n)∧cL x.2.2∧okB x.2.1∧(x.2.1.length:Int)=x.1) (fun x=>(n-x.1).toNat) ⟨⟨by omega,by omega⟩,h,fun x hx=>by simp at hx,by simp⟩ (by simp only;have:=jC;omega) ?_
 rintro⟨v1,v5,v6⟩ ⟨⟨i0,i1⟩,i2,i3,i4⟩
 simp only at i0 i1 i2 i3 i4
 simp only[yb]
 refine Wp.cond (fun hb=>?_) (fun hb=>Wp.some ⟨i2,i3,by have:=oF hb;show(v5.length:Int)=n;omega⟩)
 have hb:=km hb
 obtain⟨b,c',e,b0,b1,hc⟩:=vl i2
 refine Wp.call (Wp.of (Q:=fun r=>cL r.2∧0≤r.1∧r.1≤255) e ⟨hc,b0,b1⟩) fun r hr=>?_
 refine Wp.ok (fB (by simp;omega) (by simp;omega)) (Wp.some ⟨⟨⟨?_,?_⟩,hr.1,?_,?_⟩,?_⟩)
 all_goals simp only[bB (show-9223372036854775808≤v1+1∧v1+1≤9223372036854775807 by omega)]
 ·omega
 ·omega
 ·intro x hx
  rcases List.mem_append.1 hx with hx|hx
  ·exact i3 x hx
  ·simp at hx;subst hx
   have e1:IntKind.u8.wrap r.1=r.1:=by rw[N8];omega
   rw[e1];exact hr.2
 ·simp;omega
 ·omega
theorem DM {α:Type} {P:α→Prop} {xs:List α} {i:Nat} {a:α} (h:∀x∈xs,P x) (ha:P a):∀x∈xs.set i a,P x:=fun x hx=>by
 rcases U7 hx with h'|h'
 ·exact h x h'
 ·rw[h'];exact ha
theorem ML {v:List (Int×List Int)} (h1:v.length≤5) (h2:∀e∈v,e.2.length≤1000):fK (⟨v.map fun e=>(⟨e.1,e.2⟩:fc)⟩:aK):=by
 refine⟨by show(v.map _).length≤_;simp;omega,fun x hx=>?_⟩
 obtain⟨e,he,rfl⟩:=List.mem_map.1 hx
 exact⟨by have:=h2 e he;show e.2.length≤_;omega,fun _ _=>trivial⟩
theorem wKey {c:aH} (h:cL c):Wp (vb c) (fun r=>cL r.2):=by
 unfold vb
 exact Wp.call (dx h (by omega)) fun r1 h1=>Wp.some h1.1
end Go.AM
namespace Go.AM
open Go.Proofs
attribute [local simp] bz be bb
structure JM (v:List (Int×List Int)):Prop where
 ar:∀e∈v,0≤e.1∧e.1≤1
 rg:∀(i:Nat) e,v[i]?=some e→∀x∈e.2,0≤x∧x<v.length∧x≠i
 sy:∀(i j:Nat) e f,v[i]?=some e→v[j]?=some f→(j:Int)∈e.2→(i:Int)∈f.2
def IC (v:List (Int×List Int)) (a b:Nat) (x y:Int×List Int):List (Int×List Int):=(v.set a (x.1,x.2++[(b:Int)])).set b (y.1,y.2++[(a:Int)])
theorem vF {v:List (Int×List Int)} {a b:Nat} {x y:Int×List Int} (hx:v[a]?=some x) (hy:v[b]?=some y) (hab:a≠b) {i:Nat} {e':Int×List Int} (h:(IC v a b x y)[i]?=some e'):
 ∃e,v[i]?=some e∧e'.1=e.1∧∀z,z∈e'.2↔z∈e.2∨(i=a∧z=b)∨(i=b∧z=a):=by
 rcases ke h with⟨e1,e2⟩|⟨e1,e2⟩
 ·subst e1;subst e2
  refine⟨y,hy,rfl,fun z=>?_⟩
  simp only[TG,UN]
  refine⟨fun h=>?_,fun h=>?_⟩
  ·rcases h with h|h
   ·exact .inl h
   ·exact .inr (.inr ⟨by trivial,h⟩)
  ·rcases h with h|h|h
   ·exact .inl h
   ·exact absurd h.1.symm hab
   ·exact .inr h.2
 ·rcases ke e2 with⟨e3,e4⟩|⟨e3,e4⟩
  ·subst e3;subst e4
   refine⟨x,hx,rfl,fun z=>?_⟩
   simp only[TG,UN]
   refine⟨fun h=>?_,fun h=>?_⟩
   ·rcases h with h|h
    ·exact .inl h
    ·exact .inr (.inl ⟨by trivial,h⟩)
   ·rcases h with h|h|h
    ·exact .inl h
    ·exact .inr h.2
    ·exact absurd h.1 hab
  ·refine⟨e',e4,rfl,fun z=>⟨.inl,fun h=>?_⟩⟩
   rcases h with h|h|h
   ·exact h
   ·exact absurd h.1.symm e3
   ·exact absurd h.1.symm e1
theorem Mo {v:List (Int×List Int)} (h:JM v) {a b:Nat} {x y:Int×List Int} (hx:v[a]?=some x) (hy:v[b]?=some y) (hab:a≠b):JM (IC v a b x y):=by
 have ha:=(List.getElem?_eq_some_iff.1 hx).1
 have hb:=(List.getElem?_eq_some_iff.1 hy).1
 have hl:(IC v a b x y).length=v.length:=by simp[IC]
 refine⟨fun e he=>?_,fun i e he z hz=>?_,fun i j e f he hf hj=>?_⟩
 ·obtain⟨i,hi⟩:=SS he
  obtain⟨e0,h0,h1,_⟩:=vF hx hy hab hi
  rw[h1];exact h.ar e0 (RS h0)
 ·obtain⟨e0,h0,h1,h2⟩:=vF hx hy hab he
  rw[hl]
  rcases(h2 z).1 hz with hz|hz|hz
  ·exact h.rg i e0 h0 z hz
  ·obtain⟨rfl,rfl⟩:=hz;omega
  ·obtain⟨rfl,rfl⟩:=hz;omega
 ·obtain⟨e0,h0,h1,h2⟩:=vF hx hy hab he
  obtain⟨f0,g0,g1,g2⟩:=vF hx hy hab hf
  rw[g2]
  rcases(h2 j).1 hj with hz|hz|hz
  ·exact .inl (h.sy i j e0 f0 h0 g0 hz)
  ·exact .inr (.inr ⟨by omega,by omega⟩)
  ·exact .inr (.inl ⟨by omega,by omega⟩)
theorem RL {v:List (Int×List Int)} {a b:Int} {B:Nat} (hB:B≤1000) (hv:∀e∈v,e.2.length≤B) (hj:JM v) (a0:0≤a) (a1:a<v.length) (b0:0≤b) (b1:b<v.length) (hab:a≠b):Wp (qf v a b) (fun r=>(r.length=v.length∧∀e∈r,e.2.length≤B+2)∧JM r):=by
 obtain⟨i,rfl⟩:∃i:Nat,a=i:=⟨a.toNat,by omega⟩
 obtain⟨j,rfl⟩:∃j:Nat,b=j:=⟨b.toNat,by omega⟩
 obtain⟨x,hx⟩:∃x,v[i]?=some x:=⟨_,v0 (by omega)⟩
 obtain⟨y,hy⟩:∃y,v[j]?=some y:=⟨_,v0 (by omega)⟩
 have h1:=hv x (RS hx)
 have h2:=hv y (RS hy)
 have hy':(v.set i (x.1,x.2++[(j:Int)]))[j]?=some y:=by rw[Uc,if_neg (by omega)];exact hy
 unfold qf
 rw[bb,hx]
 simp only[Up,Us]
 refine Wp.ok (fB (by simp;omega) (by simp;omega)) ?_
 rw[bb,hy']
 simp only[Up]
 refine Wp.ok (fB (by simp;omega) (by simp;omega)) (Wp.some ⟨⟨by simp,DM (DM (fun e he=>by have:=hv e he;omega) (by simp;omega)) (by simp;omega)⟩,?_⟩)
 exact Mo hj hx hy (by omega)
structure RW (n:Int) (e e':Int×List Int):Prop where
 a:e'.1=e.1
 m:∀z,z∈e'.2↔z∈e.2∧(0≤z∧z<n)
 o:e'.2.Pairwise fun x y=>x<y
 l:(e'.2.length:Int)≤n
theorem Hq {v w:List (Int×List Int)} (h:JM v) (hl:w.length=v.length) (h2:2≤v.length∧v.length≤5) (hw:∀(i:Nat) e,v[i]?=some e→∃e',w[i]?=some e'∧RW v.length e e'):nr (⟨w.map fun e=>(⟨e.1,e.2⟩:fc)⟩:aK)=true:=by
 have hlen:(w.map fun e=>(⟨e.1,e.2⟩:fc)).length=v.length:=by simp[hl]
 have get:∀(i:Nat) c,(w.map fun e=>(⟨e.1,e.2⟩:fc))[i]?=some c→∃e e',v[i]?=some e∧w[i]?=some e'∧RW v.length e e'∧c=⟨e'.1,e'.2⟩:=by
  intro i c hc
  have hi:=(List.getElem?_eq_some_iff.1 hc).1
  obtain⟨e,he⟩:∃e,v[i]?=some e:=⟨_,v0 (by omega)⟩
  obtain⟨e',he',hr⟩:=hw i e he
  rw[Ub,he'] at hc
  cases hc;exact⟨e,e',he,he',hr,rfl⟩
 simp only[nr,hV,bp,eo,hlen]
 refine⟨by omega,fun i c hc=>?_⟩
 obtain⟨e,e',he,he',hr,rfl⟩:=get i c hc
 have har:=h.ar e (RS he)
 simp only[AX,hV,bp,eo,nbB,ew,hlen]
 refine⟨by rw[hr.a];omega,fun k x hx=>?_⟩
 have hm:=RS hx
 have hme:=(hr.m x).1 hm
 have hrg:=h.rg i e he x hme.1
 obtain⟨j,rfl⟩:∃j:Nat,x=j:=⟨x.toNat,by omega⟩
 refine⟨by omega,by have:=hrg.2.2;simpa [eqB] using this,yK (key:=id) (by simpa using hr.o) hx,?_⟩
 obtain⟨f,hf⟩:∃f,v[j]?=some f:=⟨_,v0 (by omega)⟩
 obtain⟨f',hf',hrf⟩:=hw j f hf
 have hi:=(List.getElem?_eq_some_iff.1 he).1
 have hs:=h.sy i j e f he hf hme.1
 simp only[H8,Us,Ub,hf',Option.map_some,TO]
 exact⟨i,(hrf.m i).2 ⟨hs,by omega,by omega⟩,be _⟩
theorem RJ {c:aH} (h:cL c):Wp (tK c) (fun r=>cL r.2∧((2≤r.1.length∧r.1.length≤5)∧∀e∈r.1,e.2.length≤200)∧nr (⟨r.1.map fun e=>(⟨e.1,e.2⟩:fc)⟩:aK)=true):=by
 unfold tK
 refine Wp.call (dx h (by omega)) fun r1 h1=>?_
 obtain⟨n,hn⟩:∃n:Int,n=WR (2+r1.1):=⟨_,rfl⟩
 have hn1:n=2+r1.1:=by rw[hn,bB (by omega)]
 refine Wp.call (P:=fun x=>cL ⟨x.1,x.2.1,x.2.2.1⟩∧(x.2.2.2.length:Int)=n∧∀a∈x.2.2.2,0≤a∧a≤1) ?_ ?_
 ·refine Wp.iterF (fun x=>(0≤x.1∧x.1≤n)∧cL ⟨x.2.1,x.2.2.1,x.2.2.2.1⟩∧(x.2.2.2.2.length:Int)=x.1∧∀a∈x.2.2.2.2,0≤a∧a≤1) (fun x=>(n-x.1).toNat) ⟨⟨by simp only;omega,by simp only;omega⟩,h1.1,by simp,by simp⟩ (by simp only;omega) ?_
  rintro⟨v2,v3,v4,v5,v6⟩ ⟨⟨i0,i1⟩,i2,i3,i4⟩
  simp only at i0 i1 i2 i3 i4
  simp only[xW,←hn]
  refine Wp.cond (fun hb=>?_) (fun hb=>Wp.some ⟨i2,by have:=oF hb;show(v6.length:Int)=n;omega,i4⟩)
  have hb:=km hb
  refine Wp.call (dx i2 (by omega)) fun r12 h12=>Wp.ok (fB (by simp;omega) (by simp;omega)) (Wp.some ⟨⟨⟨?_,?_⟩,h12.1,?_,?_⟩,?_⟩)
  all_goals simp only[bB (show-9223372036854775808≤v2+1∧v2+1≤9223372036854775807 by omega)]
  ·omega
  ·omega
  ·simp;omega
  ·intro a ha
   rcases List.mem_append.1 ha with ha|ha
   ·exact i4 a ha
   ·simp at ha;subst ha;omega
  ·omega
 rintro⟨v8,v9,v10,v11⟩ ⟨hc,hl,har⟩
 simp only at hc hl har
 refine Wp.call (P:=fun x=>cL ⟨x.1,x.2.1,x.2.2.1⟩∧((x.2.2.2.length:Int)=n∧∀e∈x.2.2.2,e.2.length≤200)∧JM x.2.2.2) ?_ ?_
 ·refine Wp.iterF (fun x=>(1≤x.1∧x.1≤n)∧cL ⟨x.2.1,x.2.2.1,x.2.2.2.1⟩∧((x.2.2.2.2.length:Int)=n∧∀e∈x.2.2.2.2,e.2.length≤20*x.1.toNat)∧JM x.2.2.2.2) (fun x=>(n-x.1).toNat) ⟨⟨by simp only;omega,by simp only;omega⟩,hc,⟨by simpa using hl,by simp⟩,⟨by simpa using har,fun i e he x hx=>?_,fun i j e f he hf hj=>?_⟩⟩ (by simp only;omega) ?_
  ·simp only[Ub] at he
   cases hv:v11[i]?<;>rw[hv] at he<;>cases he;simp at hx
  ·simp only[Ub] at he
   cases hv:v11[i]?<;>rw[hv] at he<;>cases he;simp at hj
  rintro⟨v13,v14,v15,v16,v17⟩ ⟨⟨i0,i1⟩,i2,⟨i3,i4⟩,i5⟩
  simp only at i0 i1 i2 i3 i4 i5
  simp only[xX,←hn]
  refine Wp.cond (fun hb=>?_) (fun hb=>Wp.some ⟨i2,⟨i3,fun e he=>by have:=i4 e he;show e.2.length≤200;omega⟩,i5⟩)
  have hb:=km hb
  refine Wp.call (P:=fun x=>cL ⟨x.1,x.2.1,x.2.2.1⟩∧((x.2.2.2.length:Int)=n∧∀e∈x.2.2.2,e.2.length≤20*v13.toNat+2*v13.toNat)∧JM x.2.2.2) ?_ ?_
  ·refine Wp.iterF (fun x=>(0≤x.1∧x.1≤v13)∧cL ⟨x.2.1,x.2.2.1,x.2.2.2.1⟩∧((x.2.2.2.2.length:Int)=n∧∀e∈x.2.2.2.2,e.2.length≤20*v13.toNat+2*x.1.toNat)∧JM x.2.2.2.2) (fun x=>(v13-x.1).toNat) ⟨⟨by simp only;omega,by simp only;omega⟩,i2,⟨i3,by simpa using i4⟩,i5⟩ (by simp only;omega) ?_
   rintro⟨v43,v44,v45,v46,v47⟩ ⟨⟨j0,j1⟩,j2,⟨j3,j4⟩,j5⟩
   simp only at j0 j1 j2 j3 j4 j5
   simp only[xY]
   refine Wp.cond (fun hc=>?_) (fun hc=>Wp.some ⟨j2,⟨j3,fun e he=>by have:=j4 e he;have:=oF hc;show e.2.length≤_;omega⟩,j5⟩)
   have hc:=km hc
   refine Wp.call (P:=fun x=>cL ⟨x.2.1,x.2.2.1,x.2.2.2⟩) ?_ ?_
   ·refine Wp.cond (fun _=>Wp.call (th j2 (by omega)) fun r62 h62=>?_) (fun _=>Wp.call (th j2 (by omega)) fun r64 h64=>Wp.some h64)
    exact Wp.cond (fun _=>Wp.some h62) (fun _=>Wp.call (th h62 (by omega)) fun r63 h63=>Wp.some h63)
   rintro⟨v58,v59,v60,v61⟩ hc2
   refine Wp.call (P:=fun x=>((x.length:Int)=n∧∀e∈x,e.2.length≤20*v13.toNat+2*v43.toNat+2)∧JM x) ?_ ?_
   ·refine Wp.cond (fun _=>Wp.call (RL (B:=20*v13.toNat+2*v43.toNat) (by omega) j4 j5 (by omega) (by omega) (by omega) (by omega) (by omega)) fun r65 h65=>Wp.some ⟨⟨by rw[h65.1.1];exact j3,h65.1.2⟩,h65.2⟩) (fun _=>Wp.some ⟨⟨j3,fun e he=>by have:=j4 e he;omega⟩,j5⟩)
   intro v62 h62
   refine Wp.some ⟨⟨⟨?_,?_⟩,hc2,⟨h62.1.1,fun e he=>?_⟩,h62.2⟩,?_⟩
   all_goals simp only[bB (show-9223372036854775808≤v43+1∧v43+1≤9223372036854775807 by omega)]
   ·omega
   ·omega
   ·have:=h62.1.2 e he;omega
   ·omega
  ·rintro⟨v55,v56,v57,v58⟩ ⟨k1,⟨k2,k3⟩,k4⟩
   simp only at k1 k2 k3 k4
   refine Wp.some ⟨⟨⟨?_,?_⟩,k1,⟨k2,fun e he=>?_⟩,k4⟩,?_⟩
   all_goals simp only[bB (show-9223372036854775808≤v13+1∧v13+1≤9223372036854775807 by omega)]
   ·omega
   ·omega
   ·have:=k3 e he;omega
   ·omega
 rintro⟨v40,v41,v42,v43⟩ ⟨hc,⟨hl,hb⟩,hj⟩
 simp only at hc hl hb hj
 have hn5:2≤v43.length∧v43.length≤5:=by omega
 refine Wp.call (P:=fun x=>((x.length:Int)=n∧∀e∈x,e.2.length≤200)∧∀(i:Nat) e,v43[i]?=some e→∃e',x[i]?=some e'∧RW n e e') ?_ fun v78 h78=>Wp.some ⟨hc,⟨by have:=h78.1.1;show 2≤v78.length∧v78.length≤5;omega,h78.1.2⟩,Hq hj (by have:=h78.1.1;show v78.length=v43.length;omega) hn5 (by rw[hl];exact h78.2)⟩
 refine Wp.iterF (fun x=>(0≤x.1∧x.1≤n)∧((x.2.length:Int)=n∧∀e∈x.2,e.2.length≤200)∧∀(i:Nat) e,v43[i]?=some e→∃e',x.2[i]?=some e'∧((i:Int)<x.1→RW n e e')∧(x.1≤(i:Int)→e'=e)) (fun x=>(n-x.1).toNat) ⟨⟨by simp only;omega,by simp only;omega⟩,⟨hl,hb⟩,fun i e he=>⟨e,he,fun hi=>by simp only at hi;omega,fun _=>rfl⟩⟩ (by simp only;omega) ?_
 rintro⟨v66,v67⟩ ⟨⟨i0,i1⟩,⟨i3,i4⟩,i5⟩
 simp only at i0 i1 i3 i4 i5
 simp only[xZ,←hn]
 refine Wp.cond (fun hb=>?_) (fun hb=>Wp.some ⟨⟨i3,i4⟩,fun i e he=>?_⟩)
 rotate_left
 ·obtain⟨e',h1,h2,h3⟩:=i5 i e he
  have hi:=(List.getElem?_eq_some_iff.1 he).1
  have:=oF hb
  exact⟨e',h1,h2 (by omega)⟩
 have hb:=km hb
 obtain⟨q,rfl⟩:∃q:Nat,v66=q:=⟨v66.toNat,by omega⟩
 obtain⟨e0,he0⟩:∃e0,v43[q]?=some e0:=⟨_,v0 (by omega)⟩
 obtain⟨eq',hq1,_,hq3⟩:=i5 q e0 he0
 have hq3:=hq3 (U5 _)
 subst hq3
 have hl0:=i4 eq' (RS hq1)
 refine Wp.call (P:=fun x=>(x.length:Int)≤n∧(∀z,z∈x↔z∈eq'.2∧(0≤z∧z<n))∧x.Pairwise fun x y=>x<y) ?_ ?_
 ·refine Wp.iterF (fun x=>(0≤x.1∧x.1≤n)∧(x.2.length:Int)≤x.1∧(∀z,z∈x.2↔z∈eq'.2∧(0≤z∧z<x.1))∧x.2.Pairwise fun x y=>x<y) (fun x=>(n-x.1).toNat) ⟨⟨by simp only;omega,by simp only;omega⟩,by simp,fun z=>by simp,by simp⟩ (by simp only;omega) ?_
  rintro⟨v79,v80⟩ ⟨⟨j0,j1⟩,j2,j3,j4⟩
  simp only at j0 j1 j2 j3 j4
  simp only[ya,←hn]
  refine Wp.cond (fun hc=>?_) (fun hc=>?_)
  rotate_left
  ·have:=oF hc
   have e:v79=n:=by omega
   subst e
   exact Wp.some ⟨j2,j3,j4⟩
  have hc:=km hc
  simp only[bb,hq1,Up,Mc (show eq'.2.length≤1048576 by omega)]
  have key:(eq'.2.any fun x=>eqB x v79)=true↔v79∈eq'.2:=by
   rw[TO];exact⟨fun⟨x,h1,h2⟩=>by rw[←mR h2];exact h1,fun h=>⟨v79,h,be _⟩⟩
  refine Wp.call (P:=fun x=>(x.length:Int)≤v79+1∧(∀z,z∈x↔z∈eq'.2∧(0≤z∧z<v79+1))∧x.Pairwise fun x y=>x<y) ?_ fun x hx=>Wp.some ⟨⟨⟨?_,?_⟩,?_,?_,hx.2.2⟩,?_⟩
  ·refine Wp.cond (fun hh=>Wp.ok (fB (by simp;omega) (by simp;omega)) (Wp.some ⟨by simp;omega,fun z=>?_,?_⟩)) (fun hh=>Wp.some ⟨by omega,fun z=>?_,j4⟩)
   ·have:=key.1 hh
    rw[TG,j3 z]
    constructor
    ·rintro(h|h)
     ·exact⟨h.1,by omega⟩
     ·simp at h;subst h;exact⟨this,by omega⟩
    ·rintro⟨h1,h2⟩
     by_cases e:z=v79
     ·exact .inr (by simp[e])
     ·exact .inl ⟨h1,by omega⟩
   ·refine List.pairwise_append.2 ⟨j4,by simp,fun x hx y hy=>?_⟩
    simp at hy;subst hy
    exact((j3 x).1 hx).2.2
   ·rw[j3 z]
    constructor
    ·rintro⟨h1,h2⟩;exact⟨h1,by omega⟩
    ·rintro⟨h1,h2⟩
     refine⟨h1,h2.1,?_⟩
     by_cases e:z=v79
     ·subst e;rw[key.2 h1] at hh;cases hh
     ·omega
  all_goals simp only[bB (show-9223372036854775808≤v79+1∧v79+1≤9223372036854775807 by omega)]
  ·omega
  ·omega
  ·exact hx.1
  ·exact hx.2.1
  ·omega
 ·intro v84 h84
  simp only[bb,hq1,Up,Us]
  refine Wp.some ⟨⟨⟨?_,?_⟩,⟨by simpa using i3,DM i4 (by have:=h84.1;show v84.length≤200;omega)⟩,fun i e he=>?_⟩,?_⟩
  all_goals simp only[bB (show-9223372036854775808≤(q:Int)+1∧(q:Int)+1≤9223372036854775807 by omega)]
  ·omega
  ·omega
  ·obtain⟨e',h1,h2,h3⟩:=i5 i e he
   by_cases hi:q=i
   ·subst hi
    rw[he0] at he;cases he
    exact⟨(eq'.1,v84),by simp[(List.getElem?_eq_some_iff.1 hq1).1],fun _=>⟨rfl,h84.2.1,h84.2.2,h84.1⟩,fun h=>by omega⟩
   ·exact⟨e',by rw[Uc,if_neg hi];exact h1,fun h=>h2 (by omega),fun h=>h3 (by omega)⟩
  ·omega
theorem NY {c:aH} (h:cL c):Wp (wm c) (fun r=>cL r.2∧fK r.1∧nr r.1=true):=by
 unfold wm
 exact Wp.call (RJ h) fun r hr=>Wp.some ⟨hr.1,ML hr.2.1.1.2 (fun e he=>by have:=hr.2.1.2 e he;omega),hr.2.2⟩
end Go.AM
