/- A part. -/
import Derived.Test.YtljhooecmjejiaaGreatP2
set_option linter.unusedVariables false
set_option linter.unusedSimpArgs false
open Option renaming bind_some→Vm,bind→Vj
open List renaming getElem?_eq_some_iff→Tm,getElem?_eq_getElem→v0,mem_of_getElem?→Tn,mem_append→TW,getElem?_of_mem→T0,mem_map→Ur,getElem?_set→U7,mem_range→UP,getElem?_map→U6,mem_or_eq_of_mem_set→V4,mem_filter→UO,mem_of_mem_take→Uw,range→TU,mem_singleton→UJ,all_eq_true→TX,any_eq_true→Ug
open Bool renaming and_eq_true→hV,not_true→UY,or_eq_false_iff→Ua,not_eq_false'→VL
open Int renaming toNat_natCast→Vn,le_refl→V3,tmod→Vl
namespace Go.AM
attribute [local simp] bE be a8
theorem Pj:jS fa=true:=by decide+kernel
theorem CR {k:Int}:∀{xs:List ae} {f:Int},(∀(i:Nat) (x:ae),xs[i]?=some x→x.cT=f+i)→(xs.filter fun x=>leB k x.cT)=xs.drop (k-f).toNat
 |[],f,_=>by simp
 |x::xs,f,h=>by
  have hx:x.cT=f:=by have:=h 0 x rfl;simpa using this
  have ih:=CR (k:=k) (xs:=xs) (f:=f+1) fun i y hy=>by have:=h (i+1) y (by simpa using hy);rw[this];omega
  rw[List.filter_cons,hx]
  by_cases hk:k≤f
  ·rw[leB_t.2 hk,if_pos rfl,ih,show(k-f).toNat=0 by omega,show(k-(f+1)).toNat=0 by omega];rfl
  ·rw[leB_f.2 (by omega),if_neg (by simp),ih,show(k-f).toNat=(k-(f+1)).toNat+1 by omega];rfl
theorem CD {w:a9} (h:WOK w) {k:Int} (hk:ltB w.bm k=false):jl w k=⟨w.bm,w.aw.drop (k-(w.bm-w.aw.length)).toNat⟩:=by
 rw[jl,hk,CR (f:=w.bm-w.aw.length) fun i x hx=>(h.u i x hx).1];rfl
theorem FA {w:a9} (h:WOK w) (k:Int):WOK (jl w k):=by
 cases hk:ltB w.bm k
 ·have hl:=h.l
  have hf:=h.f
  have hn:=h.n
  rw[CD h hk]
  generalize (k-(w.bm-w.aw.length)).toNat=m
  refine⟨hn,by simp;omega,by simp;omega,fun i x hx=>?_⟩
  simp only at hx ⊢
  rw[List.getElem?_drop] at hx
  have hi:=(Tm.1 hx).1
  have:=h.u _ x hx
  rw[List.length_drop]
  omega
 ·rw[jl,hk];exact h
theorem wd (w:a9) (k:Int):∀x∈(jl w k).aw,x∈w.aw:=fun x hx=>by
 rw[jl] at hx;revert hx
 cases ltB w.bm k
 ·exact fun hx=>(UO.1 hx).1
 ·exact id
theorem Mo {w:a9} (h:WOK w) (k:Int):0≤fw (jl w k).aw∧fw (jl w k).aw≤fw w.aw:=by
 have h1:=uD fun x hx=>h.d x (wd w k x hx)
 refine⟨h1.1,?_⟩
 cases hk:ltB w.bm k
 ·have:=Pr h hk
  have h2:=uD (xs:=w.aw.filter fun x=>ltB x.cT k) fun x hx=>h.d x (UO.1 hx).1
  omega
 ·rw[jl,hk];exact V3 _
theorem H1 {q:dh} {n:Int} (h:0≤n∧n≤q.cL-q.er):uc q n={q with er:=q.er+n}:=by rw[uc,bu.2 h];rfl
theorem Dl {s:ag} {a:aj} (h:SG s a) (k:Int):SG (kG s k) a∧(kG s k).bW={s.bW with er:=s.bW.er+(fw s.aq.aw-fw (jl s.aq k).aw)}:=by
 have hs:=Mo h.sp.win k
 have hp:=h.sp.pd
 have hq:=h.sp.q
 have e:(kG s k).bW={s.bW with er:=s.bW.er+(fw s.aq.aw-fw (jl s.aq k).aw)}:=H1 ⟨by omega,by omega⟩
 have hu:=hq.u
 have hg:=hq.g
 have hq':QOK (kG s k).bW:=by rw[e];exact⟨hq.i,by simp only;omega,by simp only;omega,hq.m⟩
 refine⟨⟨{h.sp with ok:=⟨h.sp.ok.1,h.sp.ok.2.1,(FA h.sp.win k).ok⟩,win:=FA h.sp.win k,q:=hq',qu:=⟨by simp[kG],by simp[kG]⟩,nx:=?_,un:=fun x hx=>h.sp.un x (wd _ _ x hx),pd:=?_},h.b1,fun x hx=>h.b2 x (wd _ _ x hx),⟨h.mo.acc,hq',?_⟩⟩,e⟩
 ·have:(kG s k).aq.bm=s.aq.bm:=by simp only[kG,jl];cases ltB s.aq.bm k<;>rfl
  rw[this];exact h.sp.nx
 ·rw[e];simp only[kG];omega
 ·rw[e];exact h.mo.res
theorem QG {s:ag} {a:aj} (h:SG s a) (m:aA):SG (Ha s m).aJ a:=by
 have hr:=Ks h.sp.rcd
 simp only[Ha]
 cases he:eqB s.bv.cT 999999
 ·have he:=F7 he
  have hk:=KM (k:=s.bv.eY) (r:=FO s.bv.ID (s.bv.cT+1)) (q:=s.bv.cT+1) (by omega) (by omega)
  refine⟨{h.sp with rcd:=?_,k2:=fun _=>?_,ps:=⟨by simp only[cond_false];omega,by simp only[cond_false];omega⟩},h.b1,h.b2,h.mo⟩
  ·have hc:=h.sp.rcd
   simp only[rP,hV] at hc
   simp only[cond_false,rP,hV]
   exact⟨hc.1,hc.2.1,bu.2 (by omega)⟩
  ·exact bu.2 hk
 ·exact h
theorem QF {s:ag} {a:aj} (h:SG s a) {c:Int} (hc:0≤c∧c≤5) (hp:0<s.bF) (he:s.aO<999999):SG (uS s c) a:=by
 have hk:=h.sp.k2 hp
 have hkr:=bu.1 hk
 have hep:=h.sp.ep
 exact⟨{h.sp with page:=Pj,st:=⟨by simp[uS],by simp[uS]⟩,k1:=fun _=>hk,k2:=fun e=>by simp[uS] at e,ps:=⟨by simp[uS],by simp[uS]⟩,gn:=h.sp.ps,ep:=⟨by simp only[uS];omega,by simp only[uS];omega⟩,rk:=⟨by simp only[uS];omega,by simp only[uS];omega⟩,ce:=hc,qu:=⟨by simp[uS],by simp[uS]⟩},h.b1,h.b2,h.mo⟩
theorem Ox {s:ag} {a:aj} (h:SG s a) {m:aA} (hm:kD m=true):SG (yS s m).aJ a:=by
 obtain⟨_,hc,_⟩:=uo hm
 rw[yS]
 cases hb:leB s.bF 0||(!eqB m.aa s.bF||(!eqB m.bN s.aF.uW||leB 999999 s.aO))
 ·simp only[Ua] at hb
  exact QF h hc (wM hb.1) (wM hb.2.2.2)
 ·exact h
theorem Ow {s:ag} {a:aj} (h:SG s a) {m:aA} (hm:kD m=true):SG (yR s m).aJ a:=by
 obtain⟨_,hc,_,he,_⟩:=uo hm
 rw[yR]
 cases !qq s m||(ltB m.aO s.aO||(eqB m.aO s.aO&&!eqB m.aX s.aX))
 ·exact⟨{h.sp with page:=Pj,ep:=he,ce:=hc,qu:=⟨by simp[vM],by simp[vM]⟩,rt:=⟨by simp[vM],by simp[vM]⟩},h.b1,h.b2,h.mo⟩
 ·exact h
theorem QE {s:ag} {a:aj} (h:SG s a) (m:aA):SG (G9 s m).aJ a:=by
 rw[G9]
 cases !qq s m||ltB s.aq.bm m.bN
 ·exact(Dl h m.bN).1
 ·exact h
theorem SD {s:ag} {a:aj} (h:SG s a) (m:aA):SG (sUp s m).aJ a:=by
 rw[sUp]
 cases hm:kD m
 ·exact h
 ·cases eqB m.aR 1
  ·cases eqB m.aR 3
   ·cases eqB m.aR 5
    ·cases eqB m.aR 8
     ·exact h
     ·exact QE h m
    ·exact Ow h hm
   ·exact Ox h hm
  ·exact QG h m
theorem Ou {s:ag} {a:aj} (h:SG s a):SG (jz s) a:=
 ⟨{h.sp with page:=Pj,k2:=fun e=>by simp[jz] at e,ps:=⟨by simp[jz],by simp[jz]⟩,qu:=⟨by simp[jz],by simp[jz]⟩,rt:=⟨by simp[jz],by simp[jz]⟩},h.b1,h.b2,h.mo⟩
theorem QI {s:ag} {a:aj} (h:SG s a) {b:List Int} (hb:okB b):SG (p8 s b).1 a:=by
 rw[p8]
 cases h1:leB 24 ((s.ax.length:Nat):Int)||ltB 60 ((b.length:Nat):Int)
 ·simp only[Ua] at h1
  have h2:=wM h1.1
  have h3:=nn h1.2
  have hnx:=h.sp.nx
  refine⟨{h.sp with ok:=⟨h.sp.ok.1,⟨by simp;omega,fun p hp=>?_⟩,h.sp.ok.2.2⟩,sl:=by simp;omega,sd:=fun p hp=>?_,nx:=by simp;omega,un:=fun x hx=>?_},fun p hp=>?_,h.b2,h.mo⟩
  ·rcases TW.1 hp with hp|hp
   ·exact h.sp.ok.2.1.2 p hp
   ·simp at hp;subst hp;exact⟨by simp only;omega,fun _ _=>trivial⟩
  ·rcases TW.1 hp with hp|hp
   ·exact h.sp.sd p hp
   ·simp at hp;subst hp;simp only;omega
  ·have hu:=h.sp.un x hx
   have hs:=O1 h.sp.win hx
   simp only[BN,cond_false] at hu ⊢
   rw[List.getElem?_append_left (by omega)]
   exact hu
  ·rcases TW.1 hp with hp|hp
   ·exact h.b1 p hp
   ·simp at hp;subst hp;exact hb
 ·exact h
theorem OU {p:cU} (ha:0≤p.f5∧p.f5≤2) (hp:POK p) (m:aM):jS (xF p m).1=true:=by
 have h1:=hp.a
 have h2:=hp.w
 rw[xF]
 simp only[jS,hV,bu]
 cases hb:ltB 0 p.f7
 ·simp only[cond_false]
  refine⟨ha,?_,by omega⟩
  cases hc:ltB p.eR 4
  ·simp
  ·have:=im hc
   simp only[cond_true];omega
 ·have:=im hb
  simp only[cond_true];omega
theorem GQ {p:cU} (h:jS p=true):POK p:=by
 simp only[jS,hV,bu] at h;exact⟨h.2.1,h.2.2⟩
theorem KU {m:aM} (h:nM m=true) (c:Int):0≤nY m c∧nY m c≤2:=by
 rw[nY]
 cases hc:eL m c
 ·simp
 ·obtain⟨d,_,_,h2⟩:=D2 hc
  simp only[nM,hV,eK] at h
  have:=h.2 _ d h2
  simp only[BT,hV,bu] at this
  rw[h2];exact this.1
theorem Br {s:ag} {a:aj} (h:SG s a) {m:aM} (hm:nM m=true):SG (mz s a m).aJ (mz s a m).dX:=by
 rw[mz]
 cases eqB s.bi 1
 ·exact h
 ·simp only[UY,cond_false]
  have hq:=wX h.sp
  cases ltB 4 (jx s)
  ·exact Hk 2 _ _ _ (h.upd hq (w8 h.sp))
  ·have h1:=h.upd hq h.sp.rt
   have hp:=GQ h.sp.page
   exact⟨{h1.sp with page:=OU (p:={s.il with f5:=nY m s.aX}) (KU hm _) ⟨hp.a,hp.w⟩ m},h1.b1,h1.b2,h1.mo⟩
end Go.AM
namespace Go.AM
attribute [local simp] bE be a8
structure FP (nd nc:Nat) (f:bD):Prop where
 d:0≤f.aN∧f.aN<nd
 c:0≤f.aX∧f.aX<nc
 b:okB f.bC.aT.aQ
 ok:kn f
structure MP (nc:Nat) (i:Nat) (d:az) (s:ag) (a:aj):Prop where
 dp:DP d
 dc:d.aX<nc
 sg:SG s a
 sc:s.aX<nc
 si:s.bW.au=i
 ids:Ca d s=true
structure NP (B:Int) (n:ab):Prop where
 map:nM n.dZ=true
 mok:fP n.dZ
 core:lr n.dY=true
 up:n.dY.fA≠0
 ld:n.am.length≤4
 ls:n.ai.length=n.am.length
 la:n.bh.length=n.am.length
 m:∀(i:Nat) d s a,n.am[i]?=some d→n.ai[i]?=some s→n.bh[i]?=some a→MP n.dZ.aZ.length i d s a
 fl:n.ay.length≤200
 fs:∀f∈n.ay,FP n.am.length n.dZ.aZ.length f
 dn:inR n.dt 0 (WR ((kw .i64 1 ((n.dZ.aZ.length:Nat):Int))-1))=true
 nw:0≤n.oX∧n.oX≤100000
 lo:0≤n.kv∧n.kv≤B
theorem kB {m:aM} (h:nM m=true):1≤m.aZ.length∧m.aZ.length≤6:=by
 simp only[nM,hV,bu] at h;omega
theorem NP.at_ {B:Int} {n:ab} (h:NP B n) {i:Nat} (hi:i<n.am.length):∃d s a,n.am[i]?=some d∧n.ai[i]?=some s∧n.bh[i]?=some a∧MP n.dZ.aZ.length i d s a:=by
 have h1:=h.ls
 have h2:=h.la
 obtain⟨d,hd⟩:∃d,n.am[i]?=some d:=⟨_,v0 hi⟩
 obtain⟨s,hs⟩:∃s,n.ai[i]?=some s:=⟨_,v0 (show i<n.ai.length by omega)⟩
 obtain⟨a,ha⟩:∃a,n.bh[i]?=some a:=⟨_,v0 (show i<n.bh.length by omega)⟩
 exact⟨d,s,a,hd,hs,ha,h.m i d s a hd hs ha⟩
theorem NP.mono {B B':Int} {n:ab} (h:NP B n) (hb:B≤B'):NP B' n:={h with lo:=⟨h.lo.1,by have:=h.lo.2;omega⟩}
def eO (n:ab) (f:bD):ab:=bif leB 200 ((n.ay.length:Nat):Int) then {n with kv:=WR (n.kv+1)} else {n with ay:=n.ay++[f]}
theorem wR {n:ab} {f:bD} (hf:kn f):eT n f=some (eO n f):=by
 simp only[eT,Gg hf,Vm,eO]
 cases hb:leB 200 ((n.ay.length:Nat):Int)
 ·have:=wM hb
  rw[cE (by omega) (by simp;omega)];rfl
 ·rfl
theorem vG {B:Int} {n:ab} (h:NP B n) {f:bD} (hf:FP n.am.length n.dZ.aZ.length f) (hB:B<4611686018427387904):NP (B+1) (eO n f):=by
 have hl:=h.lo
 rw[eO]
 cases hb:leB 200 ((n.ay.length:Nat):Int)
 ·have hb:=wM hb
  refine {h.mono (show B≤B+1 by omega) with fl:=by simp;omega,fs:=fun g hg=>?_}
  rcases TW.1 hg with hg|hg
  ·exact h.fs g hg
  ·simp at hg;subst hg;exact hf
 ·exact {h.mono (show B≤B+1 by omega) with lo:=by simp only[cond_true];rw[bG (by omega)];omega}
theorem kC (n:ab) (f:bD):(eO n f).am=n.am∧(eO n f).ai=n.ai∧(eO n f).bh=n.bh∧(eO n f).dZ=n.dZ∧(eO n f).dt=n.dt∧(eO n f).dY=n.dY∧(eO n f).oX=n.oX:=by
 rw[eO];cases leB 200 ((n.ay.length:Nat):Int)<;>exact⟨rfl,rfl,rfl,rfl,rfl,rfl,rfl⟩
def sends (n:ab) (l:List bD):ab:=l.foldl eO n
theorem gS:∀(l:List bD) (n:ab),(sends n l).am=n.am∧(sends n l).ai=n.ai∧(sends n l).bh=n.bh∧(sends n l).dZ=n.dZ∧(sends n l).dt=n.dt∧(sends n l).dY=n.dY∧(sends n l).oX=n.oX
 |[],n=>⟨rfl,rfl,rfl,rfl,rfl,rfl,rfl⟩
 |f::l,n=>by
  have h1:=kC n f
  have h2:=gS l (eO n f)
  have e:sends n (f::l)=sends (eO n f) l:=rfl
  rw[e,h2.1,h2.2.1,h2.2.2.1,h2.2.2.2.1,h2.2.2.2.2.1,h2.2.2.2.2.2.1,h2.2.2.2.2.2.2];exact h1
theorem tJ:∀(l:List bD) {B:Int} {n:ab},NP B n→(∀f∈l,FP n.am.length n.dZ.aZ.length f)→B+l.length<4611686018427387904→NP (B+l.length) (sends n l)
 |[],B,n,h,_,_=>by simpa [sends] using h
 |f::l,B,n,h,hf,hB=>by
  simp only[List.length_cons] at hB ⊢
  have h1:=vG h (hf f (by simp)) (by omega)
  have hk:=kC n f
  have:=tJ l h1 (fun g hg=>by rw[hk.1,hk.2.2.2.1];exact hf g (by simp[hg])) (by omega)
  rw[show B+((l.length+1:Nat):Int)=B+1+(l.length:Int) by omega]
  exact this
theorem xV (g:ab→bD→Option ab) {α:Type} (mk:α→bD) (hg:∀n x,g n (mk x)=some (eO n (mk x))):∀(l:List α) (n:ab),iW (fun(n:ab) x=>Vj (g n (mk x)) fun r=>some (cp.next (ρ:=ab) r)) some l n=some (sends n (l.map mk))
 |[],n=>rfl
 |x::l,n=>by rw[iW,hg];exact xV g mk hg l _
def ia (i:Int) (up:Bool) (m:aA):bD:=⟨i,up,false,m.aX,m,ee⟩
def tl (i c:Int) (x:ao):bD:=⟨i,false,true,c,dO,x⟩
theorem Fu:ou ee:=⟨by decide,fun _ _=>trivial⟩
theorem Fa (i:Int) (up:Bool) (m:aA):kn (ia i up m):=Fu
theorem IN (n:ab) (i:Int) (up:Bool) {l:List aA} (hl:l.length≤1048576):iL n i up l=some (sends n (l.map (ia i up))):=by
 have:=eD (step:=iM i up l) l (fun k n=>((k:Int),n)) (fun n x=>Vj (eT n (ia i up x)) fun r=>some (.next r)) some (by omega)
  (fun k x n hx hk=>by
   simp only[iM,cN hk,a8,hx,Vm,cond_true,cd (show k<9223372036854775807 by omega),ia]
   cases eT n ⟨i,up,false,x.aX,x,ee⟩<;>rfl) (fun n=>by simp[iM]) n
 rw[xV eT (ia i up) (fun n x=>wR (Fa i up x))] at this
 rw[iL,show iter (iM i up l) FU (0,n)=_ from this];rfl
def fQ (n:ab) (i:Nat) (r:aU):ab:=sends {n with am:=n.am.set i r.aN} (r.dJ.map (ia i true))
theorem tk {n:ab} {i:Nat} (hi:i<n.am.length) {r:aU} (hr:r.dJ.length≤1048576):gp n (i:Int) r=some (fQ n i r):=by
 simp only[gp,a8,v0 hi,Vm,Vn,IN _ _ _ hr,fQ]
theorem E8 {nd nc:Nat} {i:Nat} (hi:i<nd) {up:Bool} {m:aA} (hm:0≤m.aX∧m.aX<nc):FP nd nc (ia i up m):=
 ⟨by simp only[ia];omega,hm,fun x hx=>by simp[ia,ee,jj] at hx,Fa _ _ _⟩
theorem ky {α:Type} {xs:List α} {i j:Nat} {x y:α} (h:(xs.set i x)[j]?=some y):(i=j∧x=y)∨(i≠j∧xs[j]?=some y):=by
 rw[U7] at h
 by_cases e:i=j
 ·rw[if_pos e] at h
  split at h
  ·cases h;exact .inl ⟨e,rfl⟩
  ·cases h
 ·rw[if_neg e] at h;exact .inr ⟨e,h⟩
theorem NP.setM {B:Int} {n:ab} (h:NP B n) {i:Nat} {d:az} {s:ag} {a:aj} (hm:MP n.dZ.aZ.length i d s a):
 NP B {n with am:=n.am.set i d,ai:=n.ai.set i s,bh:=n.bh.set i a}:=by
 have h1:=h.ls
 have h2:=h.la
 refine {h with ld:=by simpa using h.ld,ls:=by simpa using h1,la:=by simpa using h2,m:=fun j d' s' a' hd hs ha=>?_,fs:=fun f hf=>by rw[List.length_set];exact h.fs f hf}
 rcases ky hd with⟨e1,e2⟩|⟨e1,e2⟩<;>rcases ky hs with⟨e3,e4⟩|⟨e3,e4⟩<;>rcases ky ha with⟨e5,e6⟩|⟨e5,e6⟩<;>first|omega|skip
 ·subst e1;subst e2;subst e4;subst e6;exact hm
 ·exact h.m j d' s' a' e2 e4 e6
theorem dP {α:Type} {xs:List α} {i:Nat} {x:α} (h:xs[i]?=some x):xs.set i x=xs:=by
 apply List.ext_getElem?
 intro j
 rw[U7]
 by_cases e:i=j
 ·subst e;rw[if_pos rfl,if_pos (Tm.1 h).1,h]
 ·rw[if_neg e]
theorem NP.setD {B:Int} {n:ab} (h:NP B n) {i:Nat} {d:az} {s:ag} {a:aj} (hs:n.ai[i]?=some s) (ha:n.bh[i]?=some a) (hm:MP n.dZ.aZ.length i d s a):NP B {n with am:=n.am.set i d}:=by
 have:=h.setM hm
 rwa [dP hs,dP ha] at this
theorem NP.setS {B:Int} {n:ab} (h:NP B n) {i:Nat} {d:az} {s:ag} {a:aj} (hd:n.am[i]?=some d) (ha:n.bh[i]?=some a) (hm:MP n.dZ.aZ.length i d s a):NP B {n with ai:=n.ai.set i s}:=by
 have:=h.setM hm
 rwa [dP hd,dP ha] at this
end Go.AM
namespace Go.AM
attribute [local simp] bE be a8
structure DK (c:Int) (d:az) (r:aU):Prop where
 id:r.aN.dw.ID=d.dw.ID
 key:r.aN.dw.eY=d.dw.eY
 cell:r.aN.aX=c
 sg:∀m∈r.dJ,m.aX=c
 len:r.dJ.length≤1
theorem DK.none (d:az):DK d.aX d ⟨d,[]⟩:=⟨rfl,rfl,rfl,by simp,by simp⟩
theorem PD (d:az):DK d.aX d (vq d):=⟨rfl,rfl,rfl,by simp[vq,wl,tK],by simp[vq]⟩
theorem FY {d d':az} (h:d'.dw=d.dw):DK d'.aX d (vq d'):=⟨by rw[←h];rfl,by rw[←h];rfl,rfl,by simp[vq,wl,tK],by simp[vq]⟩
theorem sO (d:az):DK d.aX d (qh d):=by
 rw[qh]
 cases ltB 0 d.f7<;>cases eqB d.bi 1<;>cases eqB d.bi 2&&!d.dm<;>exact⟨rfl,rfl,rfl,by simp[ud,wl,tK],by simp⟩
theorem H3 (d:az):DK d.aX d (dOn d):=by
 rw[dOn];cases eqB d.bi 0<;>exact⟨rfl,rfl,rfl,by simp[ud],by simp⟩
theorem Jv (d:az) (m:aA):DK d.aX d (Ao d m):=by
 rw[Ao]
 cases !kD m||(!eqB m.aX d.aX||eqB d.bi 0)
 ·simp only[cond_false]
  cases eqB m.aR 2&&eqB d.bi 1
  ·simp only[cond_false]
   cases eqB m.aR 4&&(eqB d.bi 1&&(oU d.aK&&(eqB m.aa d.aa&&tY d.aK m)))
   ·simp only[cond_false]
    cases eqB m.aR 6&&(eqB d.bi 2&&(eqB m.aa d.aa&&(eqB m.aO d.aO&&tY d.aK m)))
    ·simp only[cond_false]
     cases eqB m.aR 7&&(eqB d.bi 3&&ltB d.aO 999999)
     ·simp only[cond_false]
      cases eqB m.aR 7&&eqB d.bi 2
      ·exact .none d
      ·exact PD d
     ·exact FY (d:=d) (d':={d with bi:=2,aO:=d.aO+1}) rfl
    ·exact⟨rfl,rfl,rfl,by simp,by simp⟩
   ·exact⟨rfl,rfl,rfl,by simp,by simp⟩
  ·simp only[cond_true,FZ]
   cases eqB (jk d.dw.eY d.dw.dD m.bR) 0<;>exact⟨rfl,rfl,rfl,by simp,by simp⟩
 ·exact .none d
theorem Jt (d:az) (x:ao):DK d.aX d (An d x):=by
 simp only[An]
 cases eqB d.bi 2&&(ko d.aK d.aa d.aO x).2
 ·exact .none d
 ·exact⟨rfl,rfl,rfl,by simp[dAck,tK],by simp⟩
theorem F1 (d:az) (c:Int):DK d.aX d (rV d c)∨(0≤c∧c≤5)∧DK c d (rV d c):=by
 rw[rV]
 cases h:eqB c d.aX||!inR c 0 5
 ·simp only[Ua,VL] at h
  right;refine⟨bu.1 h.2,?_⟩
  simp only[cond_false]
  cases eqB d.bi 2&&ltB d.aO 999999
  ·exact⟨rfl,rfl,rfl,by simp,by simp⟩
  ·exact FY (d:=d) (d':={d with aX:=c,aO:=d.aO+1}) rfl
 ·exact .inl (.none d)
structure SK (c:Int) (s:ag) (r:bK):Prop where
 id:r.aJ.bv.ID=s.bv.ID
 key:r.aJ.bv.eY=s.bv.eY
 si:r.aJ.bW.au=s.bW.au
 cell:r.aJ.aX=s.aX∨r.aJ.aX=c
 sg:∀m∈r.dJ,m.aX=c
 len:r.dJ.length≤1
 sub:r.aJ.ax=s.ax
theorem SK.none (c:Int) (s:ag):SK c s ⟨s,[]⟩:=⟨rfl,rfl,rfl,.inl rfl,by simp,by simp,rfl⟩
theorem Oy (s:ag) (m:aA):SK m.aX s (sUp s m):=by
 rw[sUp]
 cases kD m
 ·exact .none _ s
 ·simp only[UY,cond_false]
  cases eqB m.aR 1
  ·simp only[cond_false]
   cases eqB m.aR 3
   ·simp only[cond_false]
    cases eqB m.aR 5
    ·simp only[cond_false]
     cases eqB m.aR 8
     ·exact .none _ s
     ·simp only[cond_true,G9]
      cases !qq s m||ltB s.aq.bm m.bN
      ·refine⟨rfl,rfl,?_,.inl rfl,by simp,by simp,rfl⟩
       simp only[cond_false,kG,uc]
       cases inR (fw s.aq.aw-fw (jl s.aq m.bN).aw) 0 (s.bW.cL-s.bW.er)<;>rfl
      ·exact .none _ s
    ·simp only[cond_true,yR]
     cases !qq s m||(ltB m.aO s.aO||(eqB m.aO s.aO&&!eqB m.aX s.aX))
     ·exact⟨rfl,rfl,rfl,.inr rfl,by simp[ut,tK,vM],by simp,rfl⟩
     ·exact .none _ s
   ·simp only[cond_true,yS]
    cases leB s.bF 0||(!eqB m.aa s.bF||(!eqB m.bN s.aF.uW||leB 999999 s.aO))
    ·exact⟨rfl,rfl,rfl,.inr rfl,by simp[ut,tK,uS],by simp,rfl⟩
    ·exact .none _ s
  ·simp only[cond_true,Ha]
   cases eqB s.bv.cT 999999
   ·exact⟨rfl,rfl,rfl,.inl rfl,by simp,by simp,rfl⟩
   ·exact .none _ s
theorem MP.dev {nc i:Nat} {d:az} {s:ag} {a:aj} (h:MP nc i d s a) {c:Int} {r:aU} (hk:DK c d r) (hd:DP r.aN) (hc:c<nc):MP nc i r.aN s a:=by
 refine⟨hd,by rw[hk.cell];exact hc,h.sg,h.sc,h.si,?_⟩
 have:=h.ids
 simp only[Ca,hk.id,hk.key] at this ⊢;exact this
theorem MP.ses {nc i:Nat} {d:az} {s:ag} {a:aj} (h:MP nc i d s a) {c:Int} {r:bK} (hk:SK c s r) (hs:SG r.aJ a) (hc:c<nc):MP nc i d r.aJ a:=by
 refine⟨h.dp,h.dc,hs,?_,by rw[hk.si];exact h.si,?_⟩
 ·rcases hk.cell with e|e<;>rw[e]
  ·exact h.sc
  ·exact hc
 ·have:=h.ids
  simp only[Ca,hk.id,hk.key] at this ⊢;exact this
theorem i8 {B:Int} {n:ab} (h:NP B n) {i:Nat} {d:az} (hd:n.am[i]?=some d) {c:Int} {r:aU} (hk:DK c d r) (hr:DP r.aN) (hc:c<n.dZ.aZ.length) (hB:B+1<4611686018427387904):NP (B+1) (fQ n i r):=by
 have hi:=(Tm.1 hd).1
 obtain⟨d',s,a,h1,h2,h3,hm⟩:=h.at_ hi
 rw[hd] at h1;cases h1
 have hn:=h.setD h2 h3 (hm.dev hk hr hc)
 have hl:=hk.len
 have:=tJ (r.dJ.map (ia i true)) hn (fun f hf=>by
  obtain⟨m,hm',rfl⟩:=Ur.1 hf
  rw[show({n with am:=n.am.set i r.aN}:ab).am.length=n.am.length by simp]
  refine E8 hi ?_
  rw[hk.sg m hm',←hk.cell];exact⟨hr.ce.1,by rw[hk.cell];exact hc⟩) (by simp;omega)
 exact this.mono (by simp;omega)
def yd (n:ab) (i:Nat) (r:bK):ab:=sends {n with ai:=n.ai.set i r.aJ} (r.dJ.map (ia i false))
theorem LE {B:Int} {n:ab} (h:NP B n) {i:Nat} {s:ag} (hs:n.ai[i]?=some s) {c:Int} {r:bK} (hk:SK c s r) (hr:∀a,SG s a→SG r.aJ a) (hc:0≤c∧c<n.dZ.aZ.length) (hB:B+1<4611686018427387904):NP (B+1) (yd n i r):=by
 have hi:=(Tm.1 hs).1
 have hls:=h.ls
 obtain⟨d,s',a,h1,h2,h3,hm⟩:=h.at_ (show i<n.am.length by omega)
 rw[hs] at h2;cases h2
 have hn:=h.setS h1 h3 (hm.ses hk (hr a hm.sg) hc.2)
 have hl:=hk.len
 have:=tJ (r.dJ.map (ia i false)) hn (fun f hf=>by
  obtain⟨m,hm',rfl⟩:=Ur.1 hf
  refine E8 (show i<n.am.length by omega) ?_
  rw[hk.sg m hm'];exact hc) (by simp;omega)
 exact this.mono (by simp;omega)
def iU (n:ab) (k:Nat):ab:={n with ay:=n.ay.take k++n.ay.drop (k+1)}
theorem zy {B:Int} {n:ab} (h:NP B n) (k:Nat):NP B (iU n k):=by
 have:=h.fl
 refine {h with fl:=by simp[iU];omega,fs:=fun f hf=>?_}
 have:f∈n.ay:=by
  simp only[iU,TW] at hf
  rcases hf with hf|hf
  ·exact Uw hf
  ·exact List.mem_of_mem_drop hf
 exact h.fs f this
theorem KE {n:ab} (hl:n.ay.length≤200) {k:Nat} {f:bD} (hf:n.ay[k]?=some f):tV n (k:Int)=some (f,iU n k):=by
 have hk:=(Tm.1 hf).1
 have a1:fL n.ay 0 ((k:Nat):Int)=true:=by simp[fL];omega
 have a2:fL n.ay ((k+1:Nat):Int) ((n.ay.length:Nat):Int)=true:=by simp[fL];omega
 have a3:cM 176 (n.ay.take k).length=true:=cE (by omega) (by simp;omega)
 have a4:cM 176 (n.ay.take k++n.ay.drop (k+1)).length=true:=cE (by omega) (by simp;omega)
 simp only[tV,a8,hf,Vm,a1,cd (show k<9223372036854775807 by omega),a2,cond_true,List.nil_append,Vn,a3,a4,iU]
def xY (n:ab) (c:Int):Bool:=eL n.dZ c&&eqB (xN .i64 (B3 .i64 n.dt c) 1) 0
theorem Nv {n:ab} (hm:1≤n.dZ.aZ.length∧n.dZ.aZ.length≤6) (c:Int):qz n c=some (xY n c):=by
 have hmin:oo ((n.dZ.aZ.length:Nat):Int) 6=((n.dZ.aZ.length:Nat):Int):=by unfold oo;split<;>omega
 simp only[qz,J4,hmin,eC,Vm,bG (n:=((n.dZ.aZ.length:Nat):Int)-1) (by omega),xY]
 rw[show inR c 0 (((n.dZ.aZ.length:Nat):Int)-1)=eL n.dZ c from rfl]
 cases hc:eL n.dZ c
 ·rfl
 ·have:=bu.1 (show inR c 0 (((n.dZ.aZ.length:Nat):Int)-1)=true from hc)
  rw[leB_t.2 this.1];rfl
def Lh (n:ab):ab:={n with kv:=WR (n.kv+1)}
theorem Em {B:Int} {n:ab} (h:NP B n) (hB:B<4611686018427387904):NP (B+1) (Lh n):=by
 have hl:=h.lo
 exact {h.mono (show B≤B+1 by omega) with lo:=by simp only[Lh];rw[bG (by omega)];omega}
def iE (n:ab) (k:Nat):ab:=match n.ay[k]? with
 |none=>n
 |some f=>
  let n1:=iU n k
  let i:=f.aN.toNat
  bif !xY n1 f.aX then Lh n1 else
  bif f.eh then(bif f.cq||!eqB f.aY.aX f.aX then n1 else match n1.ai[i]? with
   |none=>n1
   |some s=>yd n1 i (sUp s f.aY))
  else match n1.am[i]? with
   |none=>n1
   |some d=>bif !eqB d.aX f.aX then Lh n1 else fQ n1 i (bif f.cq then An d f.bC else Ao d f.aY)
theorem H4 {B:Int} {n:ab} (h:NP B n) (k:Nat) (hB:B+1<4611686018427387904):NP (B+1) (iE n k):=by
 rw[iE]
 cases hf:n.ay[k]? with
 |none=>exact h.mono (by omega)
 |some f=>
  have hp:=h.fs f (Tn hf)
  have h1:=zy h k
  simp only
  cases xY (iU n k) f.aX
  ·exact Em h1 (by omega)
  ·simp only[UY,cond_false]
   cases f.eh
   ·simp only[cond_false]
    cases hd:(iU n k).am[f.aN.toNat]? with
    |none=>exact h1.mono (by omega)
    |some d=>
     have hdi:=(Tm.1 hd).1
     obtain⟨d',s,a,e1,e2,e3,hm⟩:=h1.at_ hdi
     rw[hd] at e1;cases e1
     simp only
     cases eqB d.aX f.aX
     ·exact Em h1 (by omega)
     ·simp only[UY,cond_false]
      cases f.cq
      ·exact i8 h1 hd (Jv d f.aY) (PH hm.dp _) hm.dc hB
      ·exact i8 h1 hd (Jt d f.bC) (PG hm.dp _) hm.dc hB
   ·simp only[cond_true]
    cases he:f.cq||!eqB f.aY.aX f.aX
    ·simp only[cond_false]
     simp only[Ua,VL] at he
     have he:=lA he.2
     cases hs:(iU n k).ai[f.aN.toNat]? with
     |none=>exact h1.mono (by omega)
     |some s=>exact LE h1 hs (Oy s f.aY) (fun a ha=>SD ha _) (by rw[he];exact hp.c) hB
    ·exact h1.mono (by omega)
theorem D6 (i:Int) (h:0≤i):i=((i.toNat:Nat):Int):=by omega
theorem K4 {B:Int} {n:ab} (h:NP B n) {k:Nat} (hk:k<n.ay.length):pH n (k:Int)=some (iE n k):=by
 obtain⟨f,hf⟩:∃f,n.ay[k]?=some f:=⟨_,v0 hk⟩
 have hp:=h.fs f (Tn hf)
 have h1:=zy h k
 have hls:=h1.ls
 have hdd:=hp.d
 obtain⟨d,s,a,e1,e2,e3,hm⟩:=h1.at_ (show f.aN.toNat<(iU n k).am.length by simp only[iU];omega)
 have hdev:=D6 f.aN hdd.1
 have hix:ix (iU n k).ai f.aN=some s:=by rw[hdev,a8];exact e2
 have hixd:ix (iU n k).am f.aN=some d:=by rw[hdev,a8];exact e1
 have hdl:=(Tm.1 e1).1
 have hp1:gp (iU n k) f.aN (An d f.bC)=some (fQ (iU n k) f.aN.toNat (An d f.bC)):=by
  rw[hdev];exact tk (by simpa using hdl) (by have:=(Jt d f.bC).len;omega)
 have hp2:gp (iU n k) f.aN (Ao d f.aY)=some (fQ (iU n k) f.aN.toNat (Ao d f.aY)):=by
  rw[hdev];exact tk (by simpa using hdl) (by have:=(Jv d f.aY).len;omega)
 have hp3:∀n',iL n' f.aN false (sUp s f.aY).dJ=some (sends n' ((sUp s f.aY).dJ.map (ia ((f.aN.toNat:Nat):Int) false))):=fun n'=>by
  rw[←hdev];exact IN _ _ _ (by have:=(Oy s f.aY).len;omega)
 simp only[pH,KE h.fl hf,Nv (kB h1.map),hix,hixd,up_s hm.sg.sp,rad_s hm.dp.ok (show Ri f.bC from hp.b),sig_s hm.dp.ok hm.dp.card hm.dp.ep,hp1,hp2,hp3,Vm,iE,hf,e1,e2,yd,Lh]
 cases xY (iU n k) f.aX<;>cases f.eh<;>cases f.cq<;>cases eqB f.aY.aX f.aX<;>cases eqB d.aX f.aX<;>rfl
end Go.AM
namespace Go.AM
attribute [local simp] bE be a8
theorem lI (n:ab) (i:Nat) (r:aU):(fQ n i r).am.length=n.am.length∧(fQ n i r).dZ=n.dZ∧(fQ n i r).ai=n.ai∧(fQ n i r).bh=n.bh∧(fQ n i r).oX=n.oX:=by
 have:=gS (r.dJ.map (ia i true)) {n with am:=n.am.set i r.aN}
 rw[fQ,this.1,this.2.1,this.2.2.1,this.2.2.2.1,this.2.2.2.2.2.2];simp
def jK:Nat→Nat→ab→ab
 |0,_,n=>n
 |c+1,i,n=>match n.am[i]? with
  |none=>n
  |some d=>jK c (i+1) (fQ n i (qh d))
theorem Dv {L:Int×ab→Option (cp (Int×ab) ab)} (N:Nat) (hN:N≤4)
 (hL:∀(i:Nat) (n:ab),n.am.length=N→(i<N→∀d,n.am[i]?=some d→DP d→L ((i:Int),n)=some (.next (((i+1:Nat):Int),fQ n i (qh d))))∧(N≤i→L ((i:Int),n)=some (.done n))):
 ∀(c i:Nat) {B:Int} (n:ab) (fu:Nat),NP B n→i+c=N→n.am.length=N→c<fu→B+c<4611686018427387904→iter L fu ((i:Int),n)=some (jK c i n)∧NP (B+c) (jK c i n)∧(jK c i n).am.length=N∧(jK c i n).dZ=n.dZ
 |0,i,B,n,fu,h,h1,h2,h3,hB=>by
  cases fu with
  |zero=>omega
  |succ fu=>
   rw[iter,(hL i n h2).2 (by omega)]
   exact⟨rfl,by simpa [jK] using h,h2,rfl⟩
 |c+1,i,B,n,fu,h,h1,h2,h3,hB=>by
  cases fu with
  |zero=>omega
  |succ fu=>
   obtain⟨d,s,a,e1,e2,e3,hm⟩:=h.at_ (show i<n.am.length by omega)
   have hp:=i8 h e1 (sO d) (wm hm.dp) hm.dc (by omega)
   have hk:=lI n i (qh d)
   rw[iter,(hL i n h2).1 (by omega) d e1 hm.dp,jK,e1]
   simp only
   have ih:=Dv N hN hL c (i+1) (fQ n i (qh d)) fu hp (by omega) (by rw[hk.1];exact h2) (by omega) (by omega)
   refine⟨ih.1,ih.2.1.mono (by omega),ih.2.2.1,ih.2.2.2.trans hk.2.1⟩
def uV (x:ao):Prop:=okB x.aT.aQ∧x.aT.aQ.length≤60
theorem vR (k g e:Int) {x:ae} (h:x.aQ.length≤60):uV (gI k g e x):=⟨JA _ _,by simp[gI,Bt];exact h⟩
theorem FB {s:ag} (h:WOK s.aq):∀x∈we s,uV x:=by
 rw[we];cases eqB s.bi 1
 ·simp
 ·intro x hx
  obtain⟨y,hy,rfl⟩:=Ur.1 hx
  exact vR _ _ _ (h.d y (Uw hy))
theorem K9 (s:ag) (a:aj) (n:Int):(cV s a n).1.bW.au=s.bW.au:=by rw[cV];cases leB (km s n) 0<;>rfl
theorem Bu:∀(k:Nat) (s:ag) (a:aj) (r:List ao),SG s a→(∀x∈r,uV x)→
 (gJ k s a r).1.bv=s.bv∧(gJ k s a r).1.aX=s.aX∧(gJ k s a r).1.bW.au=s.bW.au∧(gJ k s a r).1.ax=s.ax∧∀x∈(gJ k s a r).2.2,uV x
 |0,s,a,r,h,hr=>⟨rfl,rfl,rfl,rfl,hr⟩
 |k+1,s,a,r,h,hr=>by
  rw[gJ]
  cases e:o6 s with
  |none=>exact⟨rfl,rfl,rfl,rfl,hr⟩
  |some x=>
   obtain⟨hm,hx,_,hn,hl,hb⟩:=lF h.sp e
   have he:=uf h (n:=((x.aQ.length:Nat):Int)) (by omega)
   obtain⟨q,hk⟩:=mg s a ((x.aQ.length:Nat):Int)
   have hid:=K9 s a ((x.aQ.length:Nat):Int)
   simp only
   cases hq:ltB 0 (km (cV s a ((x.aQ.length:Nat):Int)).1 ((x.aQ.length:Nat):Int))
   ·simp only[cond_false]
    have ih:=Bu k {(cV s a ((x.aQ.length:Nat):Int)).1 with aq:=mQ (cV s a ((x.aQ.length:Nat):Int)).1.aq x.aQ} (cV s a ((x.aQ.length:Nat):Int)).2
     (r++[gI (cV s a ((x.aQ.length:Nat):Int)).1.aK (cV s a ((x.aQ.length:Nat):Int)).1.aa (cV s a ((x.aQ.length:Nat):Int)).1.aO ⟨(cV s a ((x.aQ.length:Nat):Int)).1.aq.bm,x.aQ⟩])
     (zL he (by rw[hk];exact e) hq) (fun y hy=>by
      rcases TW.1 hy with hy|hy
      ·exact hr y hy
      ·simp at hy;subst hy;exact vR _ _ _ hb)
    rw[ih.1,ih.2.1,ih.2.2.1,ih.2.2.2.1]
    exact⟨by rw[hk],by rw[hk],hid,by rw[hk],ih.2.2.2.2⟩
   ·exact⟨by simp only[cond_true];rw[hk],by simp only[cond_true];rw[hk],hid,by simp only[cond_true];rw[hk],hr⟩
theorem N6 {m:aM} {a t:Int}:∀c∈C7 m a t,0≤c∧c<m.aZ.length:=by
 intro c hc
 have h1:∀c∈na m a,0≤c∧c<m.aZ.length:=fun c hc=>by
  obtain⟨y,hy,rfl⟩:=Ur.1 hc
  have:=(UO.1 hy).1
  have:=List.mem_zipIdx this
  simp at this
  omega
 have h2:∀c∈Pt m,0≤c∧c<m.aZ.length:=fun c hc=>by
  obtain⟨k,hk,rfl⟩:=Ur.1 hc
  have:=UP.1 hk
  omega
 rw[C7] at hc;revert hc
 cases eqB t 1&&ltB 0 (((na m a).length:Nat):Int)
 ·cases inR t 1 4
  ·simp
  ·exact h2 c
 ·exact h1 c
structure TK (nc:Nat) (s:ag) (a:aj) (t:bY):Prop where
 rcd:t.aJ.bv=s.bv
 cell:t.aJ.aX=s.aX
 si:t.aJ.bW.au=s.bW.au
 sub:t.aJ.ax=s.ax
 pg:∀m∈t.iB,0≤m.aX∧m.aX<nc
 pl:t.iB.length≤1000
 rd:∀x∈t.bC,uV x
 rl:t.bC.length≤4
theorem xj {s:ag} {a:aj} (h:SG s a) {m:aM} (hm:m.aZ.length≤1000):TK m.aZ.length s a (mz s a m):=by
 rw[mz]
 cases eqB s.bi 1
 ·exact⟨rfl,rfl,rfl,rfl,by simp,by simp,by simp,by simp⟩
 ·simp only[UY,cond_false]
  have hg:=AC h
  have hq:=wX h.sp
  cases ltB 4 (jx s)
  ·simp only[cond_false,Kw]
   have hk:=Bu 2 _ _ [] (h.upd hq (w8 h.sp)) (by simp)
   have hl:=yu 2 {s with ef:=jx s,d4:=(mr s).2,bW:=(f4 s a).2} (f4 s a).1 []
   have hr:=Dk s
   refine⟨hk.1,hk.2.1,hk.2.2.1.trans hg.2.2.1,hk.2.2.2.1,by simp,by simp,fun x hx=>?_,by simp at hl ⊢;omega⟩
   rcases TW.1 hx with hx|hx
   ·rw[mr] at hx;revert hx
    cases B4 s
    ·simp
    ·cases ltB 0 s.d4
     ·exact FB h.sp.win x
     ·simp
   ·exact hk.2.2.2.2 x hx
  ·simp only[cond_true,Hf]
   refine⟨rfl,rfl,hg.2.2.1,rfl,fun x hx=>?_,by have:=Dw (p:={s.il with f5:=nY m s.aX}) hm;simp only[List.length_map];exact this,by simp,by simp⟩
   obtain⟨c,hc,rfl⟩:=Ur.1 hx
   simp only[GP]
   rw[xF] at hc;revert hc
   cases ltB 0 s.il.f7
   ·exact N6 c
   ·simp
def sa (n:ab) (i:Nat) (t:bY):ab:=
 sends (sends {n with ai:=n.ai.set i t.aJ,bh:=n.bh.set i t.dX} (t.iB.map (ia i false))) (t.bC.map (tl i t.aJ.aX))
theorem Qx {nd nc i:Nat} (hi:i<nd) {c:Int} (hc:0≤c∧c<nc) {x:ao} (hx:uV x):FP nd nc (tl i c x):=
 ⟨by simp only[tl];omega,hc,hx.1,⟨by have:=hx.2;simp only[tl];omega,fun _ _=>trivial⟩⟩
theorem Da (n:ab) (i:Nat) (t:bY):(sa n i t).am=n.am∧(sa n i t).dZ=n.dZ∧(sa n i t).ai.length=n.ai.length∧(sa n i t).oX=n.oX:=by
 have h1:=gS (t.iB.map (ia i false)) {n with ai:=n.ai.set i t.aJ,bh:=n.bh.set i t.dX}
 have h2:=gS (t.bC.map (tl i t.aJ.aX)) (sends {n with ai:=n.ai.set i t.aJ,bh:=n.bh.set i t.dX} (t.iB.map (ia i false)))
 rw[sa,h2.1,h2.2.1,h2.2.2.2.1,h2.2.2.2.2.2.2,h1.1,h1.2.1,h1.2.2.2.1,h1.2.2.2.2.2.2];simp
theorem A1 {B:Int} {n:ab} (h:NP B n) {i:Nat} {s:ag} {a:aj} (hs:n.ai[i]?=some s) (ha:n.bh[i]?=some a) {t:bY} (hk:TK n.dZ.aZ.length s a t) (hg:SG t.aJ t.dX) (hB:B+2000<4611686018427387904):NP (B+2000) (sa n i t):=by
 have hi:=(Tm.1 hs).1
 have hls:=h.ls
 obtain⟨d,s',a',h1,h2,h3,hm⟩:=h.at_ (show i<n.am.length by omega)
 rw[hs] at h2;cases h2
 rw[ha] at h3;cases h3
 have hmp:MP n.dZ.aZ.length i d t.aJ t.dX:=by
  refine⟨hm.dp,hm.dc,hg,by rw[hk.cell];exact hm.sc,by rw[hk.si];exact hm.si,?_⟩
  have:=hm.ids
  simp only[Ca,hk.rcd] at this ⊢;exact this
 have hn:=h.setM hmp
 rw[dP h1] at hn
 have hpl:=hk.pl
 have hrl:=hk.rl
 have k1:=gS (t.iB.map (ia i false)) {n with ai:=n.ai.set i t.aJ,bh:=n.bh.set i t.dX}
 have p1:=tJ (t.iB.map (ia i false)) hn (fun f hf=>by
  obtain⟨m,hm',rfl⟩:=Ur.1 hf
  exact E8 (show i<n.am.length by omega) (hk.pg m hm')) (by simp;omega)
 have p2:=tJ (t.bC.map (tl i t.aJ.aX)) p1 (fun f hf=>by
  obtain⟨x,hx,rfl⟩:=Ur.1 hf
  rw[k1.1,k1.2.2.2.1]
  exact Qx (show i<n.am.length by omega) (by rw[hk.cell];exact⟨hm.sg.sp.ce.1,hm.sc⟩) (hk.rd x hx)) (by simp;omega)
 exact p2.mono (by simp;omega)
def pP:Nat→Nat→ab→ab
 |0,_,n=>n
 |c+1,i,n=>match n.ai[i]?,n.bh[i]? with
  |some s,some a=>pP c (i+1) (sa n i (mz s a n.dZ))
  |_,_=>n
theorem Dx {L:Int×ab→Option (cp (Int×ab) ab)} (N:Nat) (hN:N≤4)
 (hL:∀(i:Nat) (n:ab),n.ai.length=N→(i<N→∀s a,n.ai[i]?=some s→n.bh[i]?=some a→SG s a→nM n.dZ=true→L ((i:Int),n)=some (.next (((i+1:Nat):Int),sa n i (mz s a n.dZ))))∧(N≤i→L ((i:Int),n)=some (.done n))):
 ∀(c i:Nat) {B:Int} (n:ab) (fu:Nat),NP B n→i+c=N→n.ai.length=N→c<fu→B+2000*c<4611686018427387904→iter L fu ((i:Int),n)=some (pP c i n)∧NP (B+2000*c) (pP c i n)∧(pP c i n).am=n.am∧(pP c i n).dZ=n.dZ
 |0,i,B,n,fu,h,h1,h2,h3,hB=>by
  cases fu with
  |zero=>omega
  |succ fu=>
   rw[iter,(hL i n h2).2 (by omega)]
   exact⟨rfl,by simpa [pP] using h,rfl,rfl⟩
 |c+1,i,B,n,fu,h,h1,h2,h3,hB=>by
  cases fu with
  |zero=>omega
  |succ fu=>
   have hls:=h.ls
   obtain⟨d,s,a,e1,e2,e3,hm⟩:=h.at_ (show i<n.am.length by omega)
   have hml:=kB h.map
   have hp:=A1 h e2 e3 (xj hm.sg (by omega)) (Br hm.sg h.map) (by omega)
   have hk:=Da n i (mz s a n.dZ)
   rw[iter,(hL i n h2).1 (by omega) s a e2 e3 hm.sg h.map,pP,e2,e3]
   simp only
   have ih:=Dx N hN hL c (i+1) (sa n i (mz s a n.dZ)) fu hp (by omega) (by rw[hk.2.2.1];exact h2) (by omega) (by omega)
   exact⟨ih.1,ih.2.1.mono (by omega),ih.2.2.1.trans hk.1,ih.2.2.2.trans hk.2.1⟩
def AW (n:ab):Bool×ab:=
 bif leB 100000 n.oX then(false,n) else
  let n1:=jK n.am.length 0 {n with oX:=n.oX+1}
  (true,pP n1.ai.length 0 n1)
theorem L4 {B:Int} {n:ab} (h:NP B n) (hB:B+10000<4611686018427387904):xC n=some (AW n)∧True∧NP (B+10000) (AW n).2:=by
 have hnw:=h.nw
 have hld:=h.ld
 rw[AW,xC]
 cases hb:leB 100000 n.oX
 ·have hb:=wM hb
  simp only[cond_false]
  have h1:NP B {n with oX:=n.oX+1}:={h with nw:=by simp only;omega}
  rw[bG (n:=n.oX+1) (by omega)]
  have rs:=Dv (L:=pJ) n.am.length hld (fun i n' hn'=>⟨fun hi d hd hp=>by
   simp only[pJ,hn',cN hi,a8,hd,Vm,cond_true,SU hp.ok hp.wt.2,tk (show i<n'.am.length by omega) (show(qh d).dJ.length≤1048576 by have:=(sO d).len;omega),cd (show i<9223372036854775807 by omega)],fun hi=>by
   simp only[pJ,hn',ltB_f.2 (show((n.am.length:Nat):Int)≤(i:Int) by omega),cond_false]⟩) n.am.length 0 _ FU h1 (by omega) rfl (by have:=kt;omega) (by omega)
  rw[show((0:Nat):Int)=0 from rfl] at rs
  have h2:=(rs).2.1
  have hls:=h2.ls
  have hl2:=h2.ld
  generalize jK n.am.length 0 {n with oX:=n.oX+1}=n1 at*
  have radS:∀(n':ab) (i:Nat) (t:bY),(∀x∈t.bC,uV x)→t.bC.length≤4→iter (kr (i:Int) t) FU (0,n')=some (sends n' (t.bC.map (tl i t.aJ.aX))):=fun n' i t ht hl=>by
   have:=eD (step:=kr (i:Int) t) t.bC (fun k n=>((k:Int),n)) (fun n x=>Vj (eT n (tl i t.aJ.aX x)) fun r=>some (.next r)) some (by omega)
    (fun k x n hx hk=>by
     simp only[kr,cN hk,a8,hx,Vm,cond_true,cd (show k<9223372036854775807 by omega),tl]
     cases eT n ⟨(i:Int),false,true,t.aJ.aX,dO,x⟩<;>rfl) (fun n=>by simp[kr]) n'
   refine Eq.trans (show iter (kr (i:Int) t) FU (0,n')=_ from this) ?_
   clear this
   have key:∀(l:List ao) (n':ab),(∀x∈l,uV x)→iW (fun(n:ab) x=>Vj (eT n (tl i t.aJ.aX x)) fun r=>some (cp.next (ρ:=ab) r)) some l n'=some (sends n' (l.map (tl i t.aJ.aX))):=by
    intro l
    induction l with
    |nil=>intro n' _;rfl
    |cons x l ih=>intro n' hx;rw[iW,wR (f:=tl i t.aJ.aX x) ⟨by have:=(hx x (by simp)).2;simp only[tl];omega,fun _ _=>trivial⟩];exact ih _ fun y hy=>hx y (by simp[hy])
   exact key t.bC n' ht
  have ss:=Dx (L:=pK) n1.ai.length (by omega) (fun i n' hn'=>⟨fun hi s a hs ha hg hm=>by
   have hml:=kB hm
   have hk:=xj hg (m:=n'.dZ) (by omega)
   simp only[pK,hn',cN hi,a8,hs,ha,Vm,cond_true,QU hg (m:=n'.dZ) (by omega) (GQ hg.sp.page),Vn,IN _ _ _ (show(mz s a n'.dZ).iB.length≤1048576 by have:=hk.pl;omega),radS _ i _ hk.rd hk.rl,sa,cd (show i<9223372036854775807 by omega)],fun hi=>by
   simp only[pK,hn',ltB_f.2 (show((n1.ai.length:Nat):Int)≤(i:Int) by omega),cond_false]⟩) n1.ai.length 0 n1 FU h2 (by omega) rfl (by have:=kt;omega) (by omega)
  rw[show((0:Nat):Int)=0 from rfl] at ss
  rw[rs.1]
  simp only[Vm]
  rw[ss.1]
  exact⟨by first|rfl|trivial,by first|rfl|trivial,(ss).2.1.mono (by omega)⟩
 ·exact⟨by first|rfl|trivial,by first|rfl|trivial,h.mono (by omega)⟩
end Go.AM
namespace Go.AM
attribute [local simp] bE be a8
def tX (p:bP) (k:Int):Bool:=lr p&&(inR k 0 (p.fM-1)&&eqB (xN .i64 (B3 .i64 p.fA k) 1) 1)
theorem ox {p:bP} (h:lr p=true):1≤p.fM∧p.fM≤6:=by
 simp only[lr,hV,bu] at h;exact h.1
theorem KB (p:bP) (k:Int):mu p k=some (tX p k):=by
 simp only[mu,Ix,eC,Vm,tX]
 cases hp:lr p
 ·rfl
 ·have:=ox hp
  rw[bG (n:=p.fM-1) (by omega)]
  cases hk:inR k 0 (p.fM-1)
  ·rfl
  ·rw[leB_t.2 (bu.1 hk).1];rfl
def lf (p:bP) (k:Int) (up:Bool):bP:=
 bif !lr p||!inR k 0 (p.fM-1) then p else⟨p.fM,bif up then bOr .i64 p.fA (kw .i64 1 k) else ua .i64 p.fA (kw .i64 1 k)⟩
theorem QM (p:bP) (k:Int) (up:Bool):nH p k up=some (lf p k up):=by
 simp only[nH,Ix,eC,Vm,lf]
 cases hp:lr p
 ·rfl
 ·have:=ox hp
  rw[bG (n:=p.fM-1) (by omega)]
  cases hk:inR k 0 (p.fM-1)
  ·rfl
  ·rw[leB_t.2 (bu.1 hk).1];cases up<;>rfl
theorem ND:∀c∈TU 7,∀d∈TU (2^c),∀i∈TU c,
 (inR (FG .i64 (d:Int) (kw .i64 1 (i:Int))) 0 (WR (kw .i64 1 (c:Int)-1))&&(inR (bOr .i64 (d:Int) (kw .i64 1 (i:Int))) 0 (WR (kw .i64 1 (c:Int)-1))&&inR (ua .i64 (d:Int) (kw .i64 1 (i:Int))) 0 (WR (kw .i64 1 (c:Int)-1))))=true:=by decide+kernel
theorem SL:∀c∈TU 7,WR (kw .i64 1 (c:Int)-1)=((2^c:Nat):Int)-1:=by decide+kernel
theorem J1 {c:Nat} (hc:c≤6) {d k:Int} (hd:inR d 0 (WR (kw .i64 1 (c:Int)-1))=true) (hk:0≤k∧k<c):
 inR (FG .i64 d (kw .i64 1 k)) 0 (WR (kw .i64 1 (c:Int)-1))=true∧inR (bOr .i64 d (kw .i64 1 k)) 0 (WR (kw .i64 1 (c:Int)-1))=true∧inR (ua .i64 d (kw .i64 1 k)) 0 (WR (kw .i64 1 (c:Int)-1))=true:=by
 have hd':=bu.1 hd
 rw[SL c (UP.2 (by omega))] at hd'
 have:=ND c (UP.2 (by omega)) d.toNat (UP.2 (by omega)) k.toNat (UP.2 (by omega))
 rw[show((d.toNat:Nat):Int)=d by omega,show((k.toNat:Nat):Int)=k by omega] at this
 simpa only[hV] using this
theorem OB {p:bP} (h:lr p=true) (k:Int) (up:Bool):lr (lf p k up)=true∧(lf p k up).fM=p.fM:=by
 rw[lf,h]
 cases hk:inR k 0 (p.fM-1)
 ·exact⟨h,rfl⟩
 ·have hk:=bu.1 hk
  have hp:=ox h
  simp only[lr,hV] at h
  have hm:=J1 (c:=p.fM.toNat) (by omega) (d:=p.fA) (k:=k) (by rw[show((p.fM.toNat:Nat):Int)=p.fM by omega];exact h.2) (by omega)
  rw[show((p.fM.toNat:Nat):Int)=p.fM by omega] at hm
  simp only[UY,Bool.or_self,cond_false,lr,hV]
  exact⟨⟨h.1,by cases up;exact hm.2.2;exact hm.2.1⟩,trivial⟩
def wt (a b:Int):Int:=Vl (WR (d8 17 [a,b]*d8 17 [a,b])) 2147483647
theorem wt_s (a b:Int):gb a b=some (wt a b):=by simp[gb,dH,wt]
def EV (p:bP) (i v:Int) (k:Int):Int:=bif tX p k&&(ltB v 0||ltB (wt v i) (wt k i)) then k else v
def QK (p:bP) (i:Int):Nat→Nat→Int→Int
 |0,_,v=>v
 |c+1,k,v=>QK p i c (k+1) (EV p i v k)
def sel (p:bP) (i:Int):Int:=QK p i p.fM.toNat 0 (-1)
theorem Dq {p:bP} (h:lr p=true) (i:Int):∀(c k fu:Nat) (v:Int),k+c=p.fM.toNat→c<fu→iter (jd p i) fu (v,(k:Int))=some (QK p i c k v)
 |0,k,fu,v,h1,h2=>by
  have hp:=ox h
  cases fu with
  |zero=>omega
  |succ fu=>rw[iter];simp[jd,ltB_f.2 (show p.fM≤(k:Int) by omega),QK]
 |c+1,k,fu,v,h1,h2=>by
  have hp:=ox h
  cases fu with
  |zero=>omega
  |succ fu=>
   have hc:(bif ltB (k:Int) p.fM then some (ltB (k:Int) 6) else some false)=some true:=by rw[ltB_t.2 (show(k:Int)<p.fM by omega),ltB_t.2 (show(k:Int)<6 by omega)];rfl
   have hs:(Vj (bif tX p k then(bif ltB v 0 then some true else some (ltB (wt v i) (wt k i))) else some false) fun(v12:Bool)=>Vj (bif v12 then some (k:Int) else some v) fun(v15:Int)=>some (cp.next (ρ:=Int) (v15,WR ((k:Int)+1))))=some (.next (EV p i v k,((k+1:Nat):Int))):=by
    rw[cd (by omega),EV]
    cases tX p k<;>cases ltB v 0<;>cases ltB (wt v i) (wt k i)<;>rfl
   rw[iter]
   simp only[jd,hc,Vm,cond_true,KB,wt_s,hs]
   exact Dq h i c (k+1) fu _ (by omega) (by omega)
theorem Rk {p:bP} (h:lr p=true) (i:Int):jC p i=some (sel p i):=by
 have hp:=ox h
 have:=Dq h i p.fM.toNat 0 FU (-1) (by omega) (by have:=kt;omega)
 rw[show((0:Nat):Int)=0 from rfl] at this
 rw[jC,this];rfl
def sU (p q:bP):Nat→Nat→List ag→List ag
 |0,_,l=>l
 |c+1,i,l=>sU p q c (i+1) (bif eqB (sel p i) (sel q i) then l else match l[i]? with
  |some s=>l.set i (jz s)
  |none=>l)
def lV (n:ab) (k:Int) (up:Bool):Bool×ab:=
 let q:=lf n.dY k up
 bif !inR k 0 (n.dY.fM-1)||(booB (tX n.dY k) up||eqB q.fA 0) then(false,n) else(true,{n with ai:=sU n.dY q n.ai.length 0 n.ai,dY:=q})
theorem lB (p q:bP):∀(c i:Nat) (l:List ag) (j:Nat),(sU p q c i l)[j]?=l[j]?∨∃s,l[j]?=some s∧(sU p q c i l)[j]?=some (jz s)
 |0,i,l,j=>.inl rfl
 |c+1,i,l,j=>by
  rw[sU]
  cases eqB (sel p i) (sel q i)
  ·simp only[cond_false]
   cases hi:l[i]? with
   |none=>exact lB p q c (i+1) l j
   |some s=>
    simp only
    by_cases e:i=j
    ·subst e
     have hg:(l.set i (jz s))[i]?=some (jz s):=by simp[(Tm.1 hi).1]
     rcases lB p q c (i+1) (l.set i (jz s)) i with h|⟨t,h1,h2⟩
     ·exact .inr ⟨s,hi,by rw[h,hg]⟩
     ·rw[hg] at h1;cases h1;exact .inr ⟨s,hi,h2⟩
    ·have hg:(l.set i (jz s))[j]?=l[j]?:=by rw[U7,if_neg e]
     rcases lB p q c (i+1) (l.set i (jz s)) j with h|⟨t,h1,h2⟩
     ·exact .inl (by rw[h,hg])
     ·exact .inr ⟨t,by rw[←hg];exact h1,h2⟩
  ·exact lB p q c (i+1) l j
theorem CQ (p q:bP):∀(c i:Nat) (l:List ag),(sU p q c i l).length=l.length
 |0,i,l=>rfl
 |c+1,i,l=>by
  rw[sU,CQ]
  cases eqB (sel p i) (sel q i)
  ·simp only[cond_false];cases l[i]?<;>simp
  ·rfl
theorem Gd {L:Int×List ag→Option (cp (Int×List ag) (List ag))} {p q:bP} (N:Nat)
 (hL:∀(i:Nat) (l:List ag),l.length=N→(i<N→(∀s∈l,eW s)→L ((i:Int),l)=some (.next (((i+1:Nat):Int),bif eqB (sel p i) (sel q i) then l else match l[i]? with|some s=>l.set i (jz s)|none=>l)))∧(N≤i→L ((i:Int),l)=some (.done l))):
 ∀(c i fu:Nat) (l:List ag),i+c=N→l.length=N→(∀s∈l,eW s)→c<fu→iter L fu ((i:Int),l)=some (sU p q c i l)
 |0,i,fu,l,h1,h2,h3,h4=>by
  cases fu with
  |zero=>omega
  |succ fu=>rw[iter,(hL i l h2).2 (by omega)];rfl
 |c+1,i,fu,l,h1,h2,h3,h4=>by
  cases fu with
  |zero=>omega
  |succ fu=>
   rw[iter,(hL i l h2).1 (by omega) h3,sU]
   simp only
   refine Gd N hL c (i+1) fu _ (by omega) ?_ (fun s hs=>?_) (by omega)
   ·cases eqB (sel p i) (sel q i)
    ·simp only[cond_false];cases l[i]?<;>simp[h2]
    ·exact h2
   ·revert hs
    cases eqB (sel p i) (sel q i)
    ·simp only[cond_false]
     cases hi:l[i]? with
     |none=>exact h3 s
     |some t=>
      intro hs
      rcases V4 hs with hs|rfl
      ·exact h3 s hs
      ·exact h3 t (Tn hi)
    ·exact h3 s
theorem Hn {B:Int} {n:ab} (h:NP B n) (k:Int) (up:Bool):rL n k up=some (lV n k up)∧True∧NP B (lV n k up).2:=by
 have hp:=ox h.core
 have hls:=h.ls
 have hq:=OB h.core k up
 have hok:∀s∈n.ai,eW s:=fun s hs=>by
  obtain⟨i,hi⟩:=T0 hs
  have hlt:=(Tm.1 hi).1
  obtain⟨d,s',a,e1,e2,e3,hm⟩:=h.at_ (show i<n.am.length by omega)
  rw[hi] at e2;cases e2;exact hm.sg.sp.ok
 have hl4:=h.ld
 have r1:=Gd (L:=md n (lf n.dY k up)) (p:=n.dY) (q:=lf n.dY k up) n.ai.length (fun i l hl=>⟨fun hi hl3=>by
  obtain⟨s,hs⟩:∃s,l[i]?=some s:=⟨_,v0 (by omega)⟩
  simp only[md,hl,cN hi,Rk h.core,Rk hq.1,a8,hs,RJ (hl3 s (Tn hs)),Vm,cond_true,Vn,cd (show i<9223372036854775807 by omega)]
  cases eqB (sel n.dY i) (sel (lf n.dY k up) i)<;>rfl,fun hi=>by
  simp only[md,hl,ltB_f.2 (show((n.ai.length:Nat):Int)≤(i:Int) by omega),cond_false]⟩) n.ai.length 0 FU n.ai (by omega) rfl hok (by have:=kt;omega)
 rw[show((0:Nat):Int)=0 from rfl] at r1
 refine⟨?_,trivial,?_⟩
 ·simp only[rL,QM,eC,KB,r1,Vm,bG (n:=n.dY.fM-1) (by omega),lV]
  cases inR k 0 (n.dY.fM-1)<;>cases booB (tX n.dY k) up<;>cases eqB (lf n.dY k up).fA 0<;>rfl
 ·simp only[lV]
  cases hb:!inR k 0 (n.dY.fM-1)||(booB (tX n.dY k) up||eqB (lf n.dY k up).fA 0)
  ·simp only[Ua] at hb
   refine {h with core:=hq.1,up:=F7 hb.2.2,ls:=by simp only[cond_false];rw[CQ];exact hls,m:=fun i d s a hd hs ha=>?_}
   simp only[cond_false] at hd hs ha ⊢
   rcases lB n.dY (lf n.dY k up) n.ai.length 0 n.ai i with e|⟨t,e1,e2⟩
   ·rw[e] at hs;exact h.m i d s a hd hs ha
   ·rw[e2] at hs;cases hs
    have hm:=h.m i d t a hd e1 ha
    exact⟨hm.dp,hm.dc,Ou hm.sg,hm.sc,hm.si,hm.ids⟩
  ·exact h
end Go.AM
namespace Go.AM
attribute [local simp] bE be a8
theorem Ki:eqB 3 2=false:=by simp[eqB]
theorem Kk:eqB 4 2=false:=by simp[eqB]
theorem Kl:eqB 4 3=false:=by simp[eqB]
theorem Km:eqB 6 5=false:=by simp[eqB]
theorem Kn:eqB 7 5=false:=by simp[eqB]
theorem Ko:eqB 7 6=false:=by simp[eqB]
theorem GV:eqB 8 5=false:=by simp[eqB]
theorem GW:eqB 8 6=false:=by simp[eqB]
theorem GX:eqB 8 7=false:=by simp[eqB]
theorem Kj:eqB 3 4=false:=by simp[eqB]
theorem Kh:eqB 2 3=false:=by simp[eqB]
structure EP (e:df):Prop where
 d:okB e.aQ
 f:kn e.bk
 r:okB e.bk.bC.aT.aQ
def rj (n:ab) (e:df):Bool×ab:=
 bif !inR e.cB 0 (((n.ay.length:Nat):Int)-1) then(false,n) else
 bif eqB e.aR 2 then(true,iE n e.cB.toNat) else
 bif eqB e.aR 3 then(true,Lh (iU n e.cB.toNat)) else
 bif leB 200 ((n.ay.length:Nat):Int) then(false,n) else match n.ay[e.cB.toNat]? with
  |none=>(true,n)
  |some f=>(true,eO n f)
theorem Gf {B:Int} {n:ab} (h:NP B n) (e:df) (hk:e.aR=2∨e.aR=3∨e.aR=4) (hB:B+1<4611686018427387904):
 rK n e=some (rj n e)∧True∧NP (B+1) (rj n e).2:=by
 have hfl:=h.fl
 simp only[rK,eC,rj,bG (n:=((n.ay.length:Nat):Int)-1) (by omega),Vm]
 cases hr:inR e.cB 0 (((n.ay.length:Nat):Int)-1)
 ·exact⟨by first|rfl|trivial,by first|rfl|trivial,h.mono (by omega)⟩
 ·have hr:=bu.1 hr
  obtain⟨k,hk'⟩:∃k:Nat,e.cB=k:=⟨e.cB.toNat,by omega⟩
  have hlt:k<n.ay.length:=by omega
  obtain⟨f,hf⟩:∃f,n.ay[k]?=some f:=⟨_,v0 hlt⟩
  have hp:=h.fs f (Tn hf)
  simp only[hk',Vn,K4 h hlt,KE h.fl hf,wR hp.ok,a8,hf,Vm,UY,cond_false]
  rcases hk with e2|e2|e2<;>rw[e2]<;>simp only[Ki,Kk,Kl,Km,Kn,Ko,GV,GW,GX,Kj,Kh,be,cond_true,cond_false]
  ·exact⟨by first|rfl|trivial,by first|rfl|trivial,H4 h k hB⟩
  ·exact⟨by first|rfl|trivial,by first|rfl|trivial,Em (zy h k) (by omega)⟩
  ·cases leB 200 ((n.ay.length:Nat):Int)
   ·exact⟨by first|rfl|trivial,by first|rfl|trivial,vG h hp (by omega)⟩
   ·exact⟨by first|rfl|trivial,by first|rfl|trivial,h.mono (by omega)⟩
def AU (n:ab) (e:df):Bool×ab:=
 bif !inR e.cB 0 (((n.am.length:Nat):Int)-1) then(false,n) else match n.am[e.cB.toNat]?,n.ai[e.cB.toNat]? with
  |some d,some s=>
   bif eqB e.aR 5 then(bif !eqB d.bi 0 then(false,n) else(true,fQ n e.cB.toNat (dOn d))) else
   bif eqB e.aR 6 then(bif eqB e.aX d.aX||!eL n.dZ e.aX then(false,n) else(true,fQ n e.cB.toNat (rV d e.aX))) else
   bif eqB e.aR 7 then(bif !eqB d.bi 2 then(false,n) else(true,{n with am:=n.am.set e.cB.toNat (sN d)})) else
   bif(p8 s e.aQ).2 then(true,{n with ai:=n.ai.set e.cB.toNat (p8 s e.aQ).1}) else(false,n)
  |_,_=>(false,n)
theorem H2 (d:az):(sN d).dw=d.dw∧(sN d).aX=d.aX:=by
 rw[sN];cases eqB d.bi 2<;>exact⟨rfl,rfl⟩
theorem N5 {B:Int} {n:ab} (h:NP B n) (e:df) (he:EP e) (hk:e.aR=5∨e.aR=6∨e.aR=7∨e.aR=8) (hB:B+1<4611686018427387904):
 zQ n e=some (AU n e)∧True∧NP (B+1) (AU n e).2:=by
 have hl:=h.ld
 have hm6:=kB h.map
 have hnm:NP (B+1) n:=h.mono (by omega)
 simp only[zQ,eC,AU,bG (n:=((n.am.length:Nat):Int)-1) (by omega),bG (n:=((n.dZ.aZ.length:Nat):Int)-1) (by omega),Vm]
 cases hr:inR e.cB 0 (((n.am.length:Nat):Int)-1)
 ·exact⟨by first|rfl|trivial,by first|rfl|trivial,hnm⟩
 ·have hr:=bu.1 hr
  obtain⟨k,hk'⟩:∃k:Nat,e.cB=k:=⟨e.cB.toNat,by omega⟩
  have hlt:k<n.am.length:=by omega
  obtain⟨d,s,a,e1,e2,e3,hm⟩:=h.at_ hlt
  have l1:=(H3 d).len
  have l2:(rV d e.aX).dJ.length≤1:=by rcases F1 d e.aX with h|h;exact h.len;exact h.2.len
  simp only[hk',Vn,a8,e1,e2,on_s hm.dp.ok,Sc hm.dp.ok hm.dp.ep,RT hm.dp.ok,Ro hm.sg.sp.ok,tk hlt (show(dOn d).dJ.length≤1048576 by omega),tk hlt (show(rV d e.aX).dJ.length≤1048576 by omega),Vm,UY,cond_false]
  rw[show inR e.aX 0 (((n.dZ.aZ.length:Nat):Int)-1)=eL n.dZ e.aX from rfl]
  rcases hk with e4|e4|e4|e4<;>rw[e4]<;>simp only[Ki,Kk,Kl,Km,Kn,Ko,GV,GW,GX,Kj,Kh,be,cond_true,cond_false]
  ·cases eqB d.bi 0
   ·exact⟨by first|rfl|trivial,by first|rfl|trivial,hnm⟩
   ·exact⟨by first|rfl|trivial,by first|rfl|trivial,i8 h e1 (H3 d) (RB hm.dp) hm.dc hB⟩
  ·cases hx:eqB e.aX d.aX<;>cases hy:eL n.dZ e.aX<;>try exact⟨by first|rfl|trivial,by first|rfl|trivial,hnm⟩
   refine⟨by first|rfl|trivial,by first|rfl|trivial,?_⟩
   have hc:=bu.1 (show inR e.aX 0 (((n.dZ.aZ.length:Nat):Int)-1)=true from hy)
   rcases F1 d e.aX with h'|h'
   ·exact i8 h e1 h' (F3 hm.dp _) hm.dc hB
   ·exact i8 h e1 h'.2 (F3 hm.dp _) (by omega) hB
  ·cases eqB d.bi 2
   ·exact⟨by first|rfl|trivial,by first|rfl|trivial,hnm⟩
   ·refine⟨by first|rfl|trivial,by first|rfl|trivial,NP.mono (B:=B) ?_ (by omega)⟩
    have hik:=H2 d
    refine h.setD e2 e3 ⟨ML hm.dp,by rw[hik.2];exact hm.dc,hm.sg,hm.sc,hm.si,?_⟩
    have:=hm.ids
    simp only[Ca,hik.1] at this ⊢;exact this
  ·cases hb:(p8 s e.aQ).2
   ·have hs:(p8 s e.aQ).1=s:=by
     revert hb;rw[p8];cases leB 24 ((s.ax.length:Nat):Int)||ltB 60 ((e.aQ.length:Nat):Int)
     ·intro hb;cases hb
     ·intro _;rfl
    refine⟨?_,by first|rfl|trivial,hnm⟩
    first|trivial|(rw[hs,dP e2];rfl)
   ·refine⟨by first|rfl|trivial,by first|rfl|trivial,NP.mono (B:=B) ?_ (by omega)⟩
    have hg:=QI hm.sg he.d
    refine h.setS e1 e3 ⟨hm.dp,hm.dc,hg,?_,?_,?_⟩
    all_goals
     rw[p8]
     cases leB 24 ((s.ax.length:Nat):Int)||ltB 60 ((e.aQ.length:Nat):Int)
    ·exact hm.sc
    ·exact hm.sc
    ·exact hm.si
    ·exact hm.si
    ·exact hm.ids
    ·exact hm.ids
def AT (n:ab) (c:Int) (up:Bool):Bool×ab:=
 bif !eL n.dZ c||booB (xY n c) up then(false,n) else(true,{n with dt:=FG .i64 n.dt (kw .i64 1 c)})
theorem KY {B:Int} {n:ab} (h:NP B n) (e:df):
 xA n e.cB (eqB e.aR 10)=some (AT n e.cB (eqB e.aR 10))∧True∧NP B (AT n e.cB (eqB e.aR 10)).2:=by
 have hm6:=kB h.map
 simp only[xA,eC,Nv hm6,AT,bG (n:=((n.dZ.aZ.length:Nat):Int)-1) (by omega),Vm]
 rw[show inR e.cB 0 (((n.dZ.aZ.length:Nat):Int)-1)=eL n.dZ e.cB from rfl]
 cases hc:eL n.dZ e.cB
 ·exact⟨by first|rfl|trivial,by first|rfl|trivial,h⟩
 ·have hi:=bu.1 (show inR e.cB 0 (((n.dZ.aZ.length:Nat):Int)-1)=true from hc)
  rw[leB_t.2 hi.1]
  cases booB (xY n e.cB) (eqB e.aR 10)
  ·exact⟨by first|rfl|trivial,by first|rfl|trivial,{h with dn:=(J1 hm6.2 h.dn (by omega)).1}⟩
  ·exact⟨by first|rfl|trivial,by first|rfl|trivial,h⟩
def vb (n:ab) (f:bD):Bool:=ltB ((n.ay.length:Nat):Int) 200&&(inR f.aN 0 (((n.am.length:Nat):Int)-1)&&eL n.dZ f.aX)
def vE (n:ab) (f:bD):Bool×ab:=bif !vb n f then(false,n) else(true,eO n f)
theorem Ie {B:Int} {n:ab} (h:NP B n) (e:df) (he:EP e) (hB:B<4611686018427387904):
 (Vj (gU n e.bk) fun r13=>bif !r13 then(some (false,n)) else(Vj (eT n e.bk) fun r14=>some (true,r14)))=some (vE n e.bk)∧True∧NP (B+1) (vE n e.bk).2:=by
 have hm6:=kB h.map
 have hl:=h.ld
 simp only[gU,eC,wR he.f,vE,vb,bG (n:=((n.dZ.aZ.length:Nat):Int)-1) (by omega),bG (n:=((n.am.length:Nat):Int)-1) (by omega),Vm]
 rw[show inR e.bk.aX 0 (((n.dZ.aZ.length:Nat):Int)-1)=eL n.dZ e.bk.aX from rfl]
 try rw[show leB 200 ((n.ay.length:Nat):Int)=!ltB ((n.ay.length:Nat):Int) 200 by simp only[leB,ltB];rw[Bool.eq_iff_iff];simp]
 cases h1:ltB ((n.ay.length:Nat):Int) 200<;>cases h2:inR e.bk.aN 0 (((n.am.length:Nat):Int)-1)<;>cases h3:eL n.dZ e.bk.aX<;>try exact⟨by first|rfl|trivial,by first|rfl|trivial,h.mono (by omega)⟩
 have hd:=bu.1 h2
 have hc:=bu.1 (show inR e.bk.aX 0 (((n.dZ.aZ.length:Nat):Int)-1)=true from h3)
 exact⟨by first|rfl|trivial,by first|rfl|trivial,vG h ⟨by omega,by omega,he.r,he.f⟩ (by omega)⟩
def jo (n:ab) (e:df):Bool×ab:=
 if e.aR=1 then AW n else
 if e.aR=2∨e.aR=3∨e.aR=4 then rj n e else
 if e.aR=5∨e.aR=6∨e.aR=7∨e.aR=8 then AU n e else
 if e.aR=9∨e.aR=10 then AT n e.cB (eqB e.aR 10) else
 if e.aR=11∨e.aR=12 then lV n e.cB (eqB e.aR 12) else
 if e.aR=13 then vE n e.bk else(false,n)
theorem z6 {B:Int} {n:ab} (h:NP B n) {e:df} (he:EP e) (hB:B+10000<4611686018427387904):
 uw n e=some (jo n e)∧True∧NP (B+10000) (jo n e).2:=by
 rw[jo,uw]
 by_cases h1:e.aR=1
 ·rw[if_pos h1,h1]
  have:=L4 h hB
  simp only[be,cond_true,this.1,Vm]
  exact⟨by first|rfl|trivial,by first|rfl|trivial,this.2.2⟩
 rw[if_neg h1]
 have n1:eqB e.aR 1=false:=by simpa [eqB] using h1
 by_cases h2:e.aR=2∨e.aR=3∨e.aR=4
 ·rw[if_pos h2]
  have:=Gf h e h2 (by omega)
  have hb':(bif eqB e.aR 2 then(some (eqB e.aR 2)) else(Vj (bif eqB e.aR 3 then(some (eqB e.aR 3)) else(some (eqB e.aR 4))) fun(v3:Bool)=>some v3))=some true:=by
   rcases h2 with e|e|e<;>rw[e]<;>simp only[Ki,Kk,Kl,Km,Kn,Ko,GV,GW,GX,Kj,Kh,be,cond_true,cond_false]<;>rfl
  rw[n1,hb']
  simp only[cond_true,cond_false,this.1,Vm]
  exact⟨by first|rfl|trivial,by first|rfl|trivial,this.2.2.mono (by omega)⟩
 rw[if_neg h2]
 have hb':(bif eqB e.aR 2 then(some (eqB e.aR 2)) else(Vj (bif eqB e.aR 3 then(some (eqB e.aR 3)) else(some (eqB e.aR 4))) fun(v3:Bool)=>some v3))=some false:=by
  rw[show eqB e.aR 2=false by simp[eqB];omega,show eqB e.aR 3=false by simp[eqB];omega,show eqB e.aR 4=false by simp[eqB];omega];rfl
 rw[n1,hb']
 simp only[cond_false,Vm]
 by_cases h3:e.aR=5∨e.aR=6∨e.aR=7∨e.aR=8
 ·rw[if_pos h3]
  have:=N5 h e he h3 (by omega)
  have hb3:(bif eqB e.aR 5 then(some (eqB e.aR 5)) else(Vj (bif eqB e.aR 6 then(some (eqB e.aR 6)) else(Vj (bif eqB e.aR 7 then(some (eqB e.aR 7)) else(some (eqB e.aR 8))) fun(v7:Bool)=>some v7)) fun(v6:Bool)=>some v6))=some true:=by
   rcases h3 with e|e|e|e<;>rw[e]<;>simp only[Ki,Kk,Kl,Km,Kn,Ko,GV,GW,GX,Kj,Kh,be,cond_true,cond_false]<;>rfl
  rw[hb3]
  simp only[cond_true,this.1,Vm]
  exact⟨by first|rfl|trivial,by first|rfl|trivial,this.2.2.mono (by omega)⟩
 rw[if_neg h3]
 have hb3:(bif eqB e.aR 5 then(some (eqB e.aR 5)) else(Vj (bif eqB e.aR 6 then(some (eqB e.aR 6)) else(Vj (bif eqB e.aR 7 then(some (eqB e.aR 7)) else(some (eqB e.aR 8))) fun(v7:Bool)=>some v7)) fun(v6:Bool)=>some v6))=some false:=by
  rw[show eqB e.aR 5=false by simp[eqB];omega,show eqB e.aR 6=false by simp[eqB];omega,show eqB e.aR 7=false by simp[eqB];omega,show eqB e.aR 8=false by simp[eqB];omega];rfl
 rw[hb3]
 simp only[cond_false,Vm]
 by_cases h4:e.aR=9∨e.aR=10
 ·rw[if_pos h4]
  have:=KY h e
  have hb4:(bif eqB e.aR 9 then(some (eqB e.aR 9)) else(some (eqB e.aR 10)))=some true:=by rcases h4 with e|e<;>rw[e]<;>simp[eqB]
  rw[hb4]
  simp only[cond_true,this.1,Vm]
  exact⟨by first|rfl|trivial,by first|rfl|trivial,this.2.2.mono (by omega)⟩
 rw[if_neg h4]
 have hb4:(bif eqB e.aR 9 then(some (eqB e.aR 9)) else(some (eqB e.aR 10)))=some false:=by
  rw[show eqB e.aR 9=false by simp[eqB];omega,show eqB e.aR 10=false by simp[eqB];omega];rfl
 rw[hb4]
 simp only[cond_false,Vm]
 by_cases h5:e.aR=11∨e.aR=12
 ·rw[if_pos h5]
  have:=Hn h e.cB (eqB e.aR 12)
  have hb5:(bif eqB e.aR 11 then(some (eqB e.aR 11)) else(some (eqB e.aR 12)))=some true:=by rcases h5 with e|e<;>rw[e]<;>simp[eqB]
  rw[hb5]
  simp only[cond_true,this.1,Vm]
  exact⟨by first|rfl|trivial,by first|rfl|trivial,this.2.2.mono (by omega)⟩
 rw[if_neg h5]
 have hb5:(bif eqB e.aR 11 then(some (eqB e.aR 11)) else(some (eqB e.aR 12)))=some false:=by
  rw[show eqB e.aR 11=false by simp[eqB];omega,show eqB e.aR 12=false by simp[eqB];omega];rfl
 rw[hb5]
 simp only[cond_false,Vm]
 by_cases h6:e.aR=13
 ·rw[if_pos h6,h6]
  have:=Ie h e he (by omega)
  simp only[be,cond_true,this.1,Vm]
  exact⟨by first|rfl|trivial,by first|rfl|trivial,this.2.2.mono (by omega)⟩
 ·rw[if_neg h6,show eqB e.aR 13=false by simpa [eqB] using h6]
  exact⟨by first|rfl|trivial,by first|rfl|trivial,h.mono (by omega)⟩
end Go.AM
namespace Go.AM
attribute [local simp] bE be a8
structure BY (n:ab):Prop where
 d1:∀d∈n.am,∀x∈d.bM.aF,okB x.aQ
 d2:∀d∈n.am,∀p∈d.bM.aS,okB p.aQ
 s1:∀s∈n.ai,∀p∈s.ax,okB p.aQ
 s2:∀s∈n.ai,∀x∈s.aq.aw,okB x.aQ
 f:∀f∈n.ay,okB f.bC.aT.aQ
theorem NP.of {n:ab} (ok:iF n) (v:mE n=true) (b:BY n):NP n.kv n:=by
 simp only[mE,B5,hV,bu,eK,TX,flB] at v
 obtain⟨v1,v2,v3,v4,v5,v6,v7,v8,v9,v10,v11,v12⟩:=v
 have v4:=uO v4
 have v5:=zE v5
 have v6:=zE v6
 have v8:=uO v8
 have v12:=uO v12
 refine⟨v1,ok.1,v2,F7 (by simpa using v3),by omega,v5,v6,fun i d s a hd hs ha=>?_,by omega,fun f hf=>?_,bu.2 v10,v11,⟨v12,by omega⟩⟩
 ·have:=v7 i d hd
  simp only[yb,hs,ha,hV] at this
  obtain⟨m1,m2,m3,m4,m5,m6,m7,m8⟩:=this
  have hdm:=Tn hd
  have hsm:=Tn hs
  have c1:=bu.1 (show inR d.aX 0 (((n.dZ.aZ.length:Nat):Int)-1)=true from m5)
  have c2:=bu.1 (show inR s.aX 0 (((n.dZ.aZ.length:Nat):Int)-1)=true from m6)
  exact⟨DP.of m1 (ok.2.1.2 d hdm) (b.d1 d hdm) (b.d2 d hdm),by omega,⟨(xm (ok.2.2.1.2 s hsm)).1 m2,b.s1 s hsm,b.s2 s hsm,um.1 m8⟩,by omega,lA m7,m4⟩
 ·have:=v9 f hf
  have c2:=bu.1 (show inR f.aX 0 (((n.dZ.aZ.length:Nat):Int)-1)=true from this.2)
  exact⟨by omega,by omega,b.f f hf,ok.2.2.2.2.2 f hf⟩
theorem NP.okN {B:Int} {n:ab} (h:NP B n):iF n:=by
 have h1:=h.ld
 have h2:=h.ls
 have h3:=h.la
 have h4:=h.fl
 refine⟨h.mok,⟨by omega,fun d hd=>?_⟩,⟨by omega,fun s hs=>?_⟩,⟨by omega,fun a ha=>?_⟩,⟨by omega,fun f hf=>(h.fs f hf).ok⟩⟩
 ·obtain⟨i,hi⟩:=T0 hd
  have hlt:=(Tm.1 hi).1
  obtain⟨d',s,a,e1,e2,e3,hm⟩:=h.at_ hlt
  rw[hi] at e1;cases e1;exact hm.dp.ok
 ·obtain⟨i,hi⟩:=T0 hs
  have hlt:=(Tm.1 hi).1
  obtain⟨d',s,a,e1,e2,e3,hm⟩:=h.at_ (show i<n.am.length by omega)
  rw[hi] at e2;cases e2;exact hm.sg.sp.ok
 ·obtain⟨i,hi⟩:=T0 ha
  have hlt:=(Tm.1 hi).1
  obtain⟨d',s,a,e1,e2,e3,hm⟩:=h.at_ (show i<n.am.length by omega)
  rw[hi] at e3;cases e3;exact hm.sg.mo.acc.ok
theorem NP.by_ {B:Int} {n:ab} (h:NP B n):BY n:=by
 have h1:=h.ld
 have h2:=h.ls
 have gd:∀d∈n.am,DP d:=fun d hd=>by
  obtain⟨i,hi⟩:=T0 hd
  obtain⟨d',s,a,e1,e2,e3,hm⟩:=h.at_ (Tm.1 hi).1
  rw[hi] at e1;cases e1;exact hm.dp
 have gs:∀s∈n.ai,∃a,SG s a:=fun s hs=>by
  obtain⟨i,hi⟩:=T0 hs
  have hlt:=(Tm.1 hi).1
  obtain⟨d',s,a,e1,e2,e3,hm⟩:=h.at_ (show i<n.am.length by omega)
  rw[hi] at e2;cases e2;exact⟨a,hm.sg⟩
 exact⟨fun d hd=>(gd d hd).rc.b1,fun d hd=>(gd d hd).rc.b2,fun s hs=>(gs s hs).elim fun a h=>h.b1,fun s hs=>(gs s hs).elim fun a h=>h.b2,fun f hf=>(h.fs f hf).b⟩
theorem NP.vn {B:Int} {n:ab} (h:NP B n):mE n=true:=by
 have h1:=h.ld
 have h2:=h.ls
 have h3:=h.la
 have h4:=h.fl
 have h5:=h.lo
 have hu:eqB n.dY.fA 0=false:=by simpa [eqB] using h.up
 simp only[mE,B5,hV,bu,eK,TX,flB]
 refine⟨h.map,h.core,by simp[hu],leB_t.2 (by omega),eqB_t.2 (by omega),eqB_t.2 (by omega),fun i d hd=>?_,leB_t.2 (by omega),fun f hf=>?_,bu.1 h.dn,h.nw,leB_t.2 h5.1⟩
 ·obtain⟨d',s,a,e1,e2,e3,hm⟩:=h.at_ (Tm.1 hd).1
  rw[hd] at e1;cases e1
  have hc:=hm.dp.ce
  have hsc:=hm.sg.sp
  simp only[yb,e2,e3,hV]
  exact⟨hm.dp.v,(xm hm.sg.sp.ok).2 hm.sg.sp,zu.2 hm.sg.mo.acc,hm.ids,bu.2 (by have:=hm.dc;omega),bu.2 (by have:=hm.sc;have:=hsc.ce;omega),eqB_t.2 hm.si,um.2 hm.sg.mo⟩
 ·have hf:=h.fs f hf
  exact⟨by have:=hf.d;omega,bu.2 (by have:=hf.c;omega)⟩
end Go.AM
namespace Go.AM
open Go.Proofs
attribute [local simp] bE be a8
theorem DU (x:Int) (m:Nat) (hm:m<9223372036854775808):0≤xN .i64 x (m:Int)∧xN .i64 x (m:Int)≤m:=by
 unfold xN
 have h1:(BitVec.ofInt IntKind.i64.bits x&&& BitVec.ofInt IntKind.i64.bits (m:Int)).toNat≤m:=by
  rw[BitVec.toNat_and]
  refine Nat.le_trans Nat.and_le_right ?_
  show(BitVec.ofInt 64 (m:Int)).toNat≤m
  rw[BitVec.toNat_ofInt]
  omega
 rw[Fs (by omega)]
 omega
structure cz (c:aE):Prop where
 l:c.fb.length≤1048576
 u:∀x∈c.fb,uQ x
 a:0≤c.fi
 b:c.fi≤c.fb.length
theorem wj {c:aE} (h:cz c):∃v c',py c=some (v,c')∧0≤v∧v≤255∧cz c':=by
 unfold py
 have:=h.l
 have ha:=h.a
 have hb:=h.b
 by_cases hi:c.fi<c.fb.length
 ·obtain⟨x,hx,e⟩:=ix_in h.a hi
  rw[show ltB c.fi ((c.fb.length:Nat):Int)=true from by simp[ltB,hi]]
  simp only[cond_true,e,Vm]
  refine⟨_,_,rfl,(DU _ 255 (by omega)).1,(DU _ 255 (by omega)).2,⟨h.l,h.u,?_,?_⟩⟩
  ·show 0≤WR (c.fi+1);rw[bG (by omega)];omega
  ·show WR (c.fi+1)≤(c.fb.length:Int);rw[bG (by omega)];omega
 ·rw[show ltB c.fi ((c.fb.length:Nat):Int)=false from by simp[ltB];omega]
  simp only[cond_false,Vm]
  exact⟨_,_,rfl,(DU _ 255 (by omega)).1,(DU _ 255 (by omega)).2,⟨h.l,h.u,h.a,h.b⟩⟩
theorem zU {v n:Int} (hv:0≤v) (hn:0<n):0≤Vl v n∧Vl v n<n:=by
 rw[Int.tmod_eq_emod_of_nonneg hv]
 exact⟨Int.emod_nonneg _ (by omega),Int.emod_lt_of_pos _ hn⟩
theorem FJ {c:aE} (h:cz c) {n:Int} (hn:1≤n):∃v c',bS c n=some (v,c')∧0≤v∧v<n∧cz c':=by
 unfold bS
 rw[show leB n 0=false from by simp[leB];omega]
 have hz:(!eqB n 0)=true:=by simp[eqB];omega
 simp only[cond_false,hz,cond_true]
 by_cases h2:n≤256
 ·rw[show leB n 256=true from by simp[leB,h2]]
  obtain⟨v,c',e,h0,h1,hc⟩:=wj h
  have:=zU h0 (show 0<n by omega)
  simp only[cond_true,e,Vm]
  exact⟨_,_,rfl,this.1,this.2,hc⟩
 ·rw[show leB n 256=false from by simp[leB];omega]
  obtain⟨v,c1,e,h0,h1,hc⟩:=wj h
  obtain⟨v2,c2,e2,h02,h12,hc2⟩:=wj hc
  obtain⟨v3,c3,e3,h03,h13,hc3⟩:=wj hc2
  simp only[cond_false,e,e2,e3,Vm]
  rw[bG (n:=v*65536) (by omega),bG (n:=v2*256) (by omega),bG (n:=v*65536+v2*256) (by omega),bG (n:=v*65536+v2*256+v3) (by omega)]
  have:=zU (v:=v*65536+v2*256+v3) (by omega) (show 0<n by omega)
  exact⟨_,_,rfl,this.1,this.2,hc3⟩
theorem Qs {c:aE} (h:cz c) {n:Int} (hn:1≤n):∃v c',fZ c n=some (v,c')∧cz c':=by
 obtain⟨v,c',e,_,_,hc⟩:=FJ h hn
 exact⟨_,_,by rw[fZ,e];rfl,hc⟩
theorem Sk {xs:List Int} (hl:xs.length≤1048576) (hu:∀x∈xs,uQ x):∃c,Fb xs=some c∧cz c∧c.fb=xs:=by
 have key:∀(m n k:Nat) (v:Int),m=xs.length-k→k≤xs.length→m<n→∃r,iter (qE xs) n (v,(k:Int))=some r:=by
  intro m
  induction m with
  |zero=>
   intro n k v hm hk hn
   cases n with
   |zero=>omega
   |succ n=>
    have:k=xs.length:=by omega
    subst this
    exact⟨v,by rw[iter];simp[qE]⟩
  |succ m ih=>
   intro n k v hm hk hn
   cases n with
   |zero=>omega
   |succ n=>
    have hlt:k<xs.length:=by omega
    rw[iter]
    simp only[qE,cN hlt,cond_true,Vm,a8,v0 hlt,cd (show k<9223372036854775807 by omega)]
    cases ltB (k:Int) 4000
    ·exact⟨v,rfl⟩
    ·exact ih n (k+1) _ (by omega) (by omega) (by omega)
 obtain⟨r,hr⟩:=key xs.length FU 0 (WR (193017+((xs.length:Nat):Int))) (by omega) (by omega) (by have:=kt;omega)
 refine⟨⟨xs,0,r⟩,?_,⟨hl,hu,V3 0,Int.natCast_nonneg _⟩,rfl⟩
 rw[Fb,show iter (qE xs) FU (WR (193017+((xs.length:Nat):Int)),0)=some r from hr]
 rfl
end Go.AM
namespace Go.AM
attribute [local simp] bE be a8
theorem c9 {c:aE} (h:cz c) {n:Int} (hn:1≤n):Wp (bS c n) (fun r=>cz r.2∧0≤r.1∧r.1<n):=by
 obtain⟨v,c',e,h0,h1,hc⟩:=FJ h hn
 exact Wp.of e ⟨hc,h0,h1⟩
theorem sv {c:aE} (h:cz c) {n:Int} (hn:1≤n):Wp (fZ c n) (fun r=>cz r.2):=by
 obtain⟨v,c',e,hc⟩:=Qs h hn
 exact Wp.of e hc
theorem QZ {c:aE} (h:cz c) {xs:List Int} (hx:xs≠[]):Wp (vU c xs) (fun r=>cz r.2∧r.1∈xs):=by
 have hl:0<xs.length:=List.length_pos_iff.2 hx
 unfold vU
 refine Wp.call (c9 h (by omega)) fun r hr=>?_
 exact Wp.ix hr.2.1 hr.2.2 fun x hm _=>Wp.some ⟨hr.1,hm⟩
theorem Pb {c:aE} (h:cz c) {n:Int} (h0:0≤n) (hn:n≤4000):Wp (tL c n) (fun r=>cz r.2∧okB r.1∧(r.1.length:Int)=n):=by
 unfold tL
 refine Wp.call (P:=fun x=>cz x.2∧okB x.1∧(x.1.length:Int)=n) ?_ fun x hx=>Wp.some hx
 refine Wp.iterF (fun x=>(0≤x.1∧x.1≤n)∧cz x.2.2∧okB x.2.1∧(x.2.1.length:Int)=x.1) (fun x=>(n-x.1).toNat) ⟨⟨by omega,by omega⟩,h,fun x hx=>by simp at hx,by simp⟩ (by simp only;have:=kt;omega) ?_
 rintro⟨v1,v5,v6⟩ ⟨⟨i0,i1⟩,i2,i3,i4⟩
 simp only at i0 i1 i2 i3 i4
 simp only[yZ]
 refine Wp.cond (fun hb=>?_) (fun hb=>Wp.some ⟨i2,i3,by have:=nn hb;show(v5.length:Int)=n;omega⟩)
 have hb:=im hb
 obtain⟨b,c',e,b0,b1,hc⟩:=wj i2
 refine Wp.call (Wp.of (Q:=fun r=>cz r.2∧0≤r.1∧r.1≤255) e ⟨hc,b0,b1⟩) fun r hr=>?_
 refine Wp.ok (eG (by simp;omega) (by simp;omega)) (Wp.some ⟨⟨⟨?_,?_⟩,hr.1,?_,?_⟩,?_⟩)
 all_goals simp only[bG (show-9223372036854775808≤v1+1∧v1+1≤9223372036854775807 by omega)]
 ·omega
 ·omega
 ·intro x hx
  rcases TW.1 hx with hx|hx
  ·exact i3 x hx
  ·simp at hx;subst hx
   have e1:IntKind.u8.wrap r.1=r.1:=by rw[HR];omega
   rw[e1];exact hr.2
 ·simp;omega
 ·omega
theorem EY {α:Type} {P:α→Prop} {xs:List α} {i:Nat} {a:α} (h:∀x∈xs,P x) (ha:P a):∀x∈xs.set i a,P x:=fun x hx=>by
 rcases V4 hx with h'|h'
 ·exact h x h'
 ·rw[h'];exact ha
theorem N0 {v:List (Int×List Int)} (h1:v.length≤5) (h2:∀e∈v,e.2.length≤1000):fP (⟨v.map fun e=>(⟨e.1,e.2⟩:fx)⟩:aM):=by
 refine⟨by show(v.map _).length≤_;simp;omega,fun x hx=>?_⟩
 obtain⟨e,he,rfl⟩:=Ur.1 hx
 exact⟨by have:=h2 e he;show e.2.length≤_;omega,fun _ _=>trivial⟩
theorem wKey {c:aE} (h:cz c):Wp (vY c) (fun r=>cz r.2):=by
 unfold vY
 exact Wp.call (c9 h (by omega)) fun r1 h1=>Wp.some h1.1
end Go.AM
namespace Go.AM
open Go.Proofs
attribute [local simp] bE be a8
structure JM (v:List (Int×List Int)):Prop where
 ar:∀e∈v,0≤e.1∧e.1≤1
 rg:∀(i:Nat) e,v[i]?=some e→∀x∈e.2,0≤x∧x<v.length∧x≠i
 sy:∀(i j:Nat) e f,v[i]?=some e→v[j]?=some f→(j:Int)∈e.2→(i:Int)∈f.2
def JQ (v:List (Int×List Int)) (a b:Nat) (x y:Int×List Int):List (Int×List Int):=(v.set a (x.1,x.2++[(b:Int)])).set b (y.1,y.2++[(a:Int)])
theorem wL {v:List (Int×List Int)} {a b:Nat} {x y:Int×List Int} (hx:v[a]?=some x) (hy:v[b]?=some y) (hab:a≠b) {i:Nat} {e':Int×List Int} (h:(JQ v a b x y)[i]?=some e'):
 ∃e,v[i]?=some e∧e'.1=e.1∧∀z,z∈e'.2↔z∈e.2∨(i=a∧z=b)∨(i=b∧z=a):=by
 rcases ky h with⟨e1,e2⟩|⟨e1,e2⟩
 ·subst e1;subst e2
  refine⟨y,hy,rfl,fun z=>?_⟩
  simp only[TW,UJ]
  refine⟨fun h=>?_,fun h=>?_⟩
  ·rcases h with h|h
   ·exact .inl h
   ·exact .inr (.inr ⟨by trivial,h⟩)
  ·rcases h with h|h|h
   ·exact .inl h
   ·exact absurd h.1.symm hab
   ·exact .inr h.2
 ·rcases ky e2 with⟨e3,e4⟩|⟨e3,e4⟩
  ·subst e3;subst e4
   refine⟨x,hx,rfl,fun z=>?_⟩
   simp only[TW,UJ]
   refine⟨fun h=>?_,fun h=>?_⟩
   ·rcases h with h|h
    ·exact .inl h
    ·exact .inr (.inl ⟨by trivial,h⟩)
   ·rcases h with h|h|h
    ·exact .inl h
    ·exact .inr h.2
    ·exact absurd h.1 hab
  ·refine⟨e',e4,rfl,fun z=>⟨.inl,fun h=>?_⟩⟩
   rcases h with h|h|h
   ·exact h
   ·exact absurd h.1.symm e3
   ·exact absurd h.1.symm e1
theorem Ny {v:List (Int×List Int)} (h:JM v) {a b:Nat} {x y:Int×List Int} (hx:v[a]?=some x) (hy:v[b]?=some y) (hab:a≠b):JM (JQ v a b x y):=by
 have ha:=(Tm.1 hx).1
 have hb:=(Tm.1 hy).1
 have hl:(JQ v a b x y).length=v.length:=by simp[JQ]
 refine⟨fun e he=>?_,fun i e he z hz=>?_,fun i j e f he hf hj=>?_⟩
 ·obtain⟨i,hi⟩:=T0 he
  obtain⟨e0,h0,h1,_⟩:=wL hx hy hab hi
  rw[h1];exact h.ar e0 (Tn h0)
 ·obtain⟨e0,h0,h1,h2⟩:=wL hx hy hab he
  rw[hl]
  rcases(h2 z).1 hz with hz|hz|hz
  ·exact h.rg i e0 h0 z hz
  ·obtain⟨rfl,rfl⟩:=hz;omega
  ·obtain⟨rfl,rfl⟩:=hz;omega
 ·obtain⟨e0,h0,h1,h2⟩:=wL hx hy hab he
  obtain⟨f0,g0,g1,g2⟩:=wL hx hy hab hf
  rw[g2]
  rcases(h2 j).1 hj with hz|hz|hz
  ·exact .inl (h.sy i j e0 f0 h0 g0 hz)
  ·exact .inr (.inr ⟨by omega,by omega⟩)
  ·exact .inr (.inl ⟨by omega,by omega⟩)
theorem Tf {v:List (Int×List Int)} {a b:Int} {B:Nat} (hB:B≤1000) (hv:∀e∈v,e.2.length≤B) (hj:JM v) (a0:0≤a) (a1:a<v.length) (b0:0≤b) (b1:b<v.length) (hab:a≠b):Wp (qC v a b) (fun r=>(r.length=v.length∧∀e∈r,e.2.length≤B+2)∧JM r):=by
 obtain⟨i,rfl⟩:∃i:Nat,a=i:=⟨a.toNat,by omega⟩
 obtain⟨j,rfl⟩:∃j:Nat,b=j:=⟨b.toNat,by omega⟩
 obtain⟨x,hx⟩:∃x,v[i]?=some x:=⟨_,v0 (by omega)⟩
 obtain⟨y,hy⟩:∃y,v[j]?=some y:=⟨_,v0 (by omega)⟩
 have h1:=hv x (Tn hx)
 have h2:=hv y (Tn hy)
 have hy':(v.set i (x.1,x.2++[(j:Int)]))[j]?=some y:=by rw[U7,if_neg (by omega)];exact hy
 unfold qC
 rw[a8,hx]
 simp only[Vm,Vn]
 refine Wp.ok (eG (by simp;omega) (by simp;omega)) ?_
 rw[a8,hy']
 simp only[Vm]
 refine Wp.ok (eG (by simp;omega) (by simp;omega)) (Wp.some ⟨⟨by simp,EY (EY (fun e he=>by have:=hv e he;omega) (by simp;omega)) (by simp;omega)⟩,?_⟩)
 exact Ny hj hx hy (by omega)
structure RW (n:Int) (e e':Int×List Int):Prop where
 a:e'.1=e.1
 m:∀z,z∈e'.2↔z∈e.2∧(0≤z∧z<n)
 o:e'.2.Pairwise fun x y=>x<y
 l:(e'.2.length:Int)≤n
theorem IB {v w:List (Int×List Int)} (h:JM v) (hl:w.length=v.length) (h2:2≤v.length∧v.length≤5) (hw:∀(i:Nat) e,v[i]?=some e→∃e',w[i]?=some e'∧RW v.length e e'):nM (⟨w.map fun e=>(⟨e.1,e.2⟩:fx)⟩:aM)=true:=by
 have hlen:(w.map fun e=>(⟨e.1,e.2⟩:fx)).length=v.length:=by simp[hl]
 have get:∀(i:Nat) c,(w.map fun e=>(⟨e.1,e.2⟩:fx))[i]?=some c→∃e e',v[i]?=some e∧w[i]?=some e'∧RW v.length e e'∧c=⟨e'.1,e'.2⟩:=by
  intro i c hc
  have hi:=(Tm.1 hc).1
  obtain⟨e,he⟩:∃e,v[i]?=some e:=⟨_,v0 (by omega)⟩
  obtain⟨e',he',hr⟩:=hw i e he
  rw[U6,he'] at hc
  cases hc;exact⟨e,e',he,he',hr,rfl⟩
 simp only[nM,hV,bu,eK,hlen]
 refine⟨by omega,fun i c hc=>?_⟩
 obtain⟨e,e',he,he',hr,rfl⟩:=get i c hc
 have har:=h.ar e (Tn he)
 simp only[BT,hV,bu,eK,nbB,eL,hlen]
 refine⟨by rw[hr.a];omega,fun k x hx=>?_⟩
 have hm:=Tn hx
 have hme:=(hr.m x).1 hm
 have hrg:=h.rg i e he x hme.1
 obtain⟨j,rfl⟩:∃j:Nat,x=j:=⟨x.toNat,by omega⟩
 refine⟨by omega,by have:=hrg.2.2;simpa [eqB] using this,zK (key:=id) (by simpa using hr.o) hx,?_⟩
 obtain⟨f,hf⟩:∃f,v[j]?=some f:=⟨_,v0 (by omega)⟩
 obtain⟨f',hf',hrf⟩:=hw j f hf
 have hi:=(Tm.1 he).1
 have hs:=h.sy i j e f he hf hme.1
 simp only[Jn,Vn,U6,hf',Option.map_some,Ug]
 exact⟨i,(hrf.m i).2 ⟨hs,by omega,by omega⟩,be _⟩
theorem Td {c:aE} (h:cz c):Wp (uu c) (fun r=>cz r.2∧((2≤r.1.length∧r.1.length≤5)∧∀e∈r.1,e.2.length≤200)∧nM (⟨r.1.map fun e=>(⟨e.1,e.2⟩:fx)⟩:aM)=true):=by
 unfold uu
 refine Wp.call (c9 h (by omega)) fun r1 h1=>?_
 obtain⟨n,hn⟩:∃n:Int,n=WR (2+r1.1):=⟨_,rfl⟩
 have hn1:n=2+r1.1:=by rw[hn,bG (by omega)]
 refine Wp.call (P:=fun x=>cz ⟨x.1,x.2.1,x.2.2.1⟩∧(x.2.2.2.length:Int)=n∧∀a∈x.2.2.2,0≤a∧a≤1) ?_ ?_
 ·refine Wp.iterF (fun x=>(0≤x.1∧x.1≤n)∧cz ⟨x.2.1,x.2.2.1,x.2.2.2.1⟩∧(x.2.2.2.2.length:Int)=x.1∧∀a∈x.2.2.2.2,0≤a∧a≤1) (fun x=>(n-x.1).toNat) ⟨⟨by simp only;omega,by simp only;omega⟩,h1.1,by simp,by simp⟩ (by simp only;omega) ?_
  rintro⟨v2,v3,v4,v5,v6⟩ ⟨⟨i0,i1⟩,i2,i3,i4⟩
  simp only at i0 i1 i2 i3 i4
  simp only[yU,←hn]
  refine Wp.cond (fun hb=>?_) (fun hb=>Wp.some ⟨i2,by have:=nn hb;show(v6.length:Int)=n;omega,i4⟩)
  have hb:=im hb
  refine Wp.call (c9 i2 (by omega)) fun r12 h12=>Wp.ok (eG (by simp;omega) (by simp;omega)) (Wp.some ⟨⟨⟨?_,?_⟩,h12.1,?_,?_⟩,?_⟩)
  all_goals simp only[bG (show-9223372036854775808≤v2+1∧v2+1≤9223372036854775807 by omega)]
  ·omega
  ·omega
  ·simp;omega
  ·intro a ha
   rcases TW.1 ha with ha|ha
   ·exact i4 a ha
   ·simp at ha;subst ha;omega
  ·omega
 rintro⟨v8,v9,v10,v11⟩ ⟨hc,hl,har⟩
 simp only at hc hl har
 refine Wp.call (P:=fun x=>cz ⟨x.1,x.2.1,x.2.2.1⟩∧((x.2.2.2.length:Int)=n∧∀e∈x.2.2.2,e.2.length≤200)∧JM x.2.2.2) ?_ ?_
 ·refine Wp.iterF (fun x=>(1≤x.1∧x.1≤n)∧cz ⟨x.2.1,x.2.2.1,x.2.2.2.1⟩∧((x.2.2.2.2.length:Int)=n∧∀e∈x.2.2.2.2,e.2.length≤20*x.1.toNat)∧JM x.2.2.2.2) (fun x=>(n-x.1).toNat) ⟨⟨by simp only;omega,by simp only;omega⟩,hc,⟨by simpa using hl,by simp⟩,⟨by simpa using har,fun i e he x hx=>?_,fun i j e f he hf hj=>?_⟩⟩ (by simp only;omega) ?_
  ·simp only[U6] at he
   cases hv:v11[i]?<;>rw[hv] at he<;>cases he;simp at hx
  ·simp only[U6] at he
   cases hv:v11[i]?<;>rw[hv] at he<;>cases he;simp at hj
  rintro⟨v13,v14,v15,v16,v17⟩ ⟨⟨i0,i1⟩,i2,⟨i3,i4⟩,i5⟩
  simp only at i0 i1 i2 i3 i4 i5
  simp only[yV,←hn]
  refine Wp.cond (fun hb=>?_) (fun hb=>Wp.some ⟨i2,⟨i3,fun e he=>by have:=i4 e he;show e.2.length≤200;omega⟩,i5⟩)
  have hb:=im hb
  refine Wp.call (P:=fun x=>cz ⟨x.1,x.2.1,x.2.2.1⟩∧((x.2.2.2.length:Int)=n∧∀e∈x.2.2.2,e.2.length≤20*v13.toNat+2*v13.toNat)∧JM x.2.2.2) ?_ ?_
  ·refine Wp.iterF (fun x=>(0≤x.1∧x.1≤v13)∧cz ⟨x.2.1,x.2.2.1,x.2.2.2.1⟩∧((x.2.2.2.2.length:Int)=n∧∀e∈x.2.2.2.2,e.2.length≤20*v13.toNat+2*x.1.toNat)∧JM x.2.2.2.2) (fun x=>(v13-x.1).toNat) ⟨⟨by simp only;omega,by simp only;omega⟩,i2,⟨i3,by simpa using i4⟩,i5⟩ (by simp only;omega) ?_
   rintro⟨v43,v44,v45,v46,v47⟩ ⟨⟨j0,j1⟩,j2,⟨j3,j4⟩,j5⟩
   simp only at j0 j1 j2 j3 j4 j5
   simp only[yW]
   refine Wp.cond (fun hc=>?_) (fun hc=>Wp.some ⟨j2,⟨j3,fun e he=>by have:=j4 e he;have:=nn hc;show e.2.length≤_;omega⟩,j5⟩)
   have hc:=im hc
   refine Wp.call (P:=fun x=>cz ⟨x.2.1,x.2.2.1,x.2.2.2⟩) ?_ ?_
   ·refine Wp.cond (fun _=>Wp.call (sv j2 (by omega)) fun r62 h62=>?_) (fun _=>Wp.call (sv j2 (by omega)) fun r64 h64=>Wp.some h64)
    exact Wp.cond (fun _=>Wp.some h62) (fun _=>Wp.call (sv h62 (by omega)) fun r63 h63=>Wp.some h63)
   rintro⟨v58,v59,v60,v61⟩ hc2
   refine Wp.call (P:=fun x=>((x.length:Int)=n∧∀e∈x,e.2.length≤20*v13.toNat+2*v43.toNat+2)∧JM x) ?_ ?_
   ·refine Wp.cond (fun _=>Wp.call (Tf (B:=20*v13.toNat+2*v43.toNat) (by omega) j4 j5 (by omega) (by omega) (by omega) (by omega) (by omega)) fun r65 h65=>Wp.some ⟨⟨by rw[h65.1.1];exact j3,h65.1.2⟩,h65.2⟩) (fun _=>Wp.some ⟨⟨j3,fun e he=>by have:=j4 e he;omega⟩,j5⟩)
   intro v62 h62
   refine Wp.some ⟨⟨⟨?_,?_⟩,hc2,⟨h62.1.1,fun e he=>?_⟩,h62.2⟩,?_⟩
   all_goals simp only[bG (show-9223372036854775808≤v43+1∧v43+1≤9223372036854775807 by omega)]
   ·omega
   ·omega
   ·have:=h62.1.2 e he;omega
   ·omega
  ·rintro⟨v55,v56,v57,v58⟩ ⟨k1,⟨k2,k3⟩,k4⟩
   simp only at k1 k2 k3 k4
   refine Wp.some ⟨⟨⟨?_,?_⟩,k1,⟨k2,fun e he=>?_⟩,k4⟩,?_⟩
   all_goals simp only[bG (show-9223372036854775808≤v13+1∧v13+1≤9223372036854775807 by omega)]
   ·omega
   ·omega
   ·have:=k3 e he;omega
   ·omega
 rintro⟨v40,v41,v42,v43⟩ ⟨hc,⟨hl,hb⟩,hj⟩
 simp only at hc hl hb hj
 have hn5:2≤v43.length∧v43.length≤5:=by omega
 refine Wp.call (P:=fun x=>((x.length:Int)=n∧∀e∈x,e.2.length≤200)∧∀(i:Nat) e,v43[i]?=some e→∃e',x[i]?=some e'∧RW n e e') ?_ fun v78 h78=>Wp.some ⟨hc,⟨by have:=h78.1.1;show 2≤v78.length∧v78.length≤5;omega,h78.1.2⟩,IB hj (by have:=h78.1.1;show v78.length=v43.length;omega) hn5 (by rw[hl];exact h78.2)⟩
 refine Wp.iterF (fun x=>(0≤x.1∧x.1≤n)∧((x.2.length:Int)=n∧∀e∈x.2,e.2.length≤200)∧∀(i:Nat) e,v43[i]?=some e→∃e',x.2[i]?=some e'∧((i:Int)<x.1→RW n e e')∧(x.1≤(i:Int)→e'=e)) (fun x=>(n-x.1).toNat) ⟨⟨by simp only;omega,by simp only;omega⟩,⟨hl,hb⟩,fun i e he=>⟨e,he,fun hi=>by simp only at hi;omega,fun _=>rfl⟩⟩ (by simp only;omega) ?_
 rintro⟨v66,v67⟩ ⟨⟨i0,i1⟩,⟨i3,i4⟩,i5⟩
 simp only at i0 i1 i3 i4 i5
 simp only[yX,←hn]
 refine Wp.cond (fun hb=>?_) (fun hb=>Wp.some ⟨⟨i3,i4⟩,fun i e he=>?_⟩)
 rotate_left
 ·obtain⟨e',h1,h2,h3⟩:=i5 i e he
  have hi:=(Tm.1 he).1
  have:=nn hb
  exact⟨e',h1,h2 (by omega)⟩
 have hb:=im hb
 obtain⟨q,rfl⟩:∃q:Nat,v66=q:=⟨v66.toNat,by omega⟩
 obtain⟨e0,he0⟩:∃e0,v43[q]?=some e0:=⟨_,v0 (by omega)⟩
 obtain⟨eq',hq1,_,hq3⟩:=i5 q e0 he0
 have hq3:=hq3 (V3 _)
 subst hq3
 have hl0:=i4 eq' (Tn hq1)
 refine Wp.call (P:=fun x=>(x.length:Int)≤n∧(∀z,z∈x↔z∈eq'.2∧(0≤z∧z<n))∧x.Pairwise fun x y=>x<y) ?_ ?_
 ·refine Wp.iterF (fun x=>(0≤x.1∧x.1≤n)∧(x.2.length:Int)≤x.1∧(∀z,z∈x.2↔z∈eq'.2∧(0≤z∧z<x.1))∧x.2.Pairwise fun x y=>x<y) (fun x=>(n-x.1).toNat) ⟨⟨by simp only;omega,by simp only;omega⟩,by simp,fun z=>by simp,by simp⟩ (by simp only;omega) ?_
  rintro⟨v79,v80⟩ ⟨⟨j0,j1⟩,j2,j3,j4⟩
  simp only at j0 j1 j2 j3 j4
  simp only[yY,←hn]
  refine Wp.cond (fun hc=>?_) (fun hc=>?_)
  rotate_left
  ·have:=nn hc
   have e:v79=n:=by omega
   subst e
   exact Wp.some ⟨j2,j3,j4⟩
  have hc:=im hc
  simp only[a8,hq1,Vm,Nm (show eq'.2.length≤1048576 by omega)]
  have key:(eq'.2.any fun x=>eqB x v79)=true↔v79∈eq'.2:=by
   rw[Ug];exact⟨fun⟨x,h1,h2⟩=>by rw[←lA h2];exact h1,fun h=>⟨v79,h,be _⟩⟩
  refine Wp.call (P:=fun x=>(x.length:Int)≤v79+1∧(∀z,z∈x↔z∈eq'.2∧(0≤z∧z<v79+1))∧x.Pairwise fun x y=>x<y) ?_ fun x hx=>Wp.some ⟨⟨⟨?_,?_⟩,?_,?_,hx.2.2⟩,?_⟩
  ·refine Wp.cond (fun hh=>Wp.ok (eG (by simp;omega) (by simp;omega)) (Wp.some ⟨by simp;omega,fun z=>?_,?_⟩)) (fun hh=>Wp.some ⟨by omega,fun z=>?_,j4⟩)
   ·have:=key.1 hh
    rw[TW,j3 z]
    constructor
    ·rintro(h|h)
     ·exact⟨h.1,by omega⟩
     ·simp at h;subst h;exact⟨this,by omega⟩
    ·rintro⟨h1,h2⟩
     by_cases e:z=v79
     ·exact .inr (by simp[e])
     ·exact .inl ⟨h1,by omega⟩
   ·refine List.pairwise_append.2 ⟨j4,by simp,fun x hx y hy=>?_⟩
    simp at hy;subst hy
    exact((j3 x).1 hx).2.2
   ·rw[j3 z]
    constructor
    ·rintro⟨h1,h2⟩;exact⟨h1,by omega⟩
    ·rintro⟨h1,h2⟩
     refine⟨h1,h2.1,?_⟩
     by_cases e:z=v79
     ·subst e;rw[key.2 h1] at hh;cases hh
     ·omega
  all_goals simp only[bG (show-9223372036854775808≤v79+1∧v79+1≤9223372036854775807 by omega)]
  ·omega
  ·omega
  ·exact hx.1
  ·exact hx.2.1
  ·omega
 ·intro v84 h84
  simp only[a8,hq1,Vm,Vn]
  refine Wp.some ⟨⟨⟨?_,?_⟩,⟨by simpa using i3,EY i4 (by have:=h84.1;show v84.length≤200;omega)⟩,fun i e he=>?_⟩,?_⟩
  all_goals simp only[bG (show-9223372036854775808≤(q:Int)+1∧(q:Int)+1≤9223372036854775807 by omega)]
  ·omega
  ·omega
  ·obtain⟨e',h1,h2,h3⟩:=i5 i e he
   by_cases hi:q=i
   ·subst hi
    rw[he0] at he;cases he
    exact⟨(eq'.1,v84),by simp[(Tm.1 hq1).1],fun _=>⟨rfl,h84.2.1,h84.2.2,h84.1⟩,fun h=>by omega⟩
   ·exact⟨e',by rw[U7,if_neg hi];exact h1,fun h=>h2 (by omega),fun h=>h3 (by omega)⟩
  ·omega
theorem O9 {c:aE} (h:cz c):Wp (xn c) (fun r=>cz r.2∧fP r.1∧nM r.1=true):=by
 unfold xn
 exact Wp.call (Td h) fun r hr=>Wp.some ⟨hr.1,N0 hr.2.1.1.2 (fun e he=>by have:=hr.2.1.2 e he;omega),hr.2.2⟩
end Go.AM
