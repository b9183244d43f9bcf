/- A part. -/
import Derived.Test.YtljhooecmjejiaaGreatP3
set_option linter.unusedVariables false
set_option linter.unusedSimpArgs false
open Int renaming le_refl→V3,toNat_natCast→Vn,tmod→Vl,le_trans→V7
open Option renaming bind_some→Vm,bind→Vj
open Bool renaming and_eq_true→hV,not_true→UY,or_eq_true→T8,true_and→VK,eq_iff_iff→Vo,or_eq_false_iff→Ua,and_true→VO,and_eq_false_iff→V6,not_false→VN,false_or→U1
open List renaming getElem?_eq_some_iff→Tm,getElem?_eq_getElem→v0,mem_of_getElem?→Tn,prefix_refl→V5,mem_map→Ur,mem_append→TW,getElem?_append_right→Tz,range→TU,getElem?_append_left→Tu,getD_eq_getElem?_getD→U2,take_add_one→Vr,map_append→UK,getElem?_of_mem→T0,mem_append_left→V9,mem_of_mem_take→Uw,map_cons→Uu,getElem?_map→U6,append_assoc→TL,nil_append→UZ,length_nil→Vp,sum_append→V8,map_nil→UN
namespace Go.AM
open Go.Proofs
attribute [local simp] bE be a8
theorem z1 {α τ ρ:Type} {L:τ→Option (cp τ ρ)} (mk:Nat→τ) (xs:List α) (p:Nat→α→Bool) (f:ρ) (c:Option ρ) (hl:xs.length≤9223372036854775806)
 (hs:∀(k:Nat) (x:α),xs[k]?=some x→k<xs.length→L (mk k)=bif p k x then some (.next (mk (k+1))) else some (.done f)) (he:L (mk xs.length)=dn c):
 iter L FU (mk 0)=bif gM p xs then c else some f:=by
 have:=eD (step:=L) xs.zipIdx (fun k (_:Unit)=>mk k) (fun _ y=>bif p y.2 y.1 then some (.next ()) else some (.done f)) (fun _=>c) (by simpa using hl)
  (fun k y s hy hk=>by
   have hk':k<xs.length:=by simpa using hk
   have:y=(xs[k],k):=by rw[v0 hk] at hy;simpa using hy.symm
   subst this
   rw[hs k xs[k] (v0 hk') hk'];cases p k xs[k]<;>rfl) (fun s=>by rw[List.length_zipIdx,he]) ()
 refine Eq.trans (show iter L FU (mk 0)=_ from this) ?_
 have key:∀ys:List (α×Nat),iW (fun(_:Unit) y=>bif p y.2 y.1 then some (.next ()) else some (cp.done f)) (fun _=>c) ys ()=bif ys.all (fun y=>p y.2 y.1) then c else some f:=by
  intro ys
  induction ys with
  |nil=>rfl
  |cons x xs ih=>rw[iW];cases hp:p x.2 x.1<;>simp[hp,ih]
 exact key _
theorem xK {α:Type} (xs:List α):gM (fun _ _=>true) xs=true:=eK.2 fun _ _ _=>rfl
theorem Ho {m:aM} (h:fP m):mA m=some m:=by
 have hl:=h.1
 have:=z1 (L:=gO m) (fun k=>((k:Int),m.aZ.take k)) m.aZ (fun _ _=>true) m.aZ (some m.aZ) (by omega) (fun k x hx hk=>by
  have hm:=Tn hx
  have h1:=(h.2 x hm).1
  have e:m.aZ.take (k+1)=m.aZ.take k++[x]:=by rw[Vr,hx];rfl
  simp only[gO,cN hk,a8,hx,Vm,cond_true,UZ,e,cd (show k<9223372036854775807 by omega),
   eG (b:=8) (n:=x.cW.length) (by omega) (by omega),
   eG (b:=32) (n:=(m.aZ.take k++[(⟨x.f5,x.cW⟩:fx)]).length) (by simp;omega) (by simp;omega)]) (by simp[gO])
 rw[xK] at this
 have this:iter (gO m) FU (0,[])=some m.aZ:=by simpa using this
 rw[mA,this];rfl
def vQ (x y:aC):Bool:=eqB x.ID.dR y.ID.dR&&(eqB x.ID.bN y.ID.bN&&true)
theorem LR (x y:aC):vQ x y=(eqB x.ID.dR y.ID.dR&&(eqB x.ID.bN y.ID.bN&&true)):=rfl
def yN (rs:List aC) (k:Nat) (x:aC):Bool:=rP x&&gM (fun _ y=>!vQ y x) (rs.take k)
def pQ (rs:List aC):Bool:=gM (yN rs) rs&&leB ((rs.length:Nat):Int) 4
theorem HD {α:Type} {xs:List α} {k i:Nat} {x:α} (h:(xs.take k)[i]?=some x):xs[i]?=some x∧i<k:=by
 rw[List.getElem?_take] at h
 split at h
 ·exact⟨h,by assumption⟩
 ·cases h
theorem Iy {rs:List aC} (hl:rs.length≤1000):pF rs=some (pQ rs):=by
 have h2:∀(i:Nat) (x:aC),rs[i]?=some x→iter (li rs (i:Int)) FU 0=bif gM (fun _ y=>!vQ y x) (rs.take i) then some (.next ((i+1:Nat):Int)) else some (.done false):=by
  intro i x hx
  have hi:=(Tm.1 hx).1
  have hlt:(rs.take i).length=i:=by simp;omega
  refine lv (rs.take i) (fun _ y=>!vQ y x) (cp.done false) _ (by omega) (fun k y hy hk=>?_) (by simp[li,hlt,cd (show i<9223372036854775807 by omega)])
  obtain⟨hy',hki⟩:=HD hy
  simp only[li,cN hki,a8,hx,hy',cd (show k<9223372036854775807 by omega),Vm,cond_true,←LR]
  cases vQ y x<;>rfl
 have hL:iter (lh rs) FU 0=bif gM (yN rs) rs then some (leB ((rs.length:Nat):Int) 4) else some false:=by
  refine lv rs (yN rs) false _ (by omega) (fun k x hx hk=>?_) (by simp[lh])
  simp only[lh,cN hk,a8,hx,Og,h2 k x hx,Vm,cond_true,yN]
  cases rP x<;>cases gM (fun _ y=>!vQ y x) (rs.take k)<;>rfl
 simp only[pF,hL,pQ]
 cases gM (yN rs) rs<;>rfl
def pY (c:Nat) (rs:List aC) (j:Nat):az:=⟨⟨(rs.getD j default).ID,(rs.getD j default).eY,(rs.getD j default).cT⟩,0,Vl (j:Int) (c:Int),0,0,0,false,0,⟨1,[],[]⟩⟩
def jH (p:bB) (rs:List aC) (j:Nat):ag:=⟨rs.getD j default,p,0,⟨0,0,0,0,0⟩,0,0,0,0,0,0,⟨0,0,0⟩,[],⟨1,[]⟩,0,⟨(j:Int),0,0⟩⟩
def wi (b:Int):Int:=bif inR b 0 100000 then b else 0
def vk (b:Int):aj:=⟨wi b,wi b,0,[]⟩
def fr (m:aM) (rs:List aC) (p:bB) (b:Int) (n:Nat):ab:=
 ⟨m,(TU n).map (pY m.aZ.length rs),(TU n).map (jH p rs),(TU n).map (fun _=>vk b),[],0,⟨2,3⟩,0,0⟩
def zeroN:ab:=⟨⟨[]⟩,[],[],[],[],0,⟨0,0⟩,0,0⟩
theorem acc_s (b:Int):pf b=some (vk b):=by
 simp only[pf,eC,Vm,vk,wi];cases inR b 0 100000<;>rfl
theorem ses_s {p:bB} (h:ew p) (x:aC) (k:Int):pj x p k=some (⟨x,p,0,⟨0,0,0,0,0⟩,0,0,0,0,0,0,⟨0,0,0⟩,[],⟨1,[]⟩,0,⟨k,0,0⟩⟩:ag):=by
 have h1:=h.1
 simp only[pj,qI,UZ,eG (b:=8) (n:=p.bJ.length) (by omega) (by omega),cond_true,Vm];rfl
theorem PM (c:mV) (k:Int):ry c k=some (⟨c,0,k,0,0,0,false,0,⟨1,[],[]⟩⟩:az):=by rw[ry];rfl
theorem LH {α:Type} (f:Nat→α) (k:Nat):(TU (k+1)).map f=(TU k).map f++[f k]:=by rw[List.range_succ,UK];rfl
theorem JI {α:Type} [Inhabited α] {xs:List α} {k:Nat} {x:α} (h:xs[k]?=some x):xs.getD k default=x:=by rw[U2,h];rfl
def mkN (m:aM) (rs:List aC) (p:bB) (b:Int) (k:Nat):Int×List aj×List ag×List az:=((k:Int),(fr m rs p b k).bh,(fr m rs p b k).ai,(fr m rs p b k).am)
theorem new_s {m:aM} (hm:fP m) {rs:List aC} (hl:rs.length≤1000) {p:bB} (hp:ew p) (b:Int):
 ph m rs p b=some (bif nM m&&(pS p&&pQ rs) then fr m rs p b rs.length else zeroN):=by
 simp only[ph,Rf hm,OL hp,Iy hl,Vm]
 cases hv:nM m with
 |false=>rfl
 |true=>
  cases pS p with
  |false=>rfl
  |true=>
   cases pQ rs with
   |false=>rfl
   |true=>
    have hc:1≤m.aZ.length:=by
     simp only[nM,hV] at hv
     have:=bu.1 hv.1;omega
    have hz:eqB ((m.aZ.length:Nat):Int) 0=false:=eqB_f.2 (by omega)
    have:=z1 (L:=kS m rs p b) (mkN m rs p b) rs (fun _ _=>true) ((fr m rs p b rs.length).bh,(fr m rs p b rs.length).ai,(fr m rs p b rs.length).am) (some ((fr m rs p b rs.length).bh,(fr m rs p b rs.length).ai,(fr m rs p b rs.length).am)) (by omega) (fun k x hx hk=>by
     simp only[mkN,fr,kS,cN hk,a8,hx,hz,Vm,cond_true,VN,PM,dv,ses_s hp,acc_s,cd (show k<9223372036854775807 by omega),LH,
      eG (b:=144) (n:=((TU k).map (pY m.aZ.length rs)++[(⟨⟨x.ID,x.eY,x.cT⟩,0,Vl (k:Int) ((m.aZ.length:Nat):Int),0,0,0,false,0,⟨1,[],[]⟩⟩:az)]).length) (by simp;omega) (by simp;omega),
      eG (b:=288) (n:=((TU k).map (jH p rs)++[(⟨x,p,0,⟨0,0,0,0,0⟩,0,0,0,0,0,0,⟨0,0,0⟩,[],⟨1,[]⟩,0,⟨(k:Int),0,0⟩⟩:ag)]).length) (by simp;omega) (by simp;omega),
      eG (b:=48) (n:=((TU k).map (fun _=>vk b)++[(⟨(vk b).eZ,(vk b).bQ,(vk b).eH,[]⟩:aj)]).length) (by simp;omega) (by simp;omega),pY,jH,JI hx]
     rfl) (by simp[mkN,kS])
    rw[xK] at this
    simp only[UY,cond_false,Bool.and_self,cond_true,Ho hm,Vm]
    rw[show((0:Int),([]:List aj),([]:List ag),([]:List az))=mkN m rs p b 0 from rfl,this]
    rfl
section
variable {m:aM} {rs:List aC} {p:bB} {b:Int}
theorem w0:WR 0=0:=bG (by omega)
theorem w1:WR 1=1:=bG (by omega)
theorem okN (hm:fP m) (hp:ew p) (hl:rs.length≤1000):iF (fr m rs p b rs.length):=by
 refine⟨hm,⟨by simp[fr];omega,fun x hx=>?_⟩,⟨by simp[fr];omega,fun x hx=>?_⟩,⟨by simp[fr];omega,fun x hx=>?_⟩,⟨by simp[fr],fun x hx=>by simp[fr] at hx⟩⟩
 ·obtain⟨k,_,rfl⟩:=Ur.1 hx
  exact⟨⟨by simp[pY],by simp[pY]⟩,⟨by simp[pY],by simp[pY]⟩⟩
 ·obtain⟨k,_,rfl⟩:=Ur.1 hx
  exact⟨hp,⟨by simp[jH],by simp[jH]⟩,⟨by simp[jH],by simp[jH]⟩⟩
 ·obtain⟨k,_,rfl⟩:=Ur.1 hx
  exact⟨by simp[vk],fun _ _=>trivial⟩
theorem Dc {α:Type} (f:Nat→α) {n k:Nat} (hk:k<n):((TU n).map f)[k]?=some (f k):=by simp[hk]
theorem wZ {α:Type} {f:Nat→α} {n k:Nat} {x:α} (h:((TU n).map f)[k]?=some x):k<n∧x=f k:=by
 rw[U6] at h
 by_cases hk:k<n
 ·simp[hk] at h;exact⟨hk,h.symm⟩
 ·simp[hk] at h
theorem Rx (b:Int):0≤wi b∧wi b≤100000:=by
 unfold wi
 cases h:inR b 0 100000 with
 |false=>simp
 |true=>simpa using bu.1 h
variable (H:nM m=true∧pS p=true∧pQ rs=true)
include H
theorem Ag:1≤m.aZ.length∧m.aZ.length≤6:=by
 obtain⟨hv,hs,hr⟩:=id H
 simp only[nM,hV] at hv
 have:=bu.1 hv.1;omega
theorem Kt {k:Nat} (hk:k<rs.length):rP (rs.getD k default)=true:=by
 obtain⟨hv,hs,hr⟩:=id H
 simp only[pQ,hV] at hr
 have:=eK.1 hr.1 k _ (v0 hk)
 simp only[yN,hV] at this
 rw[U2,v0 hk]
 exact this.1
theorem Oh:rs.length≤4:=by
 obtain⟨hv,hs,hr⟩:=id H
 simp only[pQ,hV] at hr
 have:=uO hr.2;omega
theorem RD {k:Nat} (hk:k<rs.length):lq (pY m.aZ.length rs k)=true:=by
 obtain⟨hv,hs,hr⟩:=id H
 have h1:=Kt H hk
 obtain⟨c1,c2⟩:=Ag H
 have h2:=zU (v:=(k:Int)) (n:=(m.aZ.length:Int)) (by omega) (by omega)
 simp only[rP,hV] at h1
 simp only[lq,pY,xG,h1.1,h1.2.1,h1.2.2,bu.2 (show(0:Int)≤Vl (k:Int) (m.aZ.length:Int)∧Vl (k:Int) (m.aZ.length:Int)≤5 from⟨h2.1,by omega⟩),VK,VO]
 simp[inR,leB,oU,pR,zr,gM,eqB,w1]
theorem SJ {k:Nat} (hk:k<rs.length):iO (jH p rs k)=true:=by
 obtain⟨hv,hs,hr⟩:=id H
 have h1:=Kt H hk
 have hq:jq (⟨(k:Int),0,0⟩:dh)=true:=by simp[jq,leB]
 simp only[iO,jH,h1,hs,hq,VK]
 have hp:tj (jH p rs k)=true:=by
  simp[tj,jH,LI,hq,vF,w0,leB]
 simp only[jH] at hp
 rw[hp]
 simp[inR,leB,ltB,oU,jS,jh,CY,zr,gM,eqB,w1]
theorem Mn:iN (vk b)=true:=by
 obtain⟨hv,hs,hr⟩:=id H
 obtain⟨b1,b2⟩:=Rx b
 simp only[iN,vk,QV,OX,List.foldl_nil,Int.add_zero,bG (show-9223372036854775808≤wi b∧wi b≤9223372036854775807 by omega),bu.2 (show(0:Int)≤wi b∧wi b≤100000 from⟨b1,b2⟩),bu.2 (show(0:Int)≤wi b∧wi b≤wi b from⟨b1,by omega⟩),bu.2 (show(0:Int)≤0∧(0:Int)≤wi b from⟨by omega,b1⟩),be,VK,VO]
 simp[leB,gM]
theorem Sa {k:Nat} (hk:k<rs.length):yb (fr m rs p b rs.length) k (pY m.aZ.length rs k)=true:=by
 obtain⟨hv,hs,hr⟩:=id H
 obtain⟨c1,c2⟩:=Ag H
 have h2:=zU (v:=(k:Int)) (n:=(m.aZ.length:Int)) (by omega) (by omega)
 have hq:jq (⟨(k:Int),0,0⟩:dh)=true:=by simp[jq,leB]
 have e1:(fr m rs p b rs.length).ai[k]?=some (jH p rs k):=Dc _ hk
 have e2:(fr m rs p b rs.length).bh[k]?=some (vk b):=Dc _ hk
 have i1:Ca (pY m.aZ.length rs k) (jH p rs k)=true:=by simp[Ca,pY,jH]
 have i2:eL (fr m rs p b rs.length).dZ (pY m.aZ.length rs k).aX=true:=bu.2 (show(0:Int)≤Vl (k:Int) (m.aZ.length:Int)∧Vl (k:Int) (m.aZ.length:Int)≤((m.aZ.length:Nat):Int)-1 from⟨h2.1,by omega⟩)
 have i3:eL (fr m rs p b rs.length).dZ (jH p rs k).aX=true:=bu.2 (show(0:Int)≤0∧(0:Int)≤((m.aZ.length:Nat):Int)-1 from⟨by omega,by omega⟩)
 have i4:wa (vk b) (jH p rs k).bW=true:=by
  have ha:=Mn (b:=b) H
  simp only[vk] at ha
  simp[wa,ha,jH,hq,ip,vk,eqB]
 have i5:eqB (jH p rs k).bW.au (k:Int)=true:=by simp[jH]
 simp only[yb,e1,e2,RD H hk,SJ H hk,Mn (b:=b) H,i1,i2,i3,i4,i5,VO]
theorem Sg:mE (fr m rs p b rs.length)=true:=by
 obtain⟨hv,hs,hr⟩:=id H
 obtain⟨c1,c2⟩:=Ag H
 have hl:=Oh H
 have he:B5 (fr m rs p b rs.length)=true:=by
  have:∀c:Nat,1≤c→c≤6→inR 0 0 (WR ((kw .i64 1 ((c:Nat):Int))-1))=true:=by
   intro c h1 h2
   rcases(show c=1∨c=2∨c=3∨c=4∨c=5∨c=6 by omega) with rfl|rfl|rfl|rfl|rfl|rfl<;>kernel_rfl
  simp only[B5,fr,this _ c1 c2,VK];simp[inR,leB]
 have hp:lr (fr m rs p b rs.length).dY=true:=by show lr ⟨2,3⟩=true;kernel_rfl
 have ha:gM (yb (fr m rs p b rs.length)) (fr m rs p b rs.length).am=true:=eK.2 fun k d hd=>by
  obtain⟨hk,rfl⟩:=wZ hd
  exact Sa H hk
 have hd:(fr m rs p b rs.length).am.length=rs.length:=by simp[fr]
 have hse:(fr m rs p b rs.length).ai.length=rs.length:=by simp[fr]
 have hac:(fr m rs p b rs.length).bh.length=rs.length:=by simp[fr]
 simp only[mE,show nM (fr m rs p b rs.length).dZ=true from hv,hp,ha,he,hd,hse,hac,be,leB_t.2 (show((rs.length:Nat):Int)≤4 by omega),VK,VO]
 simp[fr,leB,eqB]
end
end Go.AM
namespace Go.AM
open Go.Proofs
attribute [local simp] bE be a8
theorem xO:∀(l:List Int) (r:ByteArray),(l.foldl (fun r n=>r.push (UInt8.ofNat n.toNat)) r).data.toList=r.data.toList++l.map fun n=>UInt8.ofNat n.toNat
 |[],r=>by simp
 |x::l,r=>by
  rw[List.foldl_cons,xO l,Uu]
  simp[ByteArray.push]
theorem Mz {a b:List Int} (ha:okB a) (hb:okB b) (h:uK a=uK b):a=b:=by
 have h1:=xO a ByteArray.empty
 have h2:=xO b ByteArray.empty
 have e:(a.foldl (fun r n=>r.push (UInt8.ofNat n.toNat)) ByteArray.empty).data.toList=(b.foldl (fun r n=>r.push (UInt8.ofNat n.toNat)) ByteArray.empty).data.toList:=by
  have:uK a=uK b:=h
  unfold uK at this;rw[this]
 rw[h1,h2] at e
 replace e:=List.append_cancel_left e
 clear h h1 h2
 induction a generalizing b with
 |nil=>cases b with
  |nil=>rfl
  |cons y b=>simp at e
 |cons x a ih=>cases b with
  |nil=>simp at e
  |cons y b=>
   simp only[Uu,List.cons.injEq] at e
   have hx:=ha x (by simp)
   have hy:=hb y (by simp)
   have e1:=congrArg UInt8.toNat e.1
   simp only[uQ] at hx hy
   rw[UInt8.toNat_ofNat',UInt8.toNat_ofNat'] at e1
   rw[ih (fun z hz=>ha z (by simp[hz])) (fun z hz=>hb z (by simp[hz])) e.2,show x=y by omega]
theorem QP {a b:List Int} (ha:okB a) (hb:okB b):strB (uK a) (uK b)=decide (a=b):=by
 rw[Vo,strB_t,decide_eq_true_eq]
 exact⟨Mz ha hb,fun h=>by rw[h]⟩
theorem Qw {x y:ao} (hx:okB x.aT.aQ) (hy:okB y.aT.aQ):o8 x y=some (decide (x=y)):=by
 have key:(bif eqB x.aa y.aa then bif eqB x.aO y.aO then bif eqB x.aT.cf y.aT.cf then bif eqB x.aT.em y.aT.em then bif eqB x.aT.gV y.aT.gV then decide (x.aT.aQ=y.aT.aQ) else false else false else false else false else false)=decide (x=y):=by
  rw[Vo]
  obtain⟨g,e,⟨a,b,c,d⟩⟩:=x
  obtain⟨g',e',⟨a',b',c',d'⟩⟩:=y
  simp only[eqB,cond_eq_ite]
  simp only[decide_eq_true_eq,ao.mk.injEq,bb.mk.injEq]
  constructor
  ·intro h
   split at h<;>try (cases h;done)
   split at h<;>try (cases h;done)
   split at h<;>try (cases h;done)
   split at h<;>try (cases h;done)
   split at h<;>try (cases h;done)
   simp_all
  ·rintro⟨rfl,rfl,rfl,rfl,rfl,rfl⟩;simp
 rw[←key]
 simp only[o8,p7,mt,QP hx hy]
 cases eqB x.aa y.aa<;>cases eqB x.aO y.aO<;>cases eqB x.aT.cf y.aT.cf<;>cases eqB x.aT.em y.aT.em<;>cases eqB x.aT.gV y.aT.gV<;>rfl
def OC (a b:aA):Bool:=(eqB a.aR b.aR&&(eqB a.aX b.aX&&(eqB a.aa b.aa&&(eqB a.aO b.aO&&(eqB a.bN b.bN&&(eqB a.bR.eQ b.bR.eQ&&(eqB a.bR.gx b.bR.gx&&(eqB a.bR.gV b.bR.gV&&(eqB a.bR.uW b.bR.uW&&(eqB a.bR.eY b.bR.eY&&(eqB a.gV b.gV&&true)))))))))))
theorem QO (a b:aA):OC a b=decide (a=b):=by
 rw[Vo]
 obtain⟨a1,a2,a3,a4,a5,⟨v1,v2,v3,v4,v5⟩,a6⟩:=a
 obtain⟨b1,b2,b3,b4,b5,⟨w1,w2,w3,w4,w5⟩,b6⟩:=b
 simp only[OC,hV,eqB_t,decide_eq_true_eq,aA.mk.injEq,cO.mk.injEq]
 constructor
 ·rintro⟨rfl,rfl,rfl,rfl,rfl,rfl,rfl,rfl,rfl,rfl,rfl,_⟩;simp
 ·rintro⟨rfl,rfl,rfl,rfl,rfl,⟨rfl,rfl,rfl,rfl,rfl⟩,rfl⟩;simp
theorem SE {x y:bD} (hx:okB x.bC.aT.aQ) (hy:okB y.bC.aT.aQ):lj x y=some (decide (x=y)):=by
 have key:(eqB x.aN y.aN&&(booB x.eh y.eh&&(booB x.cq y.cq&&(eqB x.aX y.aX&&(OC x.aY y.aY&&decide (x.bC=y.bC))))))=decide (x=y):=by
  rw[Vo]
  obtain⟨a1,a2,a3,a4,a5,a6⟩:=x
  obtain⟨b1,b2,b3,b4,b5,b6⟩:=y
  simp only[QO,hV,eqB_t,booB_t,decide_eq_true_eq,bD.mk.injEq]
 rw[←key]
 simp only[lj,Qw hx hy,Vm]
 rw[show(eqB x.aY.aR y.aY.aR&&(eqB x.aY.aX y.aY.aX&&(eqB x.aY.aa y.aY.aa&&(eqB x.aY.aO y.aY.aO&&(eqB x.aY.bN y.aY.bN&&(eqB x.aY.bR.eQ y.aY.bR.eQ&&(eqB x.aY.bR.gx y.aY.bR.gx&&(eqB x.aY.bR.gV y.aY.bR.gV&&(eqB x.aY.bR.uW y.aY.bR.uW&&(eqB x.aY.bR.eY y.aY.bR.eY&&(eqB x.aY.gV y.aY.gV&&true)))))))))))=OC x.aY y.aY from rfl]
 cases eqB x.aN y.aN<;>cases booB x.eh y.eh<;>cases booB x.cq y.cq<;>cases eqB x.aX y.aX<;>cases OC x.aY y.aY<;>rfl
def hUp (s:ag) (m:aA):Bool:=
 bif eqB m.aR 3 then leB m.aa s.bv.cT&&(!eqB m.aa s.bF||!eqB m.bN s.aF.uW) else
 bif eqB m.aR 5||eqB m.aR 8 then ltB m.aa s.aa||(eqB m.aa s.aa&&!tY s.aK m) else true
def CU (d:az) (m:aA):Bool:=
 bif eqB m.aR 2 then eqB (jk d.dw.eY d.dw.dD m.bR) 1||eqB (jk d.dw.eY d.dw.dD m.bR) 2 else
 bif eqB m.aR 4||eqB m.aR 6 then ltB m.aa d.aa||(eqB m.aa d.aa&&!tY d.aK m) else true
def Gl (d:az) (x:ao):Bool:=ltB x.aa d.aa||(eqB x.aa d.aa&&!nN d.aK x)
def Nk (n:ab) (f:bD):Bool:=match n.am[f.aN.toNat]?,n.ai[f.aN.toNat]? with
 |some d,some s=>bif f.cq then f.eh||Gl d f.bC else bif f.eh then hUp s f.aY else CU d f.aY
 |_,_=>true
def oh (n:ab) (e:df):Bool:=!eqB e.aR 13||(!vb n e.bk||(n.ay.any (fun f=>decide (f=e.bk))||Nk n e.bk))
theorem hUp_s (s:ag) (m:aA):lp s m=some (hUp s m):=by
 simp only[lp,Fm,Vm,hUp]
 cases eqB m.aR 3<;>cases eqB m.aR 5<;>cases eqB m.aR 8<;>cases leB m.aa s.bv.cT<;>cases eqB m.aa s.bF<;>cases ltB m.aa s.aa<;>cases eqB m.aa s.aa<;>rfl
theorem PZ {d:az} (m:aA):jg d m=some (CU d m):=by
 simp only[jg,Fm,KL,Vm,CU]
 cases eqB m.aR 2<;>cases eqB m.aR 4<;>cases eqB m.aR 6<;>cases eqB (jk d.dw.eY d.dw.dD m.bR) 1<;>cases ltB m.aa d.aa<;>cases eqB m.aa d.aa<;>rfl
theorem Sv {B:Int} {n:ab} (h:NP B n) (f:bD):gU n f=some (vb n f):=by
 have hm6:=kB h.map
 have hl:=h.ld
 simp only[gU,vb,eC,bG (n:=((n.dZ.aZ.length:Nat):Int)-1) (by omega),bG (n:=((n.am.length:Nat):Int)-1) (by omega),Vm]
 rw[show inR f.aX 0 (((n.dZ.aZ.length:Nat):Int)-1)=eL n.dZ f.aX from rfl]
 cases ltB ((n.ay.length:Nat):Int) 200<;>cases inR f.aN 0 (((n.am.length:Nat):Int)-1)<;>rfl
theorem P7 {B:Int} {n:ab} (h:NP B n) {e:df} (he:EP e):o9 n e=some (oh n e):=by
 have hfl:=h.fl
 simp only[o9,Lz h.okN,h.vn,Sv h,Vm,oh]
 cases eqB e.aR 13
 ·rfl
 cases hp:vb n e.bk
 ·rfl
 simp only[UY,cond_false,Vm,U1]
 simp only[vb,hV,bu] at hp
 obtain⟨d,s,a,e1,e2,e3,hm⟩:=h.at_ (show e.bk.aN.toNat<n.am.length by omega)
 have hdev:=D6 e.bk.aN hp.2.1.1
 have i1:ix n.am e.bk.aN=some d:=by rw[hdev,a8];exact e1
 have i2:ix n.ai e.bk.aN=some s:=by rw[hdev,a8];exact e2
 have:=lv (L:=kJ n e) n.ay (fun _ f=>!decide (f=e.bk)) true (some (Nk n e.bk)) (by omega) (fun k x hx hk=>by
  have hx':=h.fs x (Tn hx)
  simp only[kJ,cN hk,a8,hx,SE hx'.b he.r,cd (show k<9223372036854775807 by omega),Vm,cond_true,dn]
  cases decide (x=e.bk)<;>rfl) (by
  simp only[kJ,bE,cond_false,i1,i2,hUp_s,PZ,mO he.r,Vm,Nk,e1,e2,Gl]
  cases e.bk.cq<;>cases e.bk.eh<;>cases ltB e.bk.bC.aa d.aa<;>cases eqB e.bk.bC.aa d.aa<;>rfl)
 rw[this,sI]
 rw[show n.ay.all (fun f=>!decide (f=e.bk))=!n.ay.any (fun f=>decide (f=e.bk)) by rw[←List.not_any_eq_all_not]]
 cases n.ay.any (fun f=>decide (f=e.bk))<;>rfl
end Go.AM
namespace Go.AM
open Go.Proofs
attribute [local simp] bE be a8
theorem Th {c:aE} (h:cz c):Wp (xr c) (fun r=>cz r.2∧r.1.bJ.length≤4∧pS r.1=true):=by
 unfold xr
 refine Wp.call (c9 h (by omega)) fun r1 h1=>Wp.call (c9 h1.1 (by omega)) fun r2 h2=>Wp.call (c9 h2.1 (by omega)) fun r3 h3=>?_
 refine Wp.call (P:=fun x=>cz x.2∧x.1.length≤4∧(∀a∈x.1,0≤a∧a≤3)∧x.1.Pairwise fun a b=>a<b) ?_ ?_
 ·refine Wp.iterF (fun x=>(0≤x.1∧x.1≤4)∧cz x.2.2∧(x.2.1.length:Int)≤x.1∧(∀a∈x.2.1,0≤a∧a<x.1)∧x.2.1.Pairwise fun a b=>a<b) (fun x=>(4-x.1).toNat) ⟨⟨by omega,by omega⟩,h3.1,by simp,by simp,by simp⟩ (by simp) ?_
  rintro⟨v4,v8,v9⟩ ⟨⟨i0,i1⟩,i2,i3,i4,i5⟩
  simp only at i0 i1 i2 i3 i4 i5
  simp only[y3]
  refine Wp.cond (fun hb=>?_) (fun hb=>Wp.some ⟨i2,by show v8.length≤4;omega,fun a ha=>by have:=i4 a ha;omega,i5⟩)
  have hb:=im hb
  refine Wp.call (sv i2 (by omega)) fun r15 h15=>?_
  refine Wp.call (P:=fun x=>(x.length:Int)≤v4+1∧(∀a∈x,0≤a∧a<v4+1)∧x.Pairwise fun a b=>a<b) ?_ fun x hx=>Wp.some ⟨⟨⟨?_,?_⟩,h15,?_,?_,hx.2.2⟩,?_⟩
  ·refine Wp.cond (fun _=>Wp.ok (eG (by simp;omega) (by simp;omega)) (Wp.some ⟨by simp;omega,fun a ha=>?_,?_⟩)) (fun _=>Wp.some ⟨by omega,fun a ha=>by have:=i4 a ha;omega,i5⟩)
   ·rcases TW.1 ha with ha|ha
    ·have:=i4 a ha;omega
    ·simp at ha;omega
   ·refine List.pairwise_append.2 ⟨i5,by simp,fun x hx y hy=>?_⟩
    simp at hy;have:=i4 x hx;omega
  all_goals simp only[bG (show-9223372036854775808≤v4+1∧v4+1≤9223372036854775807 by omega)]
  ·omega
  ·omega
  ·exact hx.1
  ·exact hx.2.1
  ·omega
 ·rintro⟨x,c2⟩ ⟨k1,k2,k3,k4⟩
  simp only at k1 k2 k3 k4
  refine Wp.some ⟨k1,k2,?_⟩
  simp only[pS,A2,hV,bu,eK]
  rw[bG (show-9223372036854775808≤1+r1.1∧1+r1.1≤9223372036854775807 by omega),bG (show-9223372036854775808≤1+r2.1∧1+r2.1≤9223372036854775807 by omega),bG (show-9223372036854775808≤1+r3.1∧1+r3.1≤9223372036854775807 by omega)]
  refine⟨⟨by omega,by omega,by omega⟩,fun k a ha=>⟨k3 a (Tn ha),zK (key:=id) (by simpa using k4) ha⟩⟩
theorem Pa {c:aE} (h:cz c):Wp (jQ c) (fun r=>cz r.2∧(1≤r.1.length∧r.1.length≤3)∧pQ r.1=true∧∀y∈r.1,y.cT≤20):=by
 unfold jQ
 refine Wp.call (c9 h (by omega)) fun r1 h1=>?_
 have hw:WR (1+r1.1)=1+r1.1:=bG (by omega)
 refine Wp.call (P:=fun x=>cz x.2∧(x.1.length:Int)=1+r1.1∧∀(k:Nat) y,x.1[k]?=some y→rP y=true∧y.ID.bN=1+r1.1-k∧y.cT≤20) ?_ ?_
 ·refine Wp.iterF (fun x=>0≤x.1∧cz x.2.2∧(x.2.1.length:Int)+x.1=1+r1.1∧∀(k:Nat) y,x.2.1[k]?=some y→rP y=true∧y.ID.bN=1+r1.1-k∧y.cT≤20) (fun x=>x.1.toNat) ⟨by rw[hw];omega,h1.1,by rw[hw];simp,by simp⟩ (by simp only;rw[hw];omega) ?_
  rintro⟨v2,v6,v7⟩ ⟨i0,i2,i3,i4⟩
  simp only at i0 i2 i3 i4
  simp only[oR]
  refine Wp.cond (fun hb=>?_) (fun hb=>Wp.some ⟨i2,by have:=nn hb;show(v6.length:Int)=_;omega,i4⟩)
  have hb:=im hb
  have hkey:Wp (vY v7) (fun r=>cz r.2∧oU r.1=true):=by
   unfold vY
   exact Wp.call (c9 i2 (by omega)) fun r1 h1=>Wp.some ⟨h1.1,bu.2 (by rw[bG (by omega)];omega)⟩
  refine Wp.call hkey fun r13 h13=>Wp.call (c9 h13.1 (by omega)) fun r14 h14=>Wp.ok (eG (by simp;omega) (by simp;omega)) (Wp.some ⟨⟨?_,h14.1,?_,fun k y hy=>?_⟩,?_⟩)
  rotate_left 2
  ·rw[List.getElem?_append] at hy
   split at hy
   ·exact i4 k y hy
   ·rename_i hk
    have hk0:k-v6.length=0:=by
     have:=(Tm.1 hy).1
     simp at this;omega
    rw[hk0] at hy
    simp at hy;subst hy
    simp only[rP,I6,hV,bu]
    exact⟨⟨⟨by omega,by omega⟩,h13.2,by omega⟩,by omega,by omega⟩
  all_goals simp only[bG (show-9223372036854775808≤v2-1∧v2-1≤9223372036854775807 by omega)]
  ·omega
  ·omega
  ·simp;omega
 ·rintro⟨x,c2⟩ ⟨k1,k2,k3⟩
  simp only at k1 k2 k3
  refine Wp.some ⟨k1,by show 1≤x.length∧x.length≤3;omega,?_,fun y hy=>by obtain⟨k,hk⟩:=T0 hy;exact(k3 k y hk).2.2⟩
  simp only[pQ,hV,eK,yN]
  refine⟨fun k y hy=>⟨(k3 k y hy).1,fun i z hz=>?_⟩,leB_t.2 (by omega)⟩
  obtain⟨hz1,hz2⟩:=HD hz
  have e1:=(k3 k y hy).2.1
  have e2:=(k3 i z hz1).2.1
  have:eqB z.ID.bN y.ID.bN=false:=eqB_f.2 (by omega)
  simp[vQ,this]
inductive Reach:Nat→ab→Prop
 |new {m:aM} {rs:List aC} {p:bB} {b:Int} (h:nM m=true∧pS p=true∧pQ rs=true) (hm:fP m) (hp:ew p) (hl:1≤rs.length∧rs.length≤3) (hq:∀y∈rs,y.cT≤20):Reach 0 (fr m rs p b rs.length)
 |step {k:Nat} {n:ab} {e:df}:Reach k n→EP e→oh n e=true→Reach (k+1) (jo n e).2
def FS (n:ab) (e:df):Prop:=e.aR=13→e.bk.cq=true→e.bk.eh=false∧∃d,n.am[e.bk.aN.toNat]?=some d∧e.bk.bC.aa=d.aa∧nN d.aK e.bk.bC=false
theorem AA (n:ab) {e:df} (h:e.aR≠13):FS n e:=fun h1=>absurd h1 h
inductive xJ:Nat→ab→Prop
 |new {m:aM} {rs:List aC} {p:bB} {b:Int} (h:nM m=true∧pS p=true∧pQ rs=true) (hm:fP m) (hp:ew p) (hl:1≤rs.length∧rs.length≤3) (hq:∀y∈rs,y.cT≤20):xJ 0 (fr m rs p b rs.length)
 |step {k:Nat} {n:ab} {e:df}:xJ k n→EP e→oh n e=true→FS n e→xJ (k+1) (jo n e).2
theorem xJ.re:∀{k:Nat} {n:ab},xJ k n→Reach k n
 |_,_,.new h hm hp hl hq=>.new h hm hp hl hq
 |_,_,.step h he hh _=>.step h.re he hh
theorem Reach.np:∀{k:Nat} {n:ab},Reach k n→k≤1000000→NP (10000*(k:Int)) n
 |_,_,.new (m:=m) (rs:=rs) (p:=p) (b:=b) h hm hp hl _,_=>by
  have ok:iF (fr m rs p b rs.length):=okN hm hp (by omega)
  have v:=Sg (b:=b) h
  have by':BY (fr m rs p b rs.length):=by
   refine⟨fun d hd=>?_,fun d hd=>?_,fun s hs=>?_,fun s hs=>?_,by simp[fr]⟩
   ·simp only[fr,Ur] at hd;obtain⟨j,_,rfl⟩:=hd;simp[pY]
   ·simp only[fr,Ur] at hd;obtain⟨j,_,rfl⟩:=hd;simp[pY]
   ·simp only[fr,Ur] at hs;obtain⟨j,_,rfl⟩:=hs;simp[jH]
   ·simp only[fr,Ur] at hs;obtain⟨j,_,rfl⟩:=hs;simp[jH]
  exact(NP.of ok v by').mono (by show(0:Int)≤_;omega)
 |_,_,.step (k:=k) h he _,hk=>by
  have:=(z6 (h.np (by omega)) he (by omega)).2.2
  exact this.mono (by omega)
theorem Aw {k i c:Int} {b:List Int} (hb:okB b):EP ⟨k,i,c,b,mG⟩:=⟨hb,Fu,fun x hx=>by simp[mG,ee,jj] at hx⟩
theorem sY (n:ab) {e:df} (h:e.aR≠13):oh n e=true:=by
 rw[oh,eqB_f.2 h];rfl
theorem Qt {B:Int} {n:ab} (h:NP B n) {i:Nat} {s:ag} (hs:n.ai[i]?=some s) (b:List Int):(jo n ⟨8,i,0,b,mG⟩).2={n with ai:=n.ai.set i (p8 s b).1}:=by
 have hi:=(Tm.1 hs).1
 have hls:=h.ls
 obtain⟨d,s',a,e1,e2,e3,hm⟩:=h.at_ (show i<n.am.length by omega)
 have hr:inR (i:Int) 0 (((n.am.length:Nat):Int)-1)=true:=bu.2 (by omega)
 simp only[jo]
 rw[if_neg (show ¬(8:Int)=1 by omega),if_neg (show ¬((8:Int)=2∨(8:Int)=3∨(8:Int)=4) by omega),if_pos (show(8:Int)=5∨(8:Int)=6∨(8:Int)=7∨True by simp)]
 simp only[AU,hr,Vn,e1,hs,GV,GW,GX,UY,cond_false]
 cases hb:(p8 s b).2
 ·have hs':(p8 s b).1=s:=by
   revert hb;rw[p8];cases leB 24 ((s.ax.length:Nat):Int)||ltB 60 ((b.length:Nat):Int)
   ·intro hb;cases hb
   ·intro _;rfl
  simp only[cond_false,hs',dP hs]
 ·rfl
theorem Sr {B:Int} {n:ab} (h:NP B n) {i:Nat} {d:az} (hd:n.am[i]?=some d):(jo n ⟨5,i,0,[],mG⟩).2=fQ n i (dOn d):=by
 have hi:=(Tm.1 hd).1
 obtain⟨d',s,a,e1,e2,e3,hm⟩:=h.at_ hi
 have hr:inR (i:Int) 0 (((n.am.length:Nat):Int)-1)=true:=bu.2 (by omega)
 simp only[jo]
 rw[if_neg (show ¬(5:Int)=1 by omega),if_neg (show ¬((5:Int)=2∨(5:Int)=3∨(5:Int)=4) by omega),if_pos (show True∨(5:Int)=6∨(5:Int)=7∨(5:Int)=8 by simp)]
 simp only[AU,hr,Vn,hd,e2,be,UY,cond_false,cond_true]
 cases hb:eqB d.bi 0
 ·simp only[VN,cond_true,fQ,dOn,hb,cond_false,dP hd,UN];rfl
 ·rfl
end Go.AM
namespace Go.AM
open Go.Proofs
attribute [local simp] bE be a8
def RN (B:Nat) (l:Nat) (n:ab):Prop:=∃k,xJ k n∧k≤B∧n.am.length=l
theorem RN.np {B l:Nat} {n:ab} (h:RN B l n) (hB:B≤1000000):∃b:Int,NP b n∧b≤10000000000:=by
 obtain⟨k,h1,h2,_⟩:=h
 exact⟨_,h1.re.np (by omega),by omega⟩
theorem RN.sub {B l:Nat} {n:ab} (h:RN B l n) (hB:B≤1000000) {i:Nat} {s:ag} (hs:n.ai[i]?=some s) {b:List Int} (hb:okB b):RN (B+1) l {n with ai:=n.ai.set i (p8 s b).1}:=by
 obtain⟨b',hn,_⟩:=h.np hB
 obtain⟨k,h1,h2,h3⟩:=h
 have:=xJ.step h1 (Aw (k:=8) (i:=(i:Int)) (c:=0) hb) (sY n (by simp)) (AA n (by simp))
 rw[Qt hn hs b] at this
 exact⟨_,this,by omega,h3⟩
theorem RN.on {B l:Nat} {n:ab} (h:RN B l n) (hB:B≤1000000) {i:Nat} {d:az} (hd:n.am[i]?=some d):RN (B+1) l (fQ n i (dOn d)):=by
 obtain⟨b',hn,_⟩:=h.np hB
 obtain⟨k,h1,h2,h3⟩:=h
 have:=xJ.step h1 (Aw (k:=5) (i:=(i:Int)) (c:=0) (b:=[]) (fun x hx=>by simp at hx)) (sY n (by simp)) (AA n (by simp))
 rw[Sr hn hd] at this
 exact⟨_,this,by omega,by rw[(lI n i (dOn d)).1];exact h3⟩
def RZ (B:Nat) (l:Nat) (n:ab):Prop:=∃k,xJ k n∧k≤B∧n.am.length=l∧n.dt=0
theorem RZ.rn {B l:Nat} {n:ab} (h:RZ B l n):RN B l n:=by
 obtain⟨k,h1,h2,h3,_⟩:=h;exact⟨k,h1,h2,h3⟩
theorem RZ.np {B l:Nat} {n:ab} (h:RZ B l n) (hB:B≤1000000):∃b:Int,NP b n∧b≤10000000000:=h.rn.np hB
theorem RZ.sub {B l:Nat} {n:ab} (h:RZ B l n) (hB:B≤1000000) {i:Nat} {s:ag} (hs:n.ai[i]?=some s) {b:List Int} (hb:okB b):RZ (B+1) l {n with ai:=n.ai.set i (p8 s b).1}:=by
 obtain⟨k,h1,h2,h3⟩:=h.rn.sub hB hs hb
 exact⟨k,h1,h2,h3,h.choose_spec.2.2.2⟩
theorem RZ.on {B l:Nat} {n:ab} (h:RZ B l n) (hB:B≤1000000) {i:Nat} {d:az} (hd:n.am[i]?=some d):RZ (B+1) l (fQ n i (dOn d)):=by
 obtain⟨k,h1,h2,h3⟩:=h.rn.on hB hd
 exact⟨k,h1,h2,h3,(gS ((dOn d).dJ.map (ia i true)) {n with am:=n.am.set i (dOn d).aN}).2.2.2.2.1.trans h.choose_spec.2.2.2⟩
theorem QY {c:aE} (h:cz c):Wp (xz c) (fun r=>cz r.2∧∃l,(1≤l∧l≤3)∧RZ 40 l r.1):=by
 unfold xz
 refine Wp.call (Th h) fun r1 h1=>?_
 have hp:ew r1.1:=⟨by have:=h1.2.1;omega,fun _ _=>trivial⟩
 refine Wp.call (P:=fun x=>cz x.2.2.2.2.2.2.2.1∧∃l,(1≤l∧l≤3)∧RZ 0 l ⟨⟨x.2.2.2.2.2.2.1⟩,x.2.2.2.2.2.1,x.2.2.2.2.1,x.2.2.2.1,[],x.1,x.2.2.2.2.2.2.2.2,x.2.1,x.2.2.1⟩) ?_ ?_
 ·refine Wp.call (O9 h1.1) fun r16 h16=>Wp.call (Pa h16.1) fun r17 h17=>Wp.call (c9 h17.1 (by omega)) fun r18 h18=>?_
  have hv:nM r16.1=true∧pS r1.1=true∧pQ r17.1=true:=⟨h16.2.2,h1.2.2,h17.2.2.1⟩
  have hl:=h17.2.1
  rw[new_s h16.2.1 (by omega) hp,hv.1,hv.2.1,hv.2.2]
  refine Wp.some ⟨h18.1,r17.1.length,hl,0,?_,Nat.le_refl _,by simp[fr]⟩
  exact xJ.new (b:=WR (30+r18.1)) hv h16.2.1 hp hl h17.2.2.2
 rintro⟨v5,v8,v9,v10,v11,v12,v13,v14,v15⟩ ⟨hc,l,hl,hr⟩
 simp only at hc hr
 refine Wp.call (P:=fun x=>cz x.1∧RZ 40 l x.2) ?_ fun x hx=>Wp.some ⟨hx.1,l,hl,hx.2⟩
 refine Wp.iterF (fun x=>(0≤x.1∧x.1≤(l:Int))∧cz x.2.1∧RZ (7*x.1.toNat) l x.2.2) (fun x=>((l:Int)-x.1).toNat) ⟨⟨by simp only;omega,by simp only;omega⟩,hc,hr⟩ (by simp only;omega) ?_
 rintro⟨v20,v34,n⟩ ⟨⟨i0,i1⟩,i2,i3⟩
 simp only at i0 i1 i2 i3
 obtain⟨b,hn,hb⟩:=i3.np (by omega)
 have hdl:n.am.length=l:=i3.choose_spec.2.2.1
 simp only[BI]
 refine Wp.cond (fun hb=>?_) (fun hb=>Wp.some ⟨i2,?_⟩)
 rotate_left
 ·obtain⟨k,g1,g2,g3⟩:=i3;exact⟨k,g1,by omega,g3⟩
 have hb:=im hb
 obtain⟨q,rfl⟩:∃q:Nat,v20=q:=⟨v20.toNat,by omega⟩
 refine Wp.call (c9 i2 (by omega)) fun r117 h117=>?_
 refine Wp.call (P:=fun x=>cz x.2∧RZ (7*q+6) l {n with ai:=x.1}) ?_ ?_
 ·refine Wp.iterF (fun x=>(0≤x.1∧x.1≤6)∧cz x.2.2∧RZ (7*q+(6-x.1.toNat)) l {n with ai:=x.2.1}) (fun x=>x.1.toNat) ⟨⟨by simp only;omega,by simp only;omega⟩,h117.1,?_⟩ (by simp only;omega) ?_
  ·obtain⟨k,g1,g2,g3⟩:=i3;exact⟨k,g1,by simp only[Vn] at g2;omega,g3⟩
  rintro⟨v118,v122,v123⟩ ⟨⟨j0,j1⟩,j2,j3⟩
  simp only at j0 j1 j2 j3
  simp only[BJ]
  refine Wp.cond (fun hc=>?_) (fun hc=>Wp.some ⟨j2,?_⟩)
  rotate_left
  ·obtain⟨k,g1,g2,g3⟩:=j3;exact⟨k,g1,by omega,g3⟩
  have hc:=im hc
  obtain⟨b',hn',_⟩:=j3.np (by omega)
  have hls:=hn'.ls
  simp only at hls
  obtain⟨s,hs⟩:∃s,v122[q]?=some s:=⟨_,v0 (by omega)⟩
  obtain⟨d',s',a',e1,e2,e3,hm⟩:=hn'.at_ (i:=q) (by simp only;omega)
  simp only at e1 e2 e3
  rw[hs] at e2;cases e2
  simp only[a8,hs,Vm]
  refine Wp.call (c9 j2 (by omega)) fun r135 h135=>Wp.call (Pb h135.1 h135.2.1 (by omega)) fun r136 h136=>?_
  rw[Ro hm.sg.sp.ok]
  simp only[Vm,Vn]
  refine Wp.some ⟨⟨⟨?_,?_⟩,h136.1,?_⟩,?_⟩
  all_goals simp only[bG (show-9223372036854775808≤v118-1∧v118-1≤9223372036854775807 by omega)]
  ·omega
  ·omega
  ·have:=j3.sub (by omega) (i:=q) hs h136.2.1
   obtain⟨k,g1,g2,g3⟩:=this
   exact⟨k,g1,by omega,g3⟩
  ·omega
 rintro⟨v132,v133⟩ ⟨k1,k2⟩
 simp only at k1 k2
 obtain⟨b',hn',_⟩:=k2.np (by omega)
 obtain⟨d,hd⟩:∃d,n.am[q]?=some d:=⟨_,v0 (by omega)⟩
 obtain⟨d',s',a',e1,e2,e3,hm⟩:=hn'.at_ (i:=q) (by simp only;omega)
 simp only at e1
 rw[hd] at e1;cases e1
 refine Wp.call (sv k1 (by omega)) fun r139 h139=>?_
 refine Wp.call (P:=fun x=>RZ (7*q+7) l x) ?_ fun x hx=>Wp.some ⟨⟨⟨?_,?_⟩,h139,?_⟩,?_⟩
 ·refine Wp.cond (fun _=>?_) (fun _=>Wp.some ?_)
  ·simp only[a8,hd,on_s hm.dp.ok,Vm,Vn]
   have hlen:=(H3 d).len
   have:=eD (step:=oP (q:Int) (dOn d)) (dOn d).dJ (fun k n=>((k:Int),n)) (fun n x=>Vj (eT n (ia (q:Int) true x)) fun r=>some (.next r)) some (by omega)
    (fun k x n hx hk=>by
     simp only[oP,cN hk,a8,hx,Vm,cond_true,cd (show k<9223372036854775807 by omega),ia]
     cases eT n ⟨(q:Int),true,false,x.aX,x,ee⟩<;>rfl) (fun n=>by simp[oP]) {n with am:=n.am.set q (dOn d).aN,ai:=v132}
   rw[xV eT (ia (q:Int) true) (fun n x=>wR (Fa (q:Int) true x))] at this
   rw[show iter (oP (q:Int) (dOn d)) FU (0,{n with am:=n.am.set q (dOn d).aN,ai:=v132})=_ from this]
   exact Wp.some (k2.on (by omega) (i:=q) hd)
  ·obtain⟨k,g1,g2,g3⟩:=k2;exact⟨k,g1,by omega,g3⟩
 all_goals simp only[bG (show-9223372036854775808≤(q:Int)+1∧(q:Int)+1≤9223372036854775807 by omega)]
 ·omega
 ·omega
 ·obtain⟨k,g1,g2,g3⟩:=hx;exact⟨k,g1,by omega,g3⟩
 ·omega
theorem Tb {c:aE} (h:cz c):Wp (xz c) (fun r=>cz r.2∧∃l,(1≤l∧l≤3)∧RN 40 l r.1):=
 Wp.mono (QY h) fun r ⟨h1,l,h2,h3⟩=>⟨h1,l,h2,h3.rn⟩
end Go.AM
namespace Go.AM
open Go.Proofs
attribute [local simp] bE be a8
abbrev C2 {α:Type} (r:α×aE):Prop:=cz r.2
abbrev C1 {α:Type} (r:aE×α):Prop:=cz r.1
theorem I8 {c:aE} (h:cz c):Wp (uz c) C2:=by
 unfold uz
 refine Wp.call (sv h (by omega)) fun r1 h1=>Wp.cond (fun _=>Wp.call (QZ h1 (by simp)) fun r2 h2=>Wp.some h2.1) (fun _=>?_)
 refine Wp.call (sv h1 (by omega)) fun r3 h3=>Wp.cond (fun _=>Wp.call (QZ h3 (by simp)) fun r2 h2=>Wp.some h2.1) (fun _=>?_)
 exact Wp.call (c9 h3 (by omega)) fun r5 h5=>Wp.call (c9 h5.1 (by omega)) fun r6 h6=>Wp.some h6.1
theorem w5Seq {c:aE} (h:cz c):Wp (Fh c) C2:=by
 unfold Fh
 refine Wp.call (sv h (by omega)) fun r1 h1=>Wp.cond (fun _=>Wp.call (QZ h1 (by simp)) fun r2 h2=>Wp.some h2.1) (fun _=>?_)
 exact Wp.call (c9 h1 (by omega)) fun r5 h5=>Wp.some h5.1
theorem w5Vec {c:aE} (h:cz c):Wp (uA c) C2:=by
 unfold uA
 refine Wp.call (wKey h) fun r1 h1=>Wp.call (c9 h1 (by omega)) fun r2 h2=>Wp.call (w5Seq h2.1) fun r3 h3=>?_
 rw[KN]
 simp only[Vm]
 refine Wp.call (c9 h3 (by omega)) fun r5 h5=>?_
 refine Wp.call (P:=C1) ?_ fun x hx=>Wp.some hx
 refine Wp.cond (fun _=>Wp.call (I8 h5.1) fun r h=>Wp.some h) (fun _=>?_)
 refine Wp.call (P:=C1) ?_ fun x hx=>Wp.some hx
 refine Wp.cond (fun _=>Wp.call (QZ h5.1 (by simp)) fun r h=>Wp.some h.1) (fun _=>?_)
 refine Wp.call (P:=fun _=>True) (Wp.cond (fun _=>Wp.some trivial) (fun _=>Wp.some trivial)) fun x _=>Wp.some h5.1
theorem w30 {c:aE} (h:cz c) (s:ag):Wp (rH c s) C2:=by
 unfold rH
 refine Wp.call (c9 h (by omega)) fun r1 h1=>Wp.call (c9 h1.1 (by omega)) fun r2 h2=>Wp.call (c9 h2.1 (by omega)) fun r3 h3=>Wp.call (c9 h3.1 (by omega)) fun r4 h4=>?_
 refine Wp.call (P:=C1) ?_ fun x hx=>?_
 ·refine Wp.cond (fun _=>Wp.some h4.1) (fun _=>?_)
  refine Wp.call (P:=C2) ?_ fun x hx=>Wp.some hx
  refine Wp.cond (fun _=>?_) (fun _=>Wp.some h4.1)
  refine Wp.call (c9 h4.1 (by omega)) fun r17 h17=>Wp.call (c9 h17.1 (by omega)) fun r18 h18=>?_
  rw[J2];exact Wp.some h18.1
 ·obtain⟨v10,v11⟩:=x
  simp only[yw,Vm]
  replace hx:cz _:=hx
  refine Wp.call (c9 hx (by omega)) fun r21 h21=>?_
  refine Wp.call (P:=C1) ?_ fun x hx=>Wp.some hx
  refine Wp.cond (fun _=>Wp.call (I8 h21.1) fun r h=>Wp.some h) (fun _=>?_)
  refine Wp.call (P:=fun _=>True) ?_ fun x _=>Wp.some h21.1
  refine Wp.cond (fun _=>Wp.some trivial) (fun _=>?_)
  exact Wp.call (P:=fun _=>True) (Wp.cond (fun _=>Wp.some trivial) (fun _=>Wp.some trivial)) fun x _=>Wp.some trivial
theorem w29 {c:aE} (h:cz c) (d:az):Wp (zP c d) C2:=by
 unfold zP
 refine Wp.call (c9 h (by omega)) fun r1 h1=>?_
 refine Wp.call (P:=C1) ?_ fun x hx=>?_
 ·refine Wp.cond (fun _=>?_) (fun _=>?_)
  ·rw[MA]
   simp only[Vm]
   rw[KN]
   simp only[Vm]
   refine Wp.call (sv h1.1 (by omega)) fun r20 h20=>?_
   refine Wp.call (P:=C1) ?_ fun x hx=>Wp.some hx
   exact Wp.cond (fun _=>Wp.call (w5Vec h20) fun r h=>Wp.some h) (fun _=>Wp.some h20)
  ·refine Wp.call (P:=C2) ?_ fun x hx=>Wp.some hx
   exact Wp.cond (fun _=>Wp.call (c9 h1.1 (by omega)) fun r h=>Wp.some h.1) (fun _=>Wp.some h1.1)
 ·obtain⟨v16,v17⟩:=x
  simp only[yw,Vm]
  replace hx:cz _:=hx
  refine Wp.call (c9 hx (by omega)) fun r39 h39=>?_
  refine Wp.call (P:=C1) ?_ fun x hx=>Wp.some hx
  refine Wp.cond (fun _=>Wp.call (I8 h39.1) fun r h=>Wp.some h) (fun _=>?_)
  refine Wp.call (P:=C1) ?_ fun x hx=>Wp.some hx
  refine Wp.cond (fun _=>Wp.call (c9 h39.1 (by omega)) fun r h=>Wp.some h.1) (fun _=>?_)
  exact Wp.call (P:=fun _=>True) (Wp.cond (fun _=>Wp.some trivial) (fun _=>Wp.some trivial)) fun x _=>Wp.some h39.1
theorem Sx {y:ao} (h:uV y) (i c:Int) (k:Int):kn ⟨i,false,true,c,dO,{y with aT:={y.aT with gV:=k}}⟩∧okB y.aT.aQ:=⟨⟨Nat.le_trans h.2 (by decide),fun _ _=>trivial⟩,h.1⟩
abbrev FR (f:bD):Prop:=kn f∧okB f.bC.aT.aQ
abbrev FP2 (d:az) (i:Int) (x:aE×bD):Prop:=cz x.1∧FR x.2∧(x.2.aN=i)∧((x.2.cq=true∧x.2.eh=false∧Gl d x.2.bC=true∧x.2.bC.aa=d.aa∧nN d.aK x.2.bC=false)∨x.2.cq=false)
theorem Qy {d:az} {y:ao} {k i cell:Int} {c:aE} (hc:cz c) (h:uV y) (hh:Gl d {y with aT:={y.aT with gV:=k}}=true) (hg:y.aa=d.aa) (hv:nN d.aK {y with aT:={y.aT with gV:=k}}=false):
 Wp (some (c,(⟨i,false,true,cell,dO,{y with aT:={y.aT with gV:=k}}⟩:bD))) (FP2 d i):=
 Wp.some ⟨hc,Sx h _ _ _,rfl,.inl ⟨rfl,rfl,hh,hg,hv⟩⟩
theorem DB (d:az) (x:ae):nN d.aK {gI d.aK d.aa d.aO x with aT:={(gI d.aK d.aa d.aO x).aT with gV:=Vl (WR ((gI d.aK d.aa d.aO x).aT.gV+1)) 2147483647}}=false:=by
 have hin:∀k (m:bb),0≤mac k m∧mac k m<2147483647:=fun k m=>ml _ _
 have key:∀a:Int,0≤a→a<2147483647→Vl (WR (a+1)) 2147483647≠a:=by
  intro a h0 h1 h
  rw[bG (by omega),Int.tmod_eq_emod_of_nonneg (by omega)] at h
  omega
 simp only[gI,Bt,nN]
 rw[V6];right
 rw[V6];right
 refine eqB_f.2 ?_
 simp only[mac]
 exact key _ (hin _ ⟨1,x.cT,sR (dk (G6 d.aK d.aO) (2*x.cT+1)) x.aQ,0⟩).1 (hin _ ⟨1,x.cT,sR (dk (G6 d.aK d.aO) (2*x.cT+1)) x.aQ,0⟩).2
theorem La (d:az) (x:ae):Gl d {gI d.aK d.aa d.aO x with aT:={(gI d.aK d.aa d.aO x).aT with gV:=Vl (WR ((gI d.aK d.aa d.aO x).aT.gV+1)) 2147483647}}=true:=by
 rw[Gl,DB d x]
 simp[gI,be]
theorem Te {B:Int} {n:ab} (h:NP B n) (hd:1≤n.am.length) {c:aE} (hc:cz c):Wp (ux c n) (fun r=>cz r.2∧EP r.1∧oh n r.1=true∧(r.1.bk.cq=true→r.1.bk.eh=false∧∃d,n.am[r.1.bk.aN.toNat]?=some d∧r.1.bk.bC.aa=d.aa∧nN d.aK r.1.bk.bC=false)):=by
 have hm6:=kB h.map
 have hls:=h.ls
 unfold ux
 refine Wp.call (c9 hc (by omega)) fun r1 h1=>?_
 obtain⟨i,hi⟩:∃i:Nat,r1.1=i:=⟨r1.1.toNat,by omega⟩
 obtain⟨d,s,a,e1,e2,e3,hm⟩:=h.at_ (i:=i) (by omega)
 simp only[hi,a8,e1,e2,Vm]
 refine Wp.call (c9 h1.1 (by omega)) fun r3 h3=>Wp.call (sv h3.1 (by omega)) fun r4 h4=>Wp.call (c9 h4 (by omega)) fun r5 h5=>?_
 refine Wp.call (P:=FP2 d (i:Int)) ?_ ?_
 ·refine Wp.cond (fun _=>?_) (fun _=>?_)
  ·refine Wp.call (c9 h5.1 (by omega)) fun r30 h30=>?_
   have hs:=IM (x:=⟨WR (1+r30.1),[9]⟩) (by show 0≤WR (1+r30.1);rw[bG (by omega)];omega) (by show WR (1+r30.1)≤1000000;rw[bG (by omega)];omega) (fun x hx=>by simp at hx;subst hx;simp[uQ]) (by simp) d.aK d.aa d.aO
   have hr:=vR d.aK d.aa d.aO (x:=⟨WR (1+r30.1),[9]⟩) (by simp)
   have hh:=La d ⟨WR (1+r30.1),[9]⟩
   have hv:=DB d ⟨WR (1+r30.1),[9]⟩
   have hg:(gI d.aK d.aa d.aO ⟨WR (1+r30.1),[9]⟩).aa=d.aa:=rfl
   generalize gI d.aK d.aa d.aO ⟨WR (1+r30.1),[9]⟩=y at hs hr hh hv hg
   rw[hs]
   exact Qy h30.1 hr hh hg hv
  ·refine Wp.call (P:=fun x=>cz x.2.1) ?_ fun x hx=>Wp.some ⟨hx,⟨Fu,fun x hx=>by simp[ee,jj] at hx⟩,rfl,.inr rfl⟩
   exact Wp.cond (fun _=>Wp.call (w29 h5.1 d) fun r h=>Wp.some h) (fun _=>Wp.call (w30 h5.1 s) fun r h=>Wp.some h)
 ·rintro⟨c2,f⟩ ⟨k1,k2,k3,k4⟩
  simp only at k1 k2 k3 k4
  have he:EP {dy with aR:=13,bk:=f}:=⟨fun x hx=>by simp[dy] at hx,k2.1,k2.2⟩
  rw[P7 h he]
  simp only[Vm]
  refine Wp.call (P:=fun k=>k=bif oh n {dy with aR:=13,bk:=f} then f.aY.aR else 7) ?_ ?_
  ·cases oh n {dy with aR:=13,bk:=f}<;>exact Wp.some rfl
  ·rintro k rfl
   refine Wp.some ⟨k1,⟨fun x hx=>by simp[dy] at hx,k2.1,k2.2⟩,?_,fun hr=>by
    rcases k4 with⟨q1,q2,q3,q4,q5⟩|q1
    ·exact⟨q2,d,by show n.am[f.aN.toNat]?=some d;rw[k3];exact e1,q4,q5⟩
    ·rw[show f.cq=true from hr] at q1;cases q1⟩
   cases hh:oh n {dy with aR:=13,bk:=f}
   ·simp only[cond_false,oh]
    rw[T8,T8,T8];right;right;right
    simp only[Nk,k3,Vn,e1,e2]
    rcases k4 with⟨q1,q2,q3,_,_⟩|q1
    ·rw[q1,q2,q3];rfl
    ·rw[q1]
     have z:∀k:Int,k≠7→eqB 7 k=false:=fun k hk=>eqB_f.2 (Ne.symm hk)
     cases f.eh<;>simp only[cond_true,cond_false,hUp,CU,z _ (show(2:Int)≠7 by omega),z _ (show(3:Int)≠7 by omega),z _ (show(4:Int)≠7 by omega),z _ (show(5:Int)≠7 by omega),z _ (show(6:Int)≠7 by omega),z _ (show(8:Int)≠7 by omega),Bool.or_self]
   ·simp only[cond_true]
    rw[show({f with aY:={f.aY with aR:=f.aY.aR}}:bD)=f from rfl]
    exact hh
end Go.AM
namespace Go.AM
open Go.Proofs
attribute [local simp] bE be a8
theorem AY (n:ab) (f:bD):(eO n f).am.length=n.am.length:=by rw[(kC n f).1]
theorem HG:∀(c i:Nat) (n:ab),(jK c i n).am.length=n.am.length
 |0,_,_=>rfl
 |c+1,i,n=>by
  rw[jK]
  cases n.am[i]? with
  |none=>rfl
  |some d=>simp only;rw[HG,(lI _ _ _).1]
theorem HJ:∀(c i:Nat) (n:ab),(pP c i n).am.length=n.am.length
 |0,_,_=>rfl
 |c+1,i,n=>by
  rw[pP]
  cases n.ai[i]? with
  |none=>rfl
  |some s=>cases n.bh[i]? with
   |none=>rfl
   |some a=>simp only;rw[HJ,(Da _ _ _).1]
theorem H7 (n:ab) (k:Nat):(iE n k).am.length=n.am.length:=by
 rw[iE]
 cases n.ay[k]? with
 |none=>rfl
 |some f=>
  simp only
  cases xY (iU n k) f.aX
  ·rfl
  ·simp only[UY,cond_false]
   cases f.eh
   ·simp only[cond_false]
    cases hd:(iU n k).am[f.aN.toNat]? with
    |none=>rfl
    |some d=>
     simp only
     cases eqB d.aX f.aX
     ·rfl
     ·simp only[UY,cond_false];rw[(lI _ _ _).1];rfl
   ·simp only[cond_true]
    cases f.cq||!eqB f.aY.aX f.aX
    ·simp only[cond_false]
     cases hs:(iU n k).ai[f.aN.toNat]? with
     |none=>rfl
     |some s=>simp only[yd];rw[(gS _ _).1];rfl
    ·rfl
theorem Mr (n:ab) (e:df):(jo n e).2.am.length=n.am.length:=by
 rw[jo]
 split
 ·rw[AW]
  cases leB 100000 n.oX
  ·simp only[cond_false];rw[HJ,HG]
  ·rfl
 split
 ·rw[rj]
  cases inR e.cB 0 (((n.ay.length:Nat):Int)-1)
  ·rfl
  simp only[UY,cond_false]
  cases eqB e.aR 2
  ·simp only[cond_false]
   cases eqB e.aR 3
   ·simp only[cond_false]
    cases leB 200 ((n.ay.length:Nat):Int)
    ·simp only[cond_false]
     cases n.ay[e.cB.toNat]? with
     |none=>rfl
     |some f=>exact AY n f
    ·rfl
   ·rfl
  ·exact H7 n _
 split
 ·rw[AU]
  cases inR e.cB 0 (((n.am.length:Nat):Int)-1)
  ·rfl
  simp only[UY,cond_false]
  cases n.am[e.cB.toNat]? with
  |none=>rfl
  |some d=>cases n.ai[e.cB.toNat]? with
   |none=>rfl
   |some s=>
    simp only
    cases eqB e.aR 5
    ·simp only[cond_false]
     cases eqB e.aR 6
     ·simp only[cond_false]
      cases eqB e.aR 7
      ·simp only[cond_false]
       cases(p8 s e.aQ).2<;>rfl
      ·simp only[cond_true]
       cases eqB d.bi 2
       ·rfl
       ·simp
     ·simp only[cond_true]
      cases eqB e.aX d.aX||!eL n.dZ e.aX
      ·exact(lI _ _ _).1
      ·rfl
    ·simp only[cond_true]
     cases eqB d.bi 0
     ·rfl
     ·exact(lI _ _ _).1
 split
 ·rw[AT];cases !eL n.dZ e.cB||booB (xY n e.cB) (eqB e.aR 10)<;>rfl
 split
 ·rw[lV]
  cases !inR e.cB 0 (n.dY.fM-1)||(booB (tX n.dY e.cB) (eqB e.aR 12)||eqB (lf n.dY e.cB (eqB e.aR 12)).fA 0)<;>rfl
 split
 ·rw[vE];cases vb n e.bk
  ·rfl
  ·exact AY n _
 ·rfl
abbrev NQ (n:ab) (r:df×aE):Prop:=cz r.2∧EP r.1∧oh n r.1=true∧FS n r.1
theorem wPl {n:ab} {c:aE} (h:cz c) {k i cell:Int} {b:List Int} (hb:okB b) (hk:k≠13):Wp (some ((⟨k,i,cell,b,mG⟩:df),c)) (NQ n):=
 Wp.some ⟨h,Aw hb,sY n hk,AA n hk⟩
theorem jN:okB []:=fun x hx=>by simp at hx
theorem wNo {α:Type} {b:Bool} {x y:α} {β:Type} {f:α→Option β} {Q:β→Prop} (h:∀z,Wp (f z) Q):Wp (Vj (bif b then some x else some y) f) Q:=by
 cases b<;>exact h _
theorem Rr {n:ab} {c':aE} (hc:cz c'):Wp (Vj (bif ltB 0 ((n.ay.length:Nat):Int) then(Vj (fZ c' 4) fun r21=>some (!r21.1,r21.2)) else(some (false,c'))) fun((v16,v20):Bool×aE)=>bif v16 then(Vj (Bg ((n.ay.length:Nat):Int) 3) fun r22=>Vj (bS v20 r22) fun r23=>Vj (bS r23.2 12) fun r24=>bif eqB r24.1 0 then(some ({dy with aR:=3,cB:=r23.1},r24.2)) else(bif eqB r24.1 1 then(some ({dy with aR:=4,cB:=r23.1},r24.2)) else(some ({dy with aR:=2,cB:=r23.1},r24.2)))) else(some ({dy with aR:=1},v20))) (NQ n):=by
 refine Wp.call (P:=fun x=>cz x.2∧(x.1=true→0<n.ay.length)) ?_ ?_
 ·refine Wp.cond (fun hb=>?_) (fun _=>Wp.some ⟨hc,fun h=>by simp at h⟩)
  have hb:=im hb
  exact Wp.call (sv hc (by omega)) fun r21 h21=>Wp.some ⟨h21,fun _=>by omega⟩
 ·rintro⟨v16,v20⟩ ⟨k1,k2⟩
  simp only at k1 k2
  refine Wp.cond (fun hb=>?_) (fun _=>wPl k1 jN (by omega))
  have:=k2 hb
  rw[J4]
  simp only[Vm]
  have hm:1≤oo ((n.ay.length:Nat):Int) 3:=by unfold oo;split<;>omega
  refine Wp.call (c9 k1 hm) fun r23 h23=>Wp.call (c9 h23.1 (by omega)) fun r24 h24=>?_
  exact Wp.cond (fun _=>wPl h24.1 jN (by omega)) (fun _=>Wp.cond (fun _=>wPl h24.1 jN (by omega)) (fun _=>wPl h24.1 jN (by omega)))
theorem wNext {B:Int} {n:ab} (h:NP B n) (hd:1≤n.am.length) {c:aE} (hc:cz c):Wp (xB c n) (NQ n):=by
 have hm6:=kB h.map
 have hl:=h.ld
 unfold xB
 rw[J2]
 simp only[Vm]
 have hmx:1≤Ce 1 ((n.am.length:Nat):Int):=by unfold Ce;split<;>omega
 have hw:WR (((n.dZ.aZ.length:Nat):Int)+1)=((n.dZ.aZ.length:Nat):Int)+1:=bG (by omega)
 refine Wp.call (c9 hc hmx) fun r2 h2=>Wp.call (c9 h2.1 (by omega)) fun r3 h3=>?_
 refine Wp.cond (fun _=>wPl h3.1 jN (by omega)) (fun _=>wNo fun _=>?_)
 refine Wp.cond (fun _=>Wp.call (c9 h3.1 (by omega)) fun r5 h5=>wPl h5.1 jN (by omega)) (fun _=>?_)
 refine Wp.cond (fun _=>wPl h3.1 jN (by omega)) (fun _=>wNo fun _=>?_)
 refine Wp.cond (fun _=>Wp.call (c9 h3.1 (by omega)) fun r7 h7=>Wp.call (Pb h7.1 h7.2.1 (by omega)) fun r8 h8=>wPl h8.1 h8.2.1 (by omega)) (fun _=>?_)
 refine Wp.cond (fun _=>Wp.call (c9 h3.1 (by omega)) fun r9 h9=>wPl h9.1 jN (by omega)) (fun _=>wNo fun _=>?_)
 refine Wp.cond (fun _=>Wp.call (c9 h3.1 (by omega)) fun r9 h9=>wPl h9.1 jN (by omega)) (fun _=>?_)
 refine Wp.cond (fun _=>Wp.call (c9 h3.1 (by omega)) fun r9 h9=>wPl h9.1 jN (by omega)) (fun _=>?_)
 refine Wp.cond (fun _=>Wp.call (c9 h3.1 (by omega)) fun r9 h9=>wPl h9.1 jN (by omega)) (fun _=>wNo fun _=>?_)
 refine Wp.cond (fun _=>Wp.cond (fun _=>?_) (fun _=>Rr h3.1)) (fun _=>Rr h3.1)
 refine Wp.call (Te h hd h3.1) fun r15 h15=>Wp.some ⟨h15.1,⟨jN,h15.2.1.f,h15.2.1.r⟩,?_,fun _=>h15.2.2.2⟩
 exact h15.2.2.1
theorem RN.apply {B l:Nat} {n:ab} (h:RN B l n) {e:df} (he:EP e) (hh:oh n e=true) (hf:FS n e):RN (B+1) l (jo n e).2:=by
 obtain⟨k,h1,h2,h3⟩:=h
 exact⟨k+1,h1.step he hh hf,by omega,by rw[Mr];exact h3⟩
theorem RN.mono {B B' l:Nat} {n:ab} (h:RN B l n) (hb:B≤B'):RN B' l n:=by
 obtain⟨k,h1,h2,h3⟩:=h;exact⟨k,h1,by omega,h3⟩
theorem Tc {c:aE} (h:cz c) {most:Int} (hm:1≤most∧most≤1000):Wp (zR c most) (fun r=>cz r.2.2.2∧∃l,(1≤l∧l≤3)∧RN 40 l r.1∧RN (42+most.toNat) l r.2.2.1∧(r.2.1.length≤1010∧∀e∈r.2.1,EP e)):=by
 unfold zR
 refine Wp.call (Tb h) fun r1 h1=>?_
 obtain⟨h11,l,hl,hr⟩:=h1
 obtain⟨b,hn,hb⟩:=hr.np (by omega)
 rw[Rh hn.okN]
 simp only[Vm]
 refine Wp.call (c9 h11 hm.1) fun r3 h3=>?_
 have hw:WR (3+r3.1)=3+r3.1:=bG (by omega)
 refine Wp.call (P:=fun x=>cz x.2.1∧RN (42+most.toNat) l x.2.2∧(x.1.length≤1010∧∀e∈x.1,EP e)) ?_ fun x hx=>Wp.some ⟨hx.1,l,hl,hr,hx.2.1,hx.2.2⟩
 refine Wp.iterF (fun x=>(0≤x.1∧x.1≤2+most)∧cz x.2.2.1∧RN (40+(2+most-x.1).toNat) l x.2.2.2∧((x.2.1.length:Int)≤1010-x.1∧∀e∈x.2.1,EP e)) (fun x=>x.1.toNat) ⟨⟨by rw[hw];omega,by rw[hw];omega⟩,h3.1,hr.mono (by omega),by simp only[Vp];rw[hw];omega,by simp⟩ (by simp only;rw[hw];omega) ?_
 rintro⟨v4,v8,v19,n⟩ ⟨⟨i0,i1⟩,i2,i3,i4,i5⟩
 simp only at i0 i1 i2 i3 i4 i5
 simp only[BK]
 refine Wp.cond (fun hb=>?_) (fun hb=>Wp.some ⟨i2,i3.mono (by omega),by show v8.length≤1010;omega,i5⟩)
 have hb:=im hb
 obtain⟨b',hn',hb'⟩:=i3.np (by omega)
 have hdl:n.am.length=l:=i3.choose_spec.2.2
 refine Wp.call (wNext hn' (by omega) i2) fun r51 h51=>?_
 refine Wp.ok (eG (by simp;omega) (by simp;omega)) ?_
 have ha:=z6 hn' h51.2.1 (by omega)
 rw[Rh hn'.okN]
 simp only[Vm]
 rw[ha.1]
 simp only[Vm]
 have hst:=i3.apply h51.2.1 h51.2.2.1 h51.2.2.2
 refine Wp.call (P:=fun x=>RN (40+(2+most-v4).toNat+1) l x) (Wp.cond (fun _=>Wp.some hst) (fun _=>Wp.some (i3.mono (by omega)))) fun x hx=>Wp.some ⟨⟨⟨?_,?_⟩,h51.1,?_,?_,?_⟩,?_⟩
 all_goals simp only[bG (show-9223372036854775808≤v4-1∧v4-1≤9223372036854775807 by omega)]
 ·omega
 ·omega
 ·exact hx.mono (by omega)
 ·simp;omega
 ·intro e he
  rcases TW.1 he with he|he
  ·exact i5 e he
  ·simp at he;subst he;exact h51.2.1
 ·omega
end Go.AM
namespace Go.AM
open Go.Proofs
attribute [local simp] bE be a8
def u6 (r:aC) (g:Int):Int:=(vec r.eY (FO r.ID g) g).eY
def jT (l:List b9) (k:Nat):Int:=((l.take k).map fun p=>(p.aQ.length:Int)).sum
def iC (w:a9):Int:=w.bm-1-w.aw.length
structure SI (d:az) (s:ag) (a:aj):Prop where
 cl:d.dw.dD≤s.bv.cT
 pq:s.bF≤s.bv.cT
 pg:0<s.bF→s.aa<s.bF
 pv:0<s.bF→s.aF=vec s.bv.eY (FO s.bv.ID s.bF) s.bF
 sg:s.aa≤s.bv.cT
 s1:s.bi=1→0<s.aa
 sk:0<s.aa→s.aK=u6 s.bv s.aa
 dg:d.aa≤d.dw.dD
 dk:0<d.aa→d.aK=u6 s.bv d.aa
 pr:d.bM.aS<+:s.ax
 pe:∀x∈d.bM.aF,s.ax[(x.cT-1).toNat]?=some ⟨x.aQ⟩∧x.cT<s.aq.bm
 nx:d.bM.bm≤s.aq.bm
 wn:∀x∈s.aq.aw,s.ax[(x.cT-1).toNat]?=some ⟨x.aQ⟩
 ak:iC s.aq<d.bM.bm
 ch:a.eH+s.bW.er=jT s.ax (iC s.aq).toNat
def uI (s:ag) (x:ao):Prop:=∃(k g e:Int) (b:List Int),0<g∧(1≤k∧k<s.aq.bm)∧s.ax[(k-1).toNat]?=some ⟨b⟩∧x=gI (u6 s.bv g) g e ⟨k,b⟩
def RadB (d:az) (x:ao):Prop:=x.aa<d.aa∨(x.aa=d.aa∧nN d.aK x=false)
def Pn (s:ag) (m:aA):Prop:=∃q,(1≤q∧q≤s.bv.cT)∧m.aa=q∧m.bR=vec s.bv.eY (FO s.bv.ID q) q
def Pm (d:az) (m:aA):Prop:=jk d.dw.eY d.dw.dD m.bR=1∨jk d.dw.eY d.dw.dD m.bR=2
def Rt (s:ag) (m:aA):Prop:=m.aa<s.aa∨(m.aa=s.aa∧tY s.aK m=false)
structure FI (d:az) (s:ag) (f:bD):Prop where
 up:f.eh=true→f.cq=false→f.aY.aR=8→f.aY.bN≤d.bM.bm∨Rt s f.aY
 rd:f.eh=false→f.cq=true→uI s f.bC∨RadB d f.bC
 dn:f.eh=false→f.cq=false→f.aY.aR=2→Pn s f.aY∨Pm d f.aY
structure sx (d:az) (s:ag) (d':az) (s':ag):Prop where
 ck:d'.dw.eY=d.dw.eY
 cl:d.dw.dD≤d'.dw.dD
 dg:d.aa<d'.aa∨(d'.aa=d.aa∧d'.aK=d.aK)
 rn:d.bM.bm≤d'.bM.bm
 ri:s'.bv.ID=s.bv.ID
 rk:s'.bv.eY=s.bv.eY
 rs:s.bv.cT≤s'.bv.cT
 sg:s.aa<s'.aa∨(s'.aa=s.aa∧s'.aK=s.aK)
 su:s.ax<+:s'.ax
 wn:s.aq.bm≤s'.aq.bm
theorem sx.refl (d:az) (s:ag):sx d s d s:=⟨rfl,V3 _,.inr ⟨rfl,rfl⟩,V3 _,rfl,rfl,V3 _,.inr ⟨rfl,rfl⟩,V5 _,V3 _⟩
theorem zJ {α:Type} {xs ys:List α} (h:xs<+:ys) {k:Nat} {x:α} (hx:xs[k]?=some x):ys[k]?=some x:=by
 obtain⟨zs,rfl⟩:=h
 rw[Tu (Tm.1 hx).1];exact hx
theorem AJ {r r':aC} (h1:r'.ID=r.ID) (h2:r'.eY=r.eY) (g:Int):u6 r' g=u6 r g:=by rw[u6,u6,h1,h2]
theorem I7 {k l l':Int} {v:cO} (h:l≤l') (hb:jk k l v=1∨jk k l v=2):jk k l' v=1∨jk k l' v=2:=by
 revert hb
 rw[jk,jk]
 intro hb
 split at hb
 ·rename_i h1;rw[if_pos h1];exact hb
 ·rename_i h1;rw[if_neg h1]
  split at hb
  ·rename_i h2;rw[if_pos (by omega)];exact .inr rfl
  ·split at hb<;>omega
theorem FI.mono {d d':az} {s s':ag} {f:bD} (h:FI d s f) (m:sx d s d' s'):FI d' s' f:=by
 refine⟨fun h1 h2 h3=>?_,fun h1 h2=>?_,fun h1 h2 h3=>?_⟩
 ·rcases h.up h1 h2 h3 with q|q
  ·exact .inl (V7 q m.rn)
  ·right
   rcases m.sg with g|⟨g1,g2⟩
   ·left;rcases q with q|q<;>omega
   ·rcases q with q|q
    ·left;omega
    ·right;rw[g1,g2];exact q
 ·rcases h.rd h1 h2 with⟨k,g,e,b,q1,q2,q3,q4⟩|q
  ·left;exact⟨k,g,e,b,q1,⟨q2.1,Int.lt_of_lt_of_le q2.2 m.wn⟩,zJ m.su q3,by rw[AJ m.ri m.rk];exact q4⟩
  ·right
   rcases m.dg with g|⟨g1,g2⟩
   ·left;rcases q with q|q<;>omega
   ·rcases q with q|q
    ·left;omega
    ·right;rw[g1,g2];exact q
 ·rcases h.dn h1 h2 h3 with⟨q,q1,q2,q3⟩|q
  ·left;exact⟨q,⟨q1.1,V7 q1.2 m.rs⟩,q2,by rw[m.ri,m.rk];exact q3⟩
  ·right;rw[Pm,m.ck];exact I7 m.cl q
structure PI (n:ab):Prop where
 si:∀(i:Nat) d s a,n.am[i]?=some d→n.ai[i]?=some s→n.bh[i]?=some a→SI d s a
 fi:∀f∈n.ay,∀d s,n.am[f.aN.toNat]?=some d→n.ai[f.aN.toNat]?=some s→FI d s f
theorem PI.send {n:ab} (h:PI n) {f:bD} (hf:∀d s,n.am[f.aN.toNat]?=some d→n.ai[f.aN.toNat]?=some s→FI d s f):PI (eO n f):=by
 rw[eO]
 cases leB 200 ((n.ay.length:Nat):Int)
 ·refine⟨h.si,fun g hg=>?_⟩
  rcases TW.1 hg with hg|hg
  ·exact h.fi g hg
  ·simp at hg;subst hg;exact hf
 ·exact⟨h.si,h.fi⟩
theorem PI.sends:∀(l:List bD) {n:ab},PI n→(∀f∈l,∀d s,n.am[f.aN.toNat]?=some d→n.ai[f.aN.toNat]?=some s→FI d s f)→PI (sends n l)
 |[],n,h,_=>h
 |f::l,n,h,hf=>by
  have hk:=kC n f
  exact PI.sends l (h.send (hf f (by simp))) (fun g hg=>by rw[hk.1,hk.2.1];exact hf g (by simp[hg]))
theorem PI.setM {n:ab} (h:PI n) {i:Nat} {d d':az} {s s':ag} {a':aj} (hd:n.am[i]?=some d) (hs:n.ai[i]?=some s) (hm:sx d s d' s') (hi:SI d' s' a'):
 PI {n with am:=n.am.set i d',ai:=n.ai.set i s',bh:=n.bh.set i a'}:=by
 refine⟨fun j x y z hx hy hz=>?_,fun f hf x y hx hy=>?_⟩
 ·rcases ky hx with⟨e1,e2⟩|⟨e1,e2⟩<;>rcases ky hy with⟨e3,e4⟩|⟨e3,e4⟩<;>rcases ky hz with⟨e5,e6⟩|⟨e5,e6⟩<;>first|omega|skip
  ·subst e2;subst e4;subst e6;exact hi
  ·exact h.si j x y z e2 e4 e6
 ·rcases ky hx with⟨e1,e2⟩|⟨e1,e2⟩<;>rcases ky hy with⟨e3,e4⟩|⟨e3,e4⟩<;>first|omega|skip
  ·subst e2;subst e4
   exact(h.fi f hf d s (by rw[←e1];exact hd) (by rw[←e1];exact hs)).mono hm
  ·exact h.fi f hf x y e2 e4
end Go.AM
namespace Go.AM
open Go.Proofs
attribute [local simp] bE be a8
structure wc (d:az) (s:ag) (a:aj) (r:aU):Prop where
 mo:sx d s r.aN s
 si:SI r.aN s a
 sg:∀m∈r.dJ,m.aR=8→m.bN≤r.aN.bM.bm
theorem wc.keep {d:az} {s:ag} {a:aj} (h:SI d s a) {r:aU} (h1:r.aN.dw=d.dw) (h2:r.aN.aa=d.aa) (h3:r.aN.aK=d.aK) (h4:r.aN.bM=d.bM) (h5:∀m∈r.dJ,m.aR≠8):wc d s a r:=
 ⟨⟨by rw[h1],by rw[h1];exact V3 _,.inr ⟨h2,h3⟩,by rw[h4];exact V3 _,rfl,rfl,V3 _,.inr ⟨rfl,rfl⟩,V5 _,V3 _⟩,
  {h with cl:=by rw[h1];exact h.cl,dg:=by rw[h1,h2];exact h.dg,dk:=by rw[h2,h3];exact h.dk,pr:=by rw[h4];exact h.pr,pe:=by rw[h4];exact h.pe,nx:=by rw[h4];exact h.nx,ak:=by rw[h4];exact h.ak},
  fun m hm e=>absurd e (h5 m hm)⟩
theorem wc.none {d:az} {s:ag} {a:aj} (h:SI d s a):wc d s a ⟨d,[]⟩:=.keep h rfl rfl rfl rfl (by simp)
section
variable {d:az} {s:ag} {a:aj} (h:SI d s a)
include h
theorem HW {d':az} (h1:d'.dw=d.dw) (h2:d'.aa=d.aa) (h3:d'.aK=d.aK) (h4:d'.bM=d.bM):wc d s a (vq d'):=
 .keep h h1 h2 h3 h4 (by simp[vq,wl,tK])
theorem F4:wc d s a (qh d):=by
 rw[qh]
 cases ltB 0 d.f7<;>cases eqB d.bi 1<;>cases eqB d.bi 2&&!d.dm<;>exact .keep h rfl rfl rfl rfl (by simp[ud,wl,tK])
theorem MM:wc d s a (dOn d):=by
 rw[dOn];cases eqB d.bi 0<;>exact .keep h rfl rfl rfl rfl (by simp[ud])
theorem F2 (c:Int):wc d s a (rV d c):=by
 rw[rV]
 cases eqB c d.aX||!inR c 0 5
 ·cases eqB d.bi 2&&ltB d.aO 999999
  ·exact .keep h rfl rfl rfl rfl (by simp)
  ·exact HW h rfl rfl rfl rfl
 ·exact .none h
theorem PE (hk:d.dw.eY=s.bv.eY) (hr:s.bv.cT≤999999) {m:aA} (hf:Pn s m∨Pm d m):wc d s a (FZ d m):=by
 rw[FZ]
 cases hv:eqB (jk d.dw.eY d.dw.dD m.bR) 0
 ·exact .none h
 ·have hv:=lA hv
  rcases hf with⟨q,q1,q2,q3⟩|q
  ·have hq:inR q 0 999999=true:=bu.2 (by omega)
   rw[q3,hk,L7 (by omega) (by omega)] at hv
   have hlt:d.dw.dD<q:=by
    by_cases hle:q≤d.dw.dD
    ·rw[if_pos hle] at hv;omega
    ·omega
   have hu:unm d.dw.eY m.bR.eQ m.bR.gx=q:=by
    rw[q3,hk];simp only[vec,hq,cond_true];exact KH (by omega) (by omega)
   have hrand:m.bR.eQ=FO s.bv.ID q:=by rw[q3];simp only[vec,hq,cond_true]
   have hg:=h.dg
   rw[hk,hrand] at hu
   simp only[cond_true,hu,hrand,q2,hk]
   refine⟨⟨hk.symm,by simp only;omega,.inl (by simp only;omega),V3 _,rfl,rfl,V3 _,.inr ⟨rfl,rfl⟩,V5 _,V3 _⟩,{h with cl:=q1.2,dg:=V3 _,dk:=fun _=>rfl},fun m hm=>by simp at hm;subst hm;intro e;simp at e⟩
  ·rcases q with q|q<;>omega
theorem Jw (hk:d.dw.eY=s.bv.eY) (hr:s.bv.cT≤999999) {m:aA} (hf:m.aR=2→Pn s m∨Pm d m):wc d s a (Ao d m):=by
 rw[Ao]
 cases !kD m||(!eqB m.aX d.aX||eqB d.bi 0)
 ·simp only[cond_false]
  cases h2:eqB m.aR 2&&eqB d.bi 1
  ·simp only[cond_false]
   cases eqB m.aR 4&&(eqB d.bi 1&&(oU d.aK&&(eqB m.aa d.aa&&tY d.aK m)))
   ·simp only[cond_false]
    cases eqB m.aR 6&&(eqB d.bi 2&&(eqB m.aa d.aa&&(eqB m.aO d.aO&&tY d.aK m)))
    ·simp only[cond_false]
     cases eqB m.aR 7&&(eqB d.bi 3&&ltB d.aO 999999)
     ·simp only[cond_false]
      cases eqB m.aR 7&&eqB d.bi 2
      ·exact .none h
      ·exact HW h rfl rfl rfl rfl
     ·exact HW h rfl rfl rfl rfl
    ·exact .keep h rfl rfl rfl rfl (by simp)
   ·exact .keep h rfl rfl rfl rfl (by simp)
  ·rw[hV] at h2
   exact PE h hk hr (hf (lA h2.1))
 ·exact .none h
omit h in
theorem N9 {l sub:List b9} {t:List ae} {nx:Int} (hp:l<+:sub) (hn:nx=(l.length:Int)+1) (ht:∀(k:Nat) (y:ae),t[k]?=some y→y.cT=nx+k∧sub[(y.cT-1).toNat]?=some ⟨y.aQ⟩):l++t.map (fun y=>(⟨y.aQ⟩:b9))<+:sub:=by
 obtain⟨zs,hz⟩:=hp
 refine⟨zs.drop t.length,?_⟩
 apply List.ext_getElem?
 intro i
 rw[←hz]
 by_cases h1:i<l.length
 ·rw[TL,Tu h1,Tu h1]
 ·rw[TL,Tz (by omega),Tz (show l.length≤i by omega)]
  by_cases h2:i-l.length<t.length
  ·rw[Tu (by simpa using h2),U6,v0 h2]
   obtain⟨e1,e2⟩:=ht (i-l.length) _ (v0 h2)
   rw[←hz,e1,Tz (by omega)] at e2
   rw[show(nx+((i-l.length:Nat):Int)-1).toNat-l.length=i-l.length by omega] at e2
   rw[e2];rfl
  ·rw[Tz (by simpa using h2),List.getElem?_drop]
   congr 1;simp;omega
theorem Ju (hp:RcV d.bM) (hs:SP s) (hb:∀p∈s.ax,okB p.aQ) {x:ao} (hf:uI s x∨RadB d x):wc d s a (An d x):=by
 simp only[An]
 cases ho:eqB d.bi 2&&(ko d.aK d.aa d.aO x).2
 ·exact .none h
 simp only[cond_true]
 rw[hV] at ho
 have hcond:x.aa=d.aa∧x.aO=d.aO∧nN d.aK x=true:=by
  have:=ho.2
  rw[ko] at this
  split at this
  ·assumption
  ·cases this
 rcases hf with⟨k,g,e,b,q1,q2,q3,q4⟩|q
 ·have hsub:=Tn q3
  have hl:=hs.sl
  have hnx:=hs.nx
  have hgen:d.aa=g:=by rw[←hcond.1,q4];rfl
  have hep:d.aO=e:=by rw[←hcond.2.1,q4];rfl
  have hkey:d.aK=u6 s.bv g:=by rw[←hgen];exact h.dk (by omega)
  have hopen:ko d.aK d.aa d.aO x=(⟨k,b⟩,true):=by
   rw[q4,hgen,hep,hkey]
   exact C6 q2.1 (by show k≤100000;omega) (hb _ hsub) (hs.sd _ hsub) _ _ _
  rw[hopen]
  simp only
  cases hlate:zi d.bM ⟨k,b⟩
  ·obtain⟨t,dd,t1,t2,t3,t4,t5,t6,t7,t8⟩:=BQ hp hlate
   have hmem:∀y∈nm ⟨k,b⟩ d.bM.aF,s.ax[(y.cT-1).toNat]?=some ⟨y.aQ⟩∧y.cT<s.aq.bm:=fun y hy=>by
    rcases wK.1 hy with e|e
    ·subst e;exact⟨q3,q2.2⟩
    ·exact h.pe y e
   have hpre:=N9 (l:=d.bM.aS) (sub:=s.ax) (t:=t) h.pr hp.n (fun k y hy=>⟨t2 k y hy,(hmem y (by rw[t1];exact V9 _ (Tn hy))).1⟩)
   have hnext:(mC d.bM ⟨k,b⟩).bm≤s.aq.bm:=by
    rw[t3]
    by_cases ht:t.length=0
    ·rw[ht];have:=h.nx;simp;omega
    ·obtain⟨y,hy⟩:∃y,t[t.length-1]?=some y:=⟨_,v0 (by omega)⟩
     have e1:=t2 _ y hy
     have e2:=(hmem y (by rw[t1];exact V9 _ (Tn hy))).2
     omega
   have hak:=h.ak
   refine⟨⟨rfl,V3 _,.inr ⟨rfl,rfl⟩,by simp only;rw[t3];omega,rfl,rfl,V3 _,.inr ⟨rfl,rfl⟩,V5 _,V3 _⟩,
    {h with pr:=by simp only;rw[t4];exact hpre,pe:=fun y hy=>?_,nx:=hnext,ak:=by simp only;rw[t3];omega},fun m hm _=>?_⟩
   ·simp only at hy
    rcases t6 with e|e
    ·rw[e] at hy;exact hmem y (by rw[t1];exact List.mem_append_right _ hy)
    ·rw[e] at hy;simp at hy
   ·simp at hm;subst hm;exact V3 _
  ·have e:mC d.bM ⟨k,b⟩=d.bM:=by rw[mC,hlate];rfl
   rw[e]
   refine⟨sx.refl d s,h,fun m hm _=>?_⟩
   simp at hm;subst hm;exact V3 _
 ·exfalso
  rcases q with q|⟨q1,q2⟩
  ·omega
  ·rw[hcond.2.2] at q2;cases q2
end
theorem JK {d:az} {s:ag} {a:aj} (h:SI d s a):SI (sN d) s a∧sx d s (sN d) s:=by
 rw[sN]
 cases eqB d.bi 2
 ·exact⟨h,sx.refl d s⟩
 ·have:=wc.keep h (r:=⟨{d with bi:=3},[]⟩) rfl rfl rfl rfl (by simp)
  exact⟨this.si,this.mo⟩
theorem nQ {n:ab} (h:PI n) {i:Nat} {d:az} {s:ag} {a:aj} (hd:n.am[i]?=some d) (hs:n.ai[i]?=some s) (ha:n.bh[i]?=some a) {r:aU} (st:wc d s a r):PI (fQ n i r):=by
 have hi:=(Tm.1 hd).1
 have hm:=h.setM hd hs st.mo (a':=a) st.si
 rw[dP hs,dP ha] at hm
 refine PI.sends _ hm fun f hf x y hx hy=>?_
 obtain⟨m,hm',rfl⟩:=Ur.1 hf
 simp only[ia,Vn] at hx hy
 have e1:(n.am.set i r.aN)[i]?=some r.aN:=by simp[hi]
 rw[e1] at hx;rw[hs] at hy
 cases hx;cases hy
 exact⟨fun _ _ h3=>.inl (st.sg m hm' h3),fun h1 _=>by simp[ia] at h1,fun h1 _ _=>by simp[ia] at h1⟩
end Go.AM
namespace Go.AM
open Go.Proofs
attribute [local simp] bE be a8
structure y9 (d:az) (s:ag) (a:aj) (r:bK):Prop where
 mo:sx d s d r.aJ
 si:SI d r.aJ a
 sg:∀m∈r.dJ,m.aR=2→Pn r.aJ m
theorem OM (xs:List ae) (j:Nat):fw xs=fw (xs.take j)+fw (xs.drop j):=by
 simp only[fw]
 rw[←V8,←UK,List.take_append_drop]
theorem FL {l:List b9} {k:Nat} {p:b9} (h:l[k]?=some p):jT l (k+1)=jT l k+p.aQ.length:=by
 simp only[jT]
 rw[Vr,h]
 simp
theorem Ae {l:List b9} {u:List ae} {A:Nat} (h:∀(i:Nat) x,u[i]?=some x→l[A+i]?=some ⟨x.aQ⟩):∀j:Nat,j≤u.length→jT l (A+j)=jT l A+fw (u.take j)
 |0,_=>by simp[fw]
 |j+1,hj=>by
  obtain⟨x,hx⟩:∃x,u[j]?=some x:=⟨_,v0 (by omega)⟩
  rw[←Nat.add_assoc,FL (h j x hx),Ae h j (by omega),Vr,hx]
  simp only[fw,Option.toList_some,UK,V8,Uu,UN,List.sum_cons,List.sum_nil]
  omega
theorem HZ {l l':List b9} (h:l<+:l') {k:Nat} (hk:k≤l.length):jT l' k=jT l k:=by
 obtain⟨z,rfl⟩:=h
 simp only[jT]
 rw[List.take_append_of_le_length hk]
theorem qL {x:aC} (h:rP x=true):0≤x.cT∧x.cT≤999999:=by
 simp only[rP,hV,bu] at h;omega
section
variable {d:az} {s:ag} {a:aj} (h:SI d s a) (g:SG s a)
theorem y9.none (h:SI d s a):y9 d s a ⟨s,[]⟩:=⟨sx.refl d s,h,by simp⟩
include h
theorem Lf {s':ag} {l:List aA} (h1:s'.bv=s.bv) (h2:s'.aF=s.aF) (h3:s'.bF=s.bF) (h4:s'.bi=s.bi) (h5:s'.aa=s.aa) (h6:s'.aK=s.aK) (h7:s'.ax=s.ax) (h8:s'.aq=s.aq) (h9:s'.bW.er=s.bW.er) (hl:∀m∈l,m.aR≠2):y9 d s a ⟨s',l⟩:=by
 refine⟨⟨rfl,V3 _,.inr ⟨rfl,rfl⟩,V3 _,by rw[h1],by rw[h1],by rw[h1];exact V3 _,.inr ⟨h5,h6⟩,by rw[h7];exact V5 _,by rw[h8];exact V3 _⟩,?_,fun m hm e=>absurd e (hl m hm)⟩
 exact⟨by rw[h1];exact h.cl,by rw[h1,h3];exact h.pq,by rw[h3,h5];exact h.pg,by rw[h1,h2,h3];exact h.pv,by rw[h1,h5];exact h.sg,by rw[h4,h5];exact h.s1,by rw[h1,h5,h6];exact h.sk,h.dg,by rw[h1];exact h.dk,by rw[h7];exact h.pr,by rw[h7,h8];exact h.pe,by rw[h8];exact h.nx,by rw[h7,h8];exact h.wn,by rw[h8];exact h.ak,by rw[h7,h8,h9];exact h.ch⟩
include g
theorem LQ (m:aA):y9 d s a (Ha s m):=by
 have hr:=qL g.sp.rcd
 simp only[Ha]
 cases hb:eqB s.bv.cT 999999
 ·have hb:=F7 hb
  simp only[cond_false]
  refine⟨⟨rfl,V3 _,.inr ⟨rfl,rfl⟩,V3 _,rfl,rfl,by simp only;omega,.inr ⟨rfl,rfl⟩,V5 _,V3 _⟩,?_,fun x hx e=>?_⟩
  ·have h1:=h.cl
   have h2:=h.sg
   exact {h with cl:=by simp only;omega,pq:=V3 _,pg:=fun _=>by simp only;omega,pv:=fun _=>rfl,sg:=by simp only;omega,sk:=h.sk,dk:=h.dk}
  ·simp at hx;subst hx
   exact⟨s.bv.cT+1,⟨by omega,V3 _⟩,rfl,rfl⟩
 ·exact .none h
theorem IL (m:aA):y9 d s a (yS s m):=by
 rw[yS]
 cases hb:leB s.bF 0||(!eqB m.aa s.bF||(!eqB m.bN s.aF.uW||leB 999999 s.aO))
 ·simp only[Ua] at hb
  have hp:=wM hb.1
  have h1:=h.pg hp
  simp only[cond_false,uS]
  refine⟨⟨rfl,V3 _,.inr ⟨rfl,rfl⟩,V3 _,rfl,rfl,V3 _,.inl h1,V5 _,V3 _⟩,?_,fun x hx e=>?_⟩
  ·have h2:=h.pq
   have h3:=qL g.sp.rcd
   exact {h with pq:=by show(0:Int)≤s.bv.cT;omega,pg:=fun e=>by simp at e,pv:=fun e=>by simp at e,sg:=h2,s1:=fun _=>hp,sk:=fun _=>by show s.aF.eY=u6 s.bv s.bF;rw[h.pv hp];rfl}
  ·simp[ut,tK] at hx;subst hx;simp at e
 ·exact .none h
omit g in
theorem II (m:aA):y9 d s a (yR s m):=by
 rw[yR]
 cases !qq s m||(ltB m.aO s.aO||(eqB m.aO s.aO&&!eqB m.aX s.aX))
 ·exact Lf h rfl rfl rfl rfl rfl rfl rfl rfl rfl (by simp[ut,tK])
 ·exact .none h
theorem LP {m:aA} (hf:m.bN≤d.bM.bm∨Rt s m):y9 d s a (G9 s m):=by
 rw[G9]
 cases hb:!qq s m||ltB s.aq.bm m.bN
 ·simp only[cond_false]
  simp only[Ua,Bool.not_eq_false'] at hb
  obtain⟨hk,hn⟩:=hb
  simp only[qq,hV] at hk
  rcases hf with hf|hf
  ·have hg:=Dl g m.bN
   have hw:=g.sp.win
   have hd:=CD hw hn
   have hle:=nn hn
   have f1:=hw.f
   have f2:=hw.n
   have hch:=h.ch
   have hak:=h.ak
   obtain⟨j,hj⟩:∃j,j=(m.bN-(s.aq.bm-s.aq.aw.length)).toNat:=⟨_,rfl⟩
   rw[←hj] at hd
   have hjl:j≤s.aq.aw.length:=by omega
   have hnx:(jl s.aq m.bN).bm=s.aq.bm:=by rw[hd]
   have hlen:(jl s.aq m.bN).aw.length=s.aq.aw.length-j:=by rw[hd];simp
   have hacked:iC (jl s.aq m.bN)=iC s.aq+j:=by simp only[iC,hnx,hlen];omega
   have ha0:0≤iC s.aq:=by simp only[iC];omega
   have hcut:=OM s.aq.aw j
   have hb':jT s.ax ((iC s.aq).toNat+j)=jT s.ax (iC s.aq).toNat+fw (s.aq.aw.take j):=by
    refine Ae (fun i x hx=>?_) j hjl
    have e1:=(hw.u i x hx).1
    have e2:=h.wn x (Tn hx)
    rw[show(iC s.aq).toNat+i=(x.cT-1).toNat by simp only[iC];omega];exact e2
   refine⟨⟨rfl,V3 _,.inr ⟨rfl,rfl⟩,V3 _,rfl,rfl,V3 _,.inr ⟨rfl,rfl⟩,V5 _,by simp only[kG,hnx];exact V3 _⟩,?_,by simp⟩
   refine⟨h.cl,h.pq,h.pg,h.pv,h.sg,h.s1,h.sk,h.dg,h.dk,h.pr,?_,?_,fun x hx=>h.wn x (wd _ _ x hx),?_,?_⟩
   ·simp only[kG,hnx];exact h.pe
   ·simp only[kG,hnx];exact h.nx
   ·show iC (jl s.aq m.bN)<d.bM.bm
    rw[hacked];simp only[iC] at hak ⊢;omega
   ·rw[hg.2]
    show a.eH+(s.bW.er+(fw s.aq.aw-fw (jl s.aq m.bN).aw))=jT s.ax (iC (jl s.aq m.bN)).toNat
    rw[hacked,show(iC s.aq+(j:Int)).toNat=(iC s.aq).toNat+j by omega,hb',←hch,hd]
    simp only;omega
  ·exfalso
   have e1:=lA hk.2.1
   rcases hf with q|⟨q1,q2⟩
   ·omega
   ·rw[hk.2.2] at q2;cases q2
 ·exact .none h
theorem Hg {m:aA} (hf:m.aR=8→m.bN≤d.bM.bm∨Rt s m):y9 d s a (sUp s m):=by
 rw[sUp]
 cases kD m
 ·exact .none h
 simp only[UY,cond_false]
 cases eqB m.aR 1
 ·cases eqB m.aR 3
  ·cases eqB m.aR 5
   ·cases h8:eqB m.aR 8
    ·exact .none h
    ·exact LP h g (hf (lA h8))
   ·exact II h m
  ·exact IL h g m
 ·exact LQ h g m
theorem Be:y9 d s a ⟨jz s,[]⟩:=by
 have hr:=qL g.sp.rcd
 exact⟨⟨rfl,V3 _,.inr ⟨rfl,rfl⟩,V3 _,rfl,rfl,V3 _,.inr ⟨rfl,rfl⟩,V5 _,V3 _⟩,
  {h with pq:=by show(0:Int)≤s.bv.cT;omega,pg:=fun e=>by simp[jz] at e,pv:=fun e=>by simp[jz] at e},by simp⟩
theorem Dn (b:List Int):y9 d s a ⟨(p8 s b).1,[]⟩:=by
 rw[p8]
 cases leB 24 ((s.ax.length:Nat):Int)||ltB 60 ((b.length:Nat):Int)
 ·simp only[cond_false]
  have hp:s.ax<+:s.ax++[(⟨b⟩:b9)]:=List.prefix_append _ _
  have hnx:=g.sp.nx
  refine⟨⟨rfl,V3 _,.inr ⟨rfl,rfl⟩,V3 _,rfl,rfl,V3 _,.inr ⟨rfl,rfl⟩,hp,V3 _⟩,
   {h with pr:=h.pr.trans hp,pe:=fun x hx=>⟨zJ hp (h.pe x hx).1,(h.pe x hx).2⟩,wn:=fun x hx=>zJ hp (h.wn x hx),ch:=?_},by simp⟩
  show a.eH+s.bW.er=jT (s.ax++[(⟨b⟩:b9)]) (iC s.aq).toNat
  rw[HZ hp (by simp only[iC];omega)];exact h.ch
 ·exact .none h
end
end Go.AM
namespace Go.AM
open Go.Proofs
attribute [local simp] bE be a8
theorem uI.mono {s s':ag} {x:ao} (h:uI s x) (h1:s'.bv=s.bv) (h2:s'.ax=s.ax) (h3:s.aq.bm≤s'.aq.bm):uI s' x:=by
 obtain⟨k,g,e,b,q1,q2,q3,q4⟩:=h
 exact⟨k,g,e,b,q1,⟨q2.1,by omega⟩,by rw[h2];exact q3,by rw[h1];exact q4⟩
structure TrS (d:az) (s:ag) (a:aj) (s':ag) (a':aj) (r:List ao):Prop where
 rc:s'.bv=s.bv
 gn:s'.aa=s.aa
 rk:s'.aK=s.aK
 su:s'.ax=s.ax
 st:s'.bi=s.bi
 wn:s.aq.bm≤s'.aq.bm
 si:SI d s' a'
 rd:∀x∈r,uI s' x
theorem TrS.mo {d:az} {s s':ag} {a a':aj} {r:List ao} (h:TrS d s a s' a' r):sx d s d s':=
 ⟨rfl,V3 _,.inr ⟨rfl,rfl⟩,V3 _,by rw[h.rc],by rw[h.rc],by rw[h.rc];exact V3 _,.inr ⟨h.gn,h.rk⟩,by rw[h.su];exact V5 _,h.wn⟩
theorem SI.pay {d:az} {s s':ag} {a a':aj} (h:SI d s a) (h1:s'.bv=s.bv) (h2:s'.aF=s.aF) (h3:s'.bF=s.bF) (h4:s'.bi=s.bi) (h5:s'.aa=s.aa) (h6:s'.aK=s.aK) (h7:s'.ax=s.ax) (h8:s'.aq=s.aq) (h9:a'.eH+s'.bW.er=a.eH+s.bW.er):SI d s' a':=
 ⟨by rw[h1];exact h.cl,by rw[h1,h3];exact h.pq,by rw[h3,h5];exact h.pg,by rw[h1,h2,h3];exact h.pv,by rw[h1,h5];exact h.sg,by rw[h4,h5];exact h.s1,by rw[h1,h5,h6];exact h.sk,h.dg,by rw[h1];exact h.dk,by rw[h7];exact h.pr,by rw[h7,h8];exact h.pe,by rw[h8];exact h.nx,by rw[h7,h8];exact h.wn,by rw[h8];exact h.ak,by rw[h9,h7,h8];exact h.ch⟩
theorem Ib {s:ag} {a:aj} (h:SG s a) (n:Int):(cV s a n).2.eH+(cV s a n).1.bW.er=a.eH+s.bW.er:=by
 rw[cV]
 cases leB (km s n) 0
 ·have:=(A7 h.mo.acc s.bW.au (Ce (km s n) s.gL.eA)).2.2.2.2.2.1
  simp only[cond_false,i9,this]
 ·rfl
theorem K8 {d:az} {s:ag} {a:aj} (h:SI d s a) (g:SG s a) (n:Int):SI d (cV s a n).1 (cV s a n).2:=by
 obtain⟨q,hk⟩:=mg s a n
 have hp:=Ib g n
 exact h.pay (by rw[hk]) (by rw[hk]) (by rw[hk]) (by rw[hk]) (by rw[hk]) (by rw[hk]) (by rw[hk]) (by rw[hk]) hp
theorem QL {d:az} {s:ag} {a:aj} (h:SI d s a) (g:SG s a) {x:b9} (e:o6 s=some x):SI d {s with aq:=mQ s.aq x.aQ} a:=by
 obtain⟨hm,_,hx,hn,hl,hb⟩:=lF g.sp e
 have hnx:=h.nx
 have hac:iC (mQ s.aq x.aQ)=iC s.aq:=by simp only[iC,mQ,List.length_append,List.length_cons,Vp];omega
 refine⟨h.cl,h.pq,h.pg,h.pv,h.sg,h.s1,h.sk,h.dg,h.dk,h.pr,fun y hy=>⟨(h.pe y hy).1,by have:=(h.pe y hy).2;simp only[mQ];omega⟩,by simp only[mQ];omega,fun y hy=>?_,by rw[hac];exact h.ak,by rw[hac];exact h.ch⟩
 simp only[mQ,TW,List.mem_singleton] at hy
 rcases hy with hy|hy
 ·exact h.wn y hy
 ·subst hy;exact hx
theorem Dp {d:az} {s:ag} {a:aj} (h:SI d s a) (h1:s.bi=1) {y:ae} (hy:s.ax[(y.cT-1).toNat]?=some ⟨y.aQ⟩) (hk:1≤y.cT∧y.cT<s.aq.bm) (e:Int):uI s (gI s.aK s.aa e y):=by
 have hg:=h.s1 h1
 exact⟨y.cT,s.aa,e,y.aQ,hg,hk,hy,by rw[h.sk hg]⟩
theorem Dr {d:az}:∀(k:Nat) {s:ag} {a:aj} {r:List ao},SI d s a→SG s a→s.bi=1→(∀x∈r,uI s x)→TrS d s a (gJ k s a r).1 (gJ k s a r).2.1 (gJ k s a r).2.2
 |0,s,a,r,h,g,h1,hr=>⟨rfl,rfl,rfl,rfl,rfl,V3 _,h,hr⟩
 |k+1,s,a,r,h,g,h1,hr=>by
  rw[gJ]
  cases e:o6 s with
  |none=>exact⟨rfl,rfl,rfl,rfl,rfl,V3 _,h,hr⟩
  |some x=>
   obtain⟨hm,_,hx,hn,hl,hb⟩:=lF g.sp e
   have he:=uf g (n:=((x.aQ.length:Nat):Int)) (by omega)
   have hsi:=K8 h g ((x.aQ.length:Nat):Int)
   obtain⟨q,hk⟩:=mg s a ((x.aQ.length:Nat):Int)
   have hw:=g.sp.win.n
   simp only
   cases hq:ltB 0 (km (cV s a ((x.aQ.length:Nat):Int)).1 ((x.aQ.length:Nat):Int))
   ·simp only[cond_false]
    have e':o6 (cV s a ((x.aQ.length:Nat):Int)).1=some x:=by rw[hk];exact e
    have hsent:=QL hsi he e'
    have hsg:=zL he e' hq
    have hst:({(cV s a ((x.aQ.length:Nat):Int)).1 with aq:=mQ (cV s a ((x.aQ.length:Nat):Int)).1.aq x.aQ}:ag).bi=1:=by rw[hk];exact h1
    have hrad:∀y∈r++[gI (cV s a ((x.aQ.length:Nat):Int)).1.aK (cV s a ((x.aQ.length:Nat):Int)).1.aa (cV s a ((x.aQ.length:Nat):Int)).1.aO ⟨(cV s a ((x.aQ.length:Nat):Int)).1.aq.bm,x.aQ⟩],uI {(cV s a ((x.aQ.length:Nat):Int)).1 with aq:=mQ (cV s a ((x.aQ.length:Nat):Int)).1.aq x.aQ} y:=by
     intro y hy
     rcases TW.1 hy with hy|hy
     ·exact(hr y hy).mono (by rw[hk]) (by rw[hk]) (by rw[hk];simp only[mQ];omega)
     ·simp at hy;subst hy
      exact Dp hsent hst (y:=⟨(cV s a ((x.aQ.length:Nat):Int)).1.aq.bm,x.aQ⟩) (by rw[hk];exact hx) (by rw[hk];simp only[mQ];omega) _
    have ih:=Dr k hsent hsg hst hrad
    refine⟨by rw[ih.rc,hk],by rw[ih.gn,hk],by rw[ih.rk,hk],by rw[ih.su,hk],by rw[ih.st,hk],?_,ih.si,ih.rd⟩
    refine V7 ?_ ih.wn
    rw[hk];simp only[mQ];omega
   ·simp only[cond_true]
    refine⟨by rw[hk],by rw[hk],by rw[hk],by rw[hk],by rw[hk],by rw[hk];exact V3 _,hsi,fun y hy=>(hr y hy).mono (by rw[hk]) (by rw[hk]) (by rw[hk];exact V3 _)⟩
theorem HV {d:az} {s:ag} {a:aj} (h:SI d s a) (g:SG s a) (h1:s.bi=1):∀x∈we s,uI s x:=by
 rw[we,h1]
 simp only[be,cond_true]
 intro x hx
 obtain⟨y,hy,rfl⟩:=Ur.1 hx
 have hy:=Uw hy
 obtain⟨k,hk⟩:=T0 hy
 have hu:=(g.sp.win.u k y hk).1
 have hf:=g.sp.win.f
 have hlt:=(Tm.1 hk).1
 exact Dp h h1 (h.wn y hy) (by omega) _
theorem Do {d:az} {s:ag} {a:aj} (h:SI d s a) (g:SG s a) (m:aM):TrS d s a (mz s a m).aJ (mz s a m).dX (mz s a m).bC∧∀x∈(mz s a m).iB,x.aR=7:=by
 rw[mz]
 cases h1:eqB s.bi 1
 ·exact⟨⟨rfl,rfl,rfl,rfl,rfl,V3 _,h,by simp⟩,by simp⟩
 ·have h1:=lA h1
  simp only[UY,cond_false]
  have hg:=AC g
  have hq:=wX g.sp
  cases ltB 4 (jx s)
  ·simp only[cond_false,Kw]
   have hsi:SI d {s with ef:=jx s,d4:=(mr s).2,bW:=(f4 s a).2} (f4 s a).1:=h.pay rfl rfl rfl rfl rfl rfl rfl rfl hg.2.2.2.1
   have ht:=Dr 2 hsi (g.upd hq (w8 g.sp)) h1 (r:=[]) (by simp)
   refine⟨⟨ht.rc,ht.gn,ht.rk,ht.su,ht.st,ht.wn,ht.si,fun x hx=>?_⟩,by simp⟩
   rcases TW.1 hx with hx|hx
   ·have hx':uI s x:=by
     rw[mr] at hx;revert hx
     cases B4 s
     ·simp
     ·cases ltB 0 s.d4
      ·exact HV h g h1 x
      ·simp
    exact hx'.mono ht.rc ht.su ht.wn
   ·exact ht.rd x hx
  ·simp only[cond_true,Hf]
   refine⟨⟨rfl,rfl,rfl,rfl,rfl,V3 _,h.pay rfl rfl rfl rfl rfl rfl rfl rfl hg.2.2.2.1,by simp⟩,fun x hx=>?_⟩
   obtain⟨c,_,rfl⟩:=Ur.1 hx
   rfl
end Go.AM
namespace Go.AM
open Go.Proofs
attribute [local simp] bE be a8
theorem MP.key {nc i:Nat} {d:az} {s:ag} {a:aj} (h:MP nc i d s a):d.dw.eY=s.bv.eY:=by
 have:=h.ids
 simp only[Ca,hV,eqB_t] at this
 exact this.2
theorem LF {n:ab} (h:PI n) {i:Nat} {d:az} {s:ag} {a:aj} (hd:n.am[i]?=some d) (hs:n.ai[i]?=some s) (ha:n.bh[i]?=some a) {r:bK} (st:y9 d s a r):PI (yd n i r):=by
 have hi:=(Tm.1 hs).1
 have hm:=h.setM hd hs st.mo (a':=a) st.si
 rw[dP hd,dP ha] at hm
 refine PI.sends _ hm fun f hf x y hx hy=>?_
 obtain⟨m,hm',rfl⟩:=Ur.1 hf
 simp only[ia,Vn] at hx hy
 have e1:(n.ai.set i r.aJ)[i]?=some r.aJ:=by simp[hi]
 rw[e1] at hy;rw[hd] at hx
 cases hx;cases hy
 exact⟨fun h1 _=>by simp[ia] at h1,fun _ h1=>by simp[ia] at h1,fun _ _ h3=>.inl (st.sg m hm' h3)⟩
theorem GU {n:ab} (h:PI n) {i:Nat} {d:az} {s:ag} {a:aj} (hd:n.am[i]?=some d) (hs:n.ai[i]?=some s) (ha:n.bh[i]?=some a) {t:bY} (st:TrS d s a t.aJ t.dX t.bC) (hp:∀x∈t.iB,x.aR=7):PI (sa n i t):=by
 have hi:=(Tm.1 hs).1
 have hm:=h.setM hd hs st.mo st.si
 rw[dP hd] at hm
 have e1:(n.ai.set i t.aJ)[i]?=some t.aJ:=by simp[hi]
 have hpg:=PI.sends (t.iB.map (ia i false)) hm fun f hf x y hx hy=>by
  obtain⟨m,hm',rfl⟩:=Ur.1 hf
  have hk:=hp m hm'
  exact⟨fun h1 _=>by simp[ia] at h1,fun _ h1=>by simp[ia] at h1,fun _ _ h3=>by simp only[ia] at h3;omega⟩
 have hkeep:=gS (t.iB.map (ia i false)) {n with ai:=n.ai.set i t.aJ,bh:=n.bh.set i t.dX}
 refine PI.sends _ hpg fun f hf x y hx hy=>?_
 obtain⟨m,hm',rfl⟩:=Ur.1 hf
 rw[hkeep.2.1] at hy
 simp only[tl,Vn] at hy
 rw[e1] at hy;cases hy
 exact⟨fun h1=>by simp[tl] at h1,fun _ _=>.inl (st.rd m hm'),fun _ h1=>by simp[tl] at h1⟩
theorem HE:∀(c i:Nat) {B:Int} {n:ab},NP B n→B+c<4611686018427387904→PI n→PI (jK c i n)
 |0,_,_,_,_,_,h=>h
 |c+1,i,B,n,hn,hB,h=>by
  rw[jK]
  cases hd:n.am[i]? with
  |none=>exact h
  |some d=>
   obtain⟨d',s,a,e1,e2,e3,hm⟩:=hn.at_ (Tm.1 hd).1
   rw[hd] at e1;cases e1
   exact HE c (i+1) (i8 hn hd (sO d) (wm hm.dp) hm.dc (by omega)) (by omega) (nQ h hd e2 e3 (F4 (h.si i d s a hd e2 e3)))
theorem HH:∀(c i:Nat) {B:Int} {n:ab},NP B n→B+2000*c<4611686018427387904→PI n→PI (pP c i n)
 |0,_,_,_,_,_,h=>h
 |c+1,i,B,n,hn,hB,h=>by
  rw[pP]
  cases hs:n.ai[i]? with
  |none=>exact h
  |some s=>cases ha:n.bh[i]? with
   |none=>exact h
   |some a=>
    have hls:=hn.ls
    have hml:=kB hn.map
    obtain⟨d,s',a',e1,e2,e3,hm⟩:=hn.at_ (i:=i) (by have:=(Tm.1 hs).1;omega)
    rw[hs] at e2;rw[ha] at e3;cases e2;cases e3
    have ht:=Do (h.si i d s a e1 hs ha) hm.sg n.dZ
    exact HH c (i+1) (A1 hn hs ha (xj hm.sg (by omega)) (Br hm.sg hn.map) (by omega)) (by omega) (GU h e1 hs ha ht.1 ht.2)
theorem MD {n:ab} (h:PI n) (k:Nat):PI (iU n k):=⟨h.si,fun f hf=>h.fi f (by
 simp only[iU,TW] at hf
 rcases hf with hf|hf
 ·exact Uw hf
 ·exact List.mem_of_mem_drop hf)⟩
theorem H5 {B:Int} {n:ab} (hn:NP B n) (h:PI n) (k:Nat):PI (iE n k):=by
 rw[iE]
 cases hf:n.ay[k]? with
 |none=>exact h
 |some f=>
  have hfm:=Tn hf
  have hp:=hn.fs f hfm
  have h1:=MD h k
  have hdd:=hp.d
  obtain⟨d,s,a,e1,e2,e3,hm⟩:=hn.at_ (i:=f.aN.toNat) (by omega)
  have hfi:=h.fi f hfm d s e1 e2
  have hsi:=h.si _ d s a e1 e2 e3
  have q1:(iU n k).am[f.aN.toNat]?=some d:=e1
  have q2:(iU n k).ai[f.aN.toNat]?=some s:=e2
  have q3:(iU n k).bh[f.aN.toNat]?=some a:=e3
  simp only
  cases xY (iU n k) f.aX
  ·exact⟨h1.si,h1.fi⟩
  ·simp only[UY,cond_false,q1,q2]
   cases hu:f.eh
   ·simp only[cond_false]
    cases eqB d.aX f.aX
    ·exact⟨h1.si,h1.fi⟩
    ·simp only[UY,cond_false]
     cases hr:f.cq
     ·exact nQ h1 q1 q2 q3 (Jw hsi hm.key (qL hm.sg.sp.rcd).2 (fun e=>hfi.dn hu hr e))
     ·exact nQ h1 q1 q2 q3 (Ju hsi (EK.1 hm.dp.rc.v) hm.sg.sp hm.sg.b1 (hfi.rd hu hr))
   ·simp only[cond_true]
    cases hr:f.cq||!eqB f.aY.aX f.aX
    ·simp only[cond_false]
     simp only[Ua] at hr
     exact LF h1 q1 q2 q3 (Hg hsi hm.sg (fun e=>hfi.up hu hr.1 e))
    ·exact h1
theorem P0 {d:az} {s:ag} {f:bD} (h:(bif f.cq then f.eh||Gl d f.bC else bif f.eh then hUp s f.aY else CU d f.aY)=true):FI d s f:=by
 refine⟨fun h1 h2 h3=>?_,fun h1 h2=>?_,fun h1 h2 h3=>?_⟩
 ·rw[h2,h1] at h
  simp only[cond_true,cond_false,hUp,h3,show eqB 8 3=false from by simp[eqB],be,Bool.or_true] at h
  right
  rcases T8 _ _ |>.mp h with q|q
  ·exact .inl (im q)
  ·rw[hV] at q;exact .inr ⟨lA q.1,by simpa using q.2⟩
 ·rw[h2,h1] at h
  simp only[cond_true,U1,Gl] at h
  right
  rcases T8 _ _ |>.mp h with q|q
  ·exact .inl (im q)
  ·rw[hV] at q;exact .inr ⟨lA q.1,by simpa using q.2⟩
 ·rw[h2,h1] at h
  simp only[cond_false,CU,h3,be,cond_true] at h
  right
  rcases T8 _ _ |>.mp h with q|q
  ·exact .inl (lA q)
  ·exact .inr (lA q)
end Go.AM
