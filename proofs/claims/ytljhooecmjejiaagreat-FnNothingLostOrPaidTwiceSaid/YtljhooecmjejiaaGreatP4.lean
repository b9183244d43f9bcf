/- A part. -/
import Derived.Test.YtljhooecmjejiaaGreatP3
set_option linter.unusedVariables false
set_option linter.unusedSimpArgs false
open Int renaming le_refl→U5,toNat_natCast→Us,tmod→Ur,le_trans→U9
open Option renaming bind_some→Up,bind→Un
open Bool renaming and_eq_true→hV,not_true→TF,or_eq_true→SU,true_and→UP,eq_iff_iff→Ut,or_eq_false_iff→SX,and_true→UQ,and_eq_false_iff→Vb,not_false→UO,false_or→TL
open List renaming getElem?_eq_getElem→v0,mem_of_getElem?→RS,prefix_refl→U8,getElem?_append_right→Si,range→SO,getElem?_append_left→RY,getD_eq_getElem?_getD→TP,take_add_one→Ux,mem_map→TM,map_append→TJ,getElem?_of_mem→SS,mem_append_left→Vd,mem_of_mem_take→U6,map_cons→TI,getElem?_map→Ub,append_assoc→Sz,nil_append→T8,length_nil→Uu,sum_append→Va,mem_append→TG,map_nil→TN
namespace Go.AM
open Go.Proofs
attribute [local simp] bz be bb
theorem yY {α τ ρ:Type} {L:τ→Option (cB τ ρ)} (mk:Nat→τ) (xs:List α) (p:Nat→α→Bool) (f:ρ) (c:Option ρ) (hl:xs.length≤9223372036854775806)
 (hs:∀(k:Nat) (x:α),xs[k]?=some x→k<xs.length→L (mk k)=bif p k x then some (.next (mk (k+1))) else some (.done f)) (he:L (mk xs.length)=dn c):
 iter L FU (mk 0)=bif gB p xs then c else some f:=by
 have:=fy (step:=L) xs.zipIdx (fun k (_:Unit)=>mk k) (fun _ y=>bif p y.2 y.1 then some (.next ()) else some (.done f)) (fun _=>c) (by simpa using hl)
  (fun k y s hy hk=>by
   have hk':k<xs.length:=by simpa using hk
   have:y=(xs[k],k):=by rw[v0 hk] at hy;simpa using hy.symm
   subst this
   rw[hs k xs[k] (v0 hk') hk'];cases p k xs[k]<;>rfl) (fun s=>by rw[List.length_zipIdx,he]) ()
 refine Eq.trans (show iter L FU (mk 0)=_ from this) ?_
 have key:∀ys:List (α×Nat),jV (fun(_:Unit) y=>bif p y.2 y.1 then some (.next ()) else some (cB.done f)) (fun _=>c) ys ()=bif ys.all (fun y=>p y.2 y.1) then c else some f:=by
  intro ys
  induction ys with
  |nil=>rfl
  |cons x xs ih=>rw[jV];cases hp:p x.2 x.1<;>simp[hp,ih]
 exact key _
theorem wR {α:Type} (xs:List α):gB (fun _ _=>true) xs=true:=eo.2 fun _ _ _=>rfl
theorem Ga {m:aK} (h:fK m):mf m=some m:=by
 have hl:=h.1
 have:=yY (L:=gP m) (fun k=>((k:Int),m.aX.take k)) m.aX (fun _ _=>true) m.aX (some m.aX) (by omega) (fun k x hx hk=>by
  have hm:=RS hx
  have h1:=(h.2 x hm).1
  have e:m.aX.take (k+1)=m.aX.take k++[x]:=by rw[Ux,hx];rfl
  simp only[gP,cR hk,bb,hx,Up,cond_true,T8,e,cp (show k<9223372036854775807 by omega),
   fB (b:=8) (n:=x.cT.length) (by omega) (by omega),
   fB (b:=32) (n:=(m.aX.take k++[(⟨x.fT,x.cT⟩:fc)]).length) (by simp;omega) (by simp;omega)]) (by simp[gP])
 rw[wR] at this
 have this:iter (gP m) FU (0,[])=some m.aX:=by simpa using this
 rw[mf,this];rfl
def uX (x y:aC):Bool:=eqB x.ID.dL y.ID.dL&&(eqB x.ID.bM y.ID.bM&&true)
theorem KC (x y:aC):uX x y=(eqB x.ID.dL y.ID.dL&&(eqB x.ID.bM y.ID.bM&&true)):=rfl
def xQ (rs:List aC) (k:Nat) (x:aC):Bool:=qZ x&&gB (fun _ y=>!uX y x) (rs.take k)
def pw (rs:List aC):Bool:=gB (xQ rs) rs&&leB ((rs.length:Nat):Int) 4
theorem Gp {α:Type} {xs:List α} {k i:Nat} {x:α} (h:(xs.take k)[i]?=some x):xs[i]?=some x∧i<k:=by
 rw[List.getElem?_take] at h
 split at h
 ·exact⟨h,by assumption⟩
 ·cases h
theorem Hl {rs:List aC} (hl:rs.length≤1000):pf rs=some (pw rs):=by
 have h2:∀(i:Nat) (x:aC),rs[i]?=some x→iter (kT rs (i:Int)) FU 0=bif gB (fun _ y=>!uX y x) (rs.take i) then some (.next ((i+1:Nat):Int)) else some (.done false):=by
  intro i x hx
  have hi:=(List.getElem?_eq_some_iff.1 hx).1
  have hlt:(rs.take i).length=i:=by simp;omega
  refine lc (rs.take i) (fun _ y=>!uX y x) (cB.done false) _ (by omega) (fun k y hy hk=>?_) (by simp[kT,hlt,cp (show i<9223372036854775807 by omega)])
  obtain⟨hy',hki⟩:=Gp hy
  simp only[kT,cR hki,bb,hx,hy',cp (show k<9223372036854775807 by omega),Up,cond_true,←KC]
  cases uX y x<;>rfl
 have hL:iter (kS rs) FU 0=bif gB (xQ rs) rs then some (leB ((rs.length:Nat):Int) 4) else some false:=by
  refine lc rs (xQ rs) false _ (by omega) (fun k x hx hk=>?_) (by simp[kS])
  simp only[kS,cR hk,bb,hx,M2,h2 k x hx,Up,cond_true,xQ]
  cases qZ x<;>cases gB (fun _ y=>!uX y x) (rs.take k)<;>rfl
 simp only[pf,hL,pw]
 cases gB (xQ rs) rs<;>rfl
def pD (c:Nat) (rs:List aC) (j:Nat):ay:=⟨⟨(rs.getD j default).ID,(rs.getD j default).eP,(rs.getD j default).cO⟩,0,Ur (j:Int) (c:Int),0,0,0,false,0,⟨1,[],[]⟩⟩
def jp (p:bA) (rs:List aC) (j:Nat):ag:=⟨rs.getD j default,p,0,⟨0,0,0,0,0⟩,0,0,0,0,0,0,⟨0,0,0⟩,[],⟨1,[]⟩,0,⟨(j:Int),0,0⟩⟩
def vk (b:Int):Int:=bif inR b 0 100000 then b else 0
def uC (b:Int):aj:=⟨vk b,vk b,0,[]⟩
def eZ (m:aK) (rs:List aC) (p:bA) (b:Int) (n:Nat):ab:=
 ⟨m,(SO n).map (pD m.aX.length rs),(SO n).map (jp p rs),(SO n).map (fun _=>uC b),[],0,⟨2,3⟩,0,0⟩
def zeroN:ab:=⟨⟨[]⟩,[],[],[],[],0,⟨0,0⟩,0,0⟩
theorem acc_s (b:Int):oT b=some (uC b):=by
 simp only[oT,et,Up,uC,vk];cases inR b 0 100000<;>rfl
theorem ses_s {p:bA} (h:eg p) (x:aC) (k:Int):oV x p k=some (⟨x,p,0,⟨0,0,0,0,0⟩,0,0,0,0,0,0,⟨0,0,0⟩,[],⟨1,[]⟩,0,⟨k,0,0⟩⟩:ag):=by
 have h1:=h.1
 simp only[oV,ql,T8,fB (b:=8) (n:=p.bF.length) (by omega) (by omega),cond_true,Up];rfl
theorem OB (c:mL) (k:Int):qK c k=some (⟨c,0,k,0,0,0,false,0,⟨1,[],[]⟩⟩:ay):=by rw[qK];rfl
theorem Ku {α:Type} (f:Nat→α) (k:Nat):(SO (k+1)).map f=(SO k).map f++[f k]:=by rw[List.range_succ,TJ];rfl
theorem Iu {α:Type} [Inhabited α] {xs:List α} {k:Nat} {x:α} (h:xs[k]?=some x):xs.getD k default=x:=by rw[TP,h];rfl
def mkN (m:aK) (rs:List aC) (p:bA) (b:Int) (k:Nat):Int×List aj×List ag×List ay:=((k:Int),(eZ m rs p b k).aY,(eZ m rs p b k).am,(eZ m rs p b k).ai)
theorem new_s {m:aK} (hm:fK m) {rs:List aC} (hl:rs.length≤1000) {p:bA} (hp:eg p) (b:Int):
 oU m rs p b=some (bif nr m&&(py p&&pw rs) then eZ m rs p b rs.length else zeroN):=by
 simp only[oU,PZ hm,Nu hp,Hl hl,Up]
 cases hv:nr m with
 |false=>rfl
 |true=>
  cases py p with
  |false=>rfl
  |true=>
   cases pw rs with
   |false=>rfl
   |true=>
    have hc:1≤m.aX.length:=by
     simp only[nr,hV] at hv
     have:=bp.1 hv.1;omega
    have hz:eqB ((m.aX.length:Nat):Int) 0=false:=eqB_f.2 (by omega)
    have:=yY (L:=kB m rs p b) (mkN m rs p b) rs (fun _ _=>true) ((eZ m rs p b rs.length).aY,(eZ m rs p b rs.length).am,(eZ m rs p b rs.length).ai) (some ((eZ m rs p b rs.length).aY,(eZ m rs p b rs.length).am,(eZ m rs p b rs.length).ai)) (by omega) (fun k x hx hk=>by
     simp only[mkN,eZ,kB,cR hk,bb,hx,hz,Up,cond_true,UO,OB,dm,ses_s hp,acc_s,cp (show k<9223372036854775807 by omega),Ku,
      fB (b:=144) (n:=((SO k).map (pD m.aX.length rs)++[(⟨⟨x.ID,x.eP,x.cO⟩,0,Ur (k:Int) ((m.aX.length:Nat):Int),0,0,0,false,0,⟨1,[],[]⟩⟩:ay)]).length) (by simp;omega) (by simp;omega),
      fB (b:=288) (n:=((SO k).map (jp p rs)++[(⟨x,p,0,⟨0,0,0,0,0⟩,0,0,0,0,0,0,⟨0,0,0⟩,[],⟨1,[]⟩,0,⟨(k:Int),0,0⟩⟩:ag)]).length) (by simp;omega) (by simp;omega),
      fB (b:=48) (n:=((SO k).map (fun _=>uC b)++[(⟨(uC b).eL,(uC b).bP,(uC b).d4,[]⟩:aj)]).length) (by simp;omega) (by simp;omega),pD,jp,Iu hx]
     rfl) (by simp[mkN,kB])
    rw[wR] at this
    simp only[TF,cond_false,Bool.and_self,cond_true,Ga hm,Up]
    rw[show((0:Int),([]:List aj),([]:List ag),([]:List ay))=mkN m rs p b 0 from rfl,this]
    rfl
section
variable {m:aK} {rs:List aC} {p:bA} {b:Int}
theorem w0:WR 0=0:=bB (by omega)
theorem w1:WR 1=1:=bB (by omega)
theorem okN (hm:fK m) (hp:eg p) (hl:rs.length≤1000):iB (eZ m rs p b rs.length):=by
 refine⟨hm,⟨by simp[eZ];omega,fun x hx=>?_⟩,⟨by simp[eZ];omega,fun x hx=>?_⟩,⟨by simp[eZ];omega,fun x hx=>?_⟩,⟨by simp[eZ],fun x hx=>by simp[eZ] at hx⟩⟩
 ·obtain⟨k,_,rfl⟩:=List.mem_map.1 hx
  exact⟨⟨by simp[pD],by simp[pD]⟩,⟨by simp[pD],by simp[pD]⟩⟩
 ·obtain⟨k,_,rfl⟩:=List.mem_map.1 hx
  exact⟨hp,⟨by simp[jp],by simp[jp]⟩,⟨by simp[jp],by simp[jp]⟩⟩
 ·obtain⟨k,_,rfl⟩:=List.mem_map.1 hx
  exact⟨by simp[uC],fun _ _=>trivial⟩
theorem B6 {α:Type} (f:Nat→α) {n k:Nat} (hk:k<n):((SO n).map f)[k]?=some (f k):=by simp[hk]
theorem vS {α:Type} {f:Nat→α} {n k:Nat} {x:α} (h:((SO n).map f)[k]?=some x):k<n∧x=f k:=by
 rw[Ub] at h
 by_cases hk:k<n
 ·simp[hk] at h;exact⟨hk,h.symm⟩
 ·simp[hk] at h
theorem Qn (b:Int):0≤vk b∧vk b≤100000:=by
 unfold vk
 cases h:inR b 0 100000 with
 |false=>simp
 |true=>simpa using bp.1 h
variable (H:nr m=true∧py p=true∧pw rs=true)
include H
theorem zf:1≤m.aX.length∧m.aX.length≤6:=by
 obtain⟨hv,hs,hr⟩:=id H
 simp only[nr,hV] at hv
 have:=bp.1 hv.1;omega
theorem Jh {k:Nat} (hk:k<rs.length):qZ (rs.getD k default)=true:=by
 obtain⟨hv,hs,hr⟩:=id H
 simp only[pw,hV] at hr
 have:=eo.1 hr.1 k _ (v0 hk)
 simp only[xQ,hV] at this
 rw[TP,v0 hk]
 exact this.1
theorem M3:rs.length≤4:=by
 obtain⟨hv,hs,hr⟩:=id H
 simp only[pw,hV] at hr
 have:=t0 hr.2;omega
theorem Qt {k:Nat} (hk:k<rs.length):kY (pD m.aX.length rs k)=true:=by
 obtain⟨hv,hs,hr⟩:=id H
 have h1:=Jh H hk
 obtain⟨c1,c2⟩:=zf H
 have h2:=yR (v:=(k:Int)) (n:=(m.aX.length:Int)) (by omega) (by omega)
 simp only[qZ,hV] at h1
 simp only[kY,pD,wM,h1.1,h1.2.1,h1.2.2,bp.2 (show(0:Int)≤Ur (k:Int) (m.aX.length:Int)∧Ur (k:Int) (m.aX.length:Int)≤5 from⟨h2.1,by omega⟩),UP,UQ]
 simp[inR,leB,oA,px,yx,gB,eqB,w1]
theorem Ro {k:Nat} (hk:k<rs.length):iJ (jp p rs k)=true:=by
 obtain⟨hv,hs,hr⟩:=id H
 have h1:=Jh H hk
 have hq:jb (⟨(k:Int),0,0⟩:cY)=true:=by simp[jb,leB]
 simp only[iJ,jp,h1,hs,hq,UP]
 have hp:sF (jp p rs k)=true:=by
  simp[sF,jp,Kv,hq,uN,w0,leB]
 simp only[jp] at hp
 rw[hp]
 simp[inR,leB,ltB,oA,jz,iY,BV,yx,gB,eqB,w1]
theorem Lc:iI (uC b)=true:=by
 obtain⟨hv,hs,hr⟩:=id H
 obtain⟨b1,b2⟩:=Qn b
 simp only[iI,uC,PC,NI,List.foldl_nil,Int.add_zero,bB (show-9223372036854775808≤vk b∧vk b≤9223372036854775807 by omega),bp.2 (show(0:Int)≤vk b∧vk b≤100000 from⟨b1,b2⟩),bp.2 (show(0:Int)≤vk b∧vk b≤vk b from⟨b1,by omega⟩),bp.2 (show(0:Int)≤0∧(0:Int)≤vk b from⟨by omega,b1⟩),be,UP,UQ]
 simp[leB,gB]
theorem QS {k:Nat} (hk:k<rs.length):xe (eZ m rs p b rs.length) k (pD m.aX.length rs k)=true:=by
 obtain⟨hv,hs,hr⟩:=id H
 obtain⟨c1,c2⟩:=zf H
 have h2:=yR (v:=(k:Int)) (n:=(m.aX.length:Int)) (by omega) (by omega)
 have hq:jb (⟨(k:Int),0,0⟩:cY)=true:=by simp[jb,leB]
 have e1:(eZ m rs p b rs.length).am[k]?=some (jp p rs k):=B6 _ hk
 have e2:(eZ m rs p b rs.length).aY[k]?=some (uC b):=B6 _ hk
 have i1:Ba (pD m.aX.length rs k) (jp p rs k)=true:=by simp[Ba,pD,jp]
 have i2:ew (eZ m rs p b rs.length).dW (pD m.aX.length rs k).aU=true:=bp.2 (show(0:Int)≤Ur (k:Int) (m.aX.length:Int)∧Ur (k:Int) (m.aX.length:Int)≤((m.aX.length:Nat):Int)-1 from⟨h2.1,by omega⟩)
 have i3:ew (eZ m rs p b rs.length).dW (jp p rs k).aU=true:=bp.2 (show(0:Int)≤0∧(0:Int)≤((m.aX.length:Nat):Int)-1 from⟨by omega,by omega⟩)
 have i4:vd (uC b) (jp p rs k).bO=true:=by
  have ha:=Lc (b:=b) H
  simp only[uC] at ha
  simp[vd,ha,jp,hq,gG,uC,eqB]
 have i5:eqB (jp p rs k).bO.au (k:Int)=true:=by simp[jp]
 simp only[xe,e1,e2,Qt H hk,Ro H hk,Lc (b:=b) H,i1,i2,i3,i4,i5,UQ]
theorem QY:mn (eZ m rs p b rs.length)=true:=by
 obtain⟨hv,hs,hr⟩:=id H
 obtain⟨c1,c2⟩:=zf H
 have hl:=M3 H
 have he:A7 (eZ m rs p b rs.length)=true:=by
  have:∀c:Nat,1≤c→c≤6→inR 0 0 (WR ((jZ .i64 1 ((c:Nat):Int))-1))=true:=by
   intro c h1 h2
   rcases(show c=1∨c=2∨c=3∨c=4∨c=5∨c=6 by omega) with rfl|rfl|rfl|rfl|rfl|rfl<;>kernel_rfl
  simp only[A7,eZ,this _ c1 c2,UP];simp[inR,leB]
 have hp:kZ (eZ m rs p b rs.length).dR=true:=by show kZ ⟨2,3⟩=true;kernel_rfl
 have ha:gB (xe (eZ m rs p b rs.length)) (eZ m rs p b rs.length).ai=true:=eo.2 fun k d hd=>by
  obtain⟨hk,rfl⟩:=vS hd
  exact QS H hk
 have hd:(eZ m rs p b rs.length).ai.length=rs.length:=by simp[eZ]
 have hse:(eZ m rs p b rs.length).am.length=rs.length:=by simp[eZ]
 have hac:(eZ m rs p b rs.length).aY.length=rs.length:=by simp[eZ]
 simp only[mn,show nr (eZ m rs p b rs.length).dW=true from hv,hp,ha,he,hd,hse,hac,be,leB_t.2 (show((rs.length:Nat):Int)≤4 by omega),UP,UQ]
 simp[eZ,leB,eqB]
end
end Go.AM
namespace Go.AM
open Go.Proofs
attribute [local simp] bz be bb
theorem wV:∀(l:List Int) (r:ByteArray),(l.foldl (fun r n=>r.push (UInt8.ofNat n.toNat)) r).data.toList=r.data.toList++l.map fun n=>UInt8.ofNat n.toNat
 |[],r=>by simp
 |x::l,r=>by
  rw[List.foldl_cons,wV l,TI]
  simp[ByteArray.push]
theorem Lr {a b:List Int} (ha:okB a) (hb:okB b) (h:rH a=rH b):a=b:=by
 have h1:=wV a ByteArray.empty
 have h2:=wV b ByteArray.empty
 have e:(a.foldl (fun r n=>r.push (UInt8.ofNat n.toNat)) ByteArray.empty).data.toList=(b.foldl (fun r n=>r.push (UInt8.ofNat n.toNat)) ByteArray.empty).data.toList:=by
  have:rH a=rH b:=h
  unfold rH at this;rw[this]
 rw[h1,h2] at e
 replace e:=List.append_cancel_left e
 clear h h1 h2
 induction a generalizing b with
 |nil=>cases b with
  |nil=>rfl
  |cons y b=>simp at e
 |cons x a ih=>cases b with
  |nil=>simp at e
  |cons y b=>
   simp only[TI,List.cons.injEq] at e
   have hx:=ha x (by simp)
   have hy:=hb y (by simp)
   have e1:=congrArg UInt8.toNat e.1
   simp only[sE] at hx hy
   rw[UInt8.toNat_ofNat',UInt8.toNat_ofNat'] at e1
   rw[ih (fun z hz=>ha z (by simp[hz])) (fun z hz=>hb z (by simp[hz])) e.2,show x=y by omega]
theorem Jq {a b:List Int} (ha:okB a) (hb:okB b):strB (rH a) (rH b)=decide (a=b):=by
 rw[Ut,strB_t,decide_eq_true_eq]
 exact⟨Lr ha hb,fun h=>by rw[h]⟩
theorem Pd {x y:av} (hx:okB x.aZ.aN) (hy:okB y.aZ.aN):oO x y=some (decide (x=y)):=by
 have key:(bif eqB x.aa y.aa then bif eqB x.aR y.aR then bif eqB x.aZ.c9 y.aZ.c9 then bif eqB x.aZ.fx y.aZ.fx then bif eqB x.aZ.im y.aZ.im then decide (x.aZ.aN=y.aZ.aN) else false else false else false else false else false)=decide (x=y):=by
  rw[Ut]
  obtain⟨g,e,⟨a,b,c,d⟩⟩:=x
  obtain⟨g',e',⟨a',b',c',d'⟩⟩:=y
  simp only[eqB,cond_eq_ite]
  simp only[decide_eq_true_eq,av.mk.injEq,bG.mk.injEq]
  constructor
  ·intro h
   split at h<;>try (cases h;done)
   split at h<;>try (cases h;done)
   split at h<;>try (cases h;done)
   split at h<;>try (cases h;done)
   split at h<;>try (cases h;done)
   simp_all
  ·rintro⟨rfl,rfl,rfl,rfl,rfl,rfl⟩;simp
 rw[←key]
 simp only[oO,pJ,lY,Jq hx hy]
 cases eqB x.aa y.aa<;>cases eqB x.aR y.aR<;>cases eqB x.aZ.c9 y.aZ.c9<;>cases eqB x.aZ.fx y.aZ.fx<;>cases eqB x.aZ.im y.aZ.im<;>rfl
def Nn (a b:az):Bool:=(eqB a.aP b.aP&&(eqB a.aU b.aU&&(eqB a.aa b.aa&&(eqB a.aR b.aR&&(eqB a.bM b.bM&&(eqB a.bQ.eJ b.bQ.eJ&&(eqB a.bQ.gx b.bQ.gx&&(eqB a.bQ.im b.bQ.im&&(eqB a.bQ.ug b.bQ.ug&&(eqB a.bQ.eP b.bQ.eP&&(eqB a.im b.im&&true)))))))))))
theorem Pw (a b:az):Nn a b=decide (a=b):=by
 rw[Ut]
 obtain⟨a1,a2,a3,a4,a5,⟨v1,v2,v3,v4,v5⟩,a6⟩:=a
 obtain⟨b1,b2,b3,b4,b5,⟨w1,w2,w3,w4,w5⟩,b6⟩:=b
 simp only[Nn,hV,eqB_t,decide_eq_true_eq,az.mk.injEq,cH.mk.injEq]
 constructor
 ·rintro⟨rfl,rfl,rfl,rfl,rfl,rfl,rfl,rfl,rfl,rfl,rfl,_⟩;simp
 ·rintro⟨rfl,rfl,rfl,rfl,rfl,⟨rfl,rfl,rfl,rfl,rfl⟩,rfl⟩;simp
theorem Rl {x y:bJ} (hx:okB x.b7.aZ.aN) (hy:okB y.b7.aZ.aN):kU x y=some (decide (x=y)):=by
 have key:(eqB x.a9 y.a9&&(booB x.eb y.eb&&(booB x.di y.di&&(eqB x.aU y.aU&&(Nn x.aV y.aV&&decide (x.b7=y.b7))))))=decide (x=y):=by
  rw[Ut]
  obtain⟨a1,a2,a3,a4,a5,a6⟩:=x
  obtain⟨b1,b2,b3,b4,b5,b6⟩:=y
  simp only[Pw,hV,eqB_t,booB_t,decide_eq_true_eq,bJ.mk.injEq]
 rw[←key]
 simp only[kU,Pd hx hy,Up]
 rw[show(eqB x.aV.aP y.aV.aP&&(eqB x.aV.aU y.aV.aU&&(eqB x.aV.aa y.aV.aa&&(eqB x.aV.aR y.aV.aR&&(eqB x.aV.bM y.aV.bM&&(eqB x.aV.bQ.eJ y.aV.bQ.eJ&&(eqB x.aV.bQ.gx y.aV.bQ.gx&&(eqB x.aV.bQ.im y.aV.bQ.im&&(eqB x.aV.bQ.ug y.aV.bQ.ug&&(eqB x.aV.bQ.eP y.aV.bQ.eP&&(eqB x.aV.im y.aV.im&&true)))))))))))=Nn x.aV y.aV from rfl]
 cases eqB x.a9 y.a9<;>cases booB x.eb y.eb<;>cases booB x.di y.di<;>cases eqB x.aU y.aU<;>cases Nn x.aV y.aV<;>rfl
def hUp (s:ag) (m:az):Bool:=
 bif eqB m.aP 3 then leB m.aa s.bv.cO&&(!eqB m.aa s.bC||!eqB m.bM s.aD.ug) else
 bif eqB m.aP 5||eqB m.aP 8 then ltB m.aa s.aa||(eqB m.aa s.aa&&!tg s.aJ m) else true
def BS (d:ay) (m:az):Bool:=
 bif eqB m.aP 2 then eqB (i6 d.dq.eP d.dq.dw m.bQ) 1||eqB (i6 d.dq.eP d.dq.dw m.bQ) 2 else
 bif eqB m.aP 4||eqB m.aP 6 then ltB m.aa d.aa||(eqB m.aa d.aa&&!tg d.aJ m) else true
def E9 (d:ay) (x:av):Bool:=ltB x.aa d.aa||(eqB x.aa d.aa&&!tf d.aJ x)
def Ma (n:ab) (f:bJ):Bool:=match n.ai[f.a9.toNat]?,n.am[f.a9.toNat]? with
 |some d,some s=>bif f.di then f.eb||E9 d f.b7 else bif f.eb then hUp s f.aV else BS d f.aV
 |_,_=>true
def nO (n:ab) (e:cX):Bool:=!eqB e.aP 13||(!ur n e.bk||(n.aQ.any (fun f=>decide (f=e.bk))||Ma n e.bk))
theorem hUp_s (s:ag) (m:az):kW s m=some (hUp s m):=by
 simp only[kW,D7,Up,hUp]
 cases eqB m.aP 3<;>cases eqB m.aP 5<;>cases eqB m.aP 8<;>cases leB m.aa s.bv.cO<;>cases eqB m.aa s.bC<;>cases ltB m.aa s.aa<;>cases eqB m.aa s.aa<;>rfl
theorem OL {d:ay} (m:az):iX d m=some (BS d m):=by
 simp only[iX,D7,Jy,Up,BS]
 cases eqB m.aP 2<;>cases eqB m.aP 4<;>cases eqB m.aP 6<;>cases eqB (i6 d.dq.eP d.dq.dw m.bQ) 1<;>cases ltB m.aa d.aa<;>cases eqB m.aa d.aa<;>rfl
theorem Rc {B:Int} {n:ab} (h:NP B n) (f:bJ):gV n f=some (ur n f):=by
 have hm6:=kn h.map
 have hl:=h.ld
 simp only[gV,ur,et,bB (n:=((n.dW.aX.length:Nat):Int)-1) (by omega),bB (n:=((n.ai.length:Nat):Int)-1) (by omega),Up]
 rw[show inR f.aU 0 (((n.dW.aX.length:Nat):Int)-1)=ew n.dW f.aU from rfl]
 cases ltB ((n.aQ.length:Nat):Int) 200<;>cases inR f.a9 0 (((n.ai.length:Nat):Int)-1)<;>rfl
theorem OQ {B:Int} {n:ab} (h:NP B n) {e:cX} (he:EP e):oP n e=some (nO n e):=by
 have hfl:=h.fl
 simp only[oP,Kk h.okN,h.vn,Rc h,Up,nO]
 cases eqB e.aP 13
 ·rfl
 cases hp:ur n e.bk
 ·rfl
 simp only[TF,cond_false,Up,TL]
 simp only[ur,hV,bp] at hp
 obtain⟨d,s,a,e1,e2,e3,hm⟩:=h.at_ (show e.bk.a9.toNat<n.ai.length by omega)
 have hdev:=LG e.bk.a9 hp.2.1.1
 have i1:ix n.ai e.bk.a9=some d:=by rw[hdev,bb];exact e1
 have i2:ix n.am e.bk.a9=some s:=by rw[hdev,bb];exact e2
 have:=lc (L:=kt n e) n.aQ (fun _ f=>!decide (f=e.bk)) true (some (Ma n e.bk)) (by omega) (fun k x hx hk=>by
  have hx':=h.fs x (RS hx)
  simp only[kt,cR hk,bb,hx,Rl hx'.b he.r,cp (show k<9223372036854775807 by omega),Up,cond_true,dn]
  cases decide (x=e.bk)<;>rfl) (by
  simp only[kt,bz,cond_false,i1,i2,hUp_s,OL,rD he.r,Up,Ma,e1,e2,E9]
  cases e.bk.di<;>cases e.bk.eb<;>cases ltB e.bk.b7.aa d.aa<;>cases eqB e.bk.b7.aa d.aa<;>rfl)
 rw[this,rO]
 rw[show n.aQ.all (fun f=>!decide (f=e.bk))=!n.aQ.any (fun f=>decide (f=e.bk)) by rw[←List.not_any_eq_all_not]]
 cases n.aQ.any (fun f=>decide (f=e.bk))<;>rfl
end Go.AM
namespace Go.AM
open Go.Proofs
attribute [local simp] bz be bb
theorem RO {c:aH} (h:cL c):Wp (ww c) (fun r=>cL r.2∧r.1.bF.length≤4∧py r.1=true):=by
 unfold ww
 refine Wp.call (dx h (by omega)) fun r1 h1=>Wp.call (dx h1.1 (by omega)) fun r2 h2=>Wp.call (dx h2.1 (by omega)) fun r3 h3=>?_
 refine Wp.call (P:=fun x=>cL x.2∧x.1.length≤4∧(∀a∈x.1,0≤a∧a≤3)∧x.1.Pairwise fun a b=>a<b) ?_ ?_
 ·refine Wp.iterF (fun x=>(0≤x.1∧x.1≤4)∧cL x.2.2∧(x.2.1.length:Int)≤x.1∧(∀a∈x.2.1,0≤a∧a<x.1)∧x.2.1.Pairwise fun a b=>a<b) (fun x=>(4-x.1).toNat) ⟨⟨by omega,by omega⟩,h3.1,by simp,by simp,by simp⟩ (by simp) ?_
  rintro⟨v4,v8,v9⟩ ⟨⟨i0,i1⟩,i2,i3,i4,i5⟩
  simp only at i0 i1 i2 i3 i4 i5
  simp only[yc]
  refine Wp.cond (fun hb=>?_) (fun hb=>Wp.some ⟨i2,by show v8.length≤4;omega,fun a ha=>by have:=i4 a ha;omega,i5⟩)
  have hb:=km hb
  refine Wp.call (th i2 (by omega)) fun r15 h15=>?_
  refine Wp.call (P:=fun x=>(x.length:Int)≤v4+1∧(∀a∈x,0≤a∧a<v4+1)∧x.Pairwise fun a b=>a<b) ?_ fun x hx=>Wp.some ⟨⟨⟨?_,?_⟩,h15,?_,?_,hx.2.2⟩,?_⟩
  ·refine Wp.cond (fun _=>Wp.ok (fB (by simp;omega) (by simp;omega)) (Wp.some ⟨by simp;omega,fun a ha=>?_,?_⟩)) (fun _=>Wp.some ⟨by omega,fun a ha=>by have:=i4 a ha;omega,i5⟩)
   ·rcases List.mem_append.1 ha with ha|ha
    ·have:=i4 a ha;omega
    ·simp at ha;omega
   ·refine List.pairwise_append.2 ⟨i5,by simp,fun x hx y hy=>?_⟩
    simp at hy;have:=i4 x hx;omega
  all_goals simp only[bB (show-9223372036854775808≤v4+1∧v4+1≤9223372036854775807 by omega)]
  ·omega
  ·omega
  ·exact hx.1
  ·exact hx.2.1
  ·omega
 ·rintro⟨x,c2⟩ ⟨k1,k2,k3,k4⟩
  simp only at k1 k2 k3 k4
  refine Wp.some ⟨k1,k2,?_⟩
  simp only[py,zZ,hV,bp,eo]
  rw[bB (show-9223372036854775808≤1+r1.1∧1+r1.1≤9223372036854775807 by omega),bB (show-9223372036854775808≤1+r2.1∧1+r2.1≤9223372036854775807 by omega),bB (show-9223372036854775808≤1+r3.1∧1+r3.1≤9223372036854775807 by omega)]
  refine⟨⟨by omega,by omega,by omega⟩,fun k a ha=>⟨k3 a (RS ha),yK (key:=id) (by simpa using k4) ha⟩⟩
theorem NZ {c:aH} (h:cL c):Wp (jy c) (fun r=>cL r.2∧(1≤r.1.length∧r.1.length≤3)∧pw r.1=true∧∀y∈r.1,y.cO≤20):=by
 unfold jy
 refine Wp.call (dx h (by omega)) fun r1 h1=>?_
 have hw:WR (1+r1.1)=1+r1.1:=bB (by omega)
 refine Wp.call (P:=fun x=>cL x.2∧(x.1.length:Int)=1+r1.1∧∀(k:Nat) y,x.1[k]?=some y→qZ y=true∧y.ID.bM=1+r1.1-k∧y.cO≤20) ?_ ?_
 ·refine Wp.iterF (fun x=>0≤x.1∧cL x.2.2∧(x.2.1.length:Int)+x.1=1+r1.1∧∀(k:Nat) y,x.2.1[k]?=some y→qZ y=true∧y.ID.bM=1+r1.1-k∧y.cO≤20) (fun x=>x.1.toNat) ⟨by rw[hw];omega,h1.1,by rw[hw];simp,by simp⟩ (by simp only;rw[hw];omega) ?_
  rintro⟨v2,v6,v7⟩ ⟨i0,i2,i3,i4⟩
  simp only at i0 i2 i3 i4
  simp only[ox]
  refine Wp.cond (fun hb=>?_) (fun hb=>Wp.some ⟨i2,by have:=oF hb;show(v6.length:Int)=_;omega,i4⟩)
  have hb:=km hb
  have hkey:Wp (vb v7) (fun r=>cL r.2∧oA r.1=true):=by
   unfold vb
   exact Wp.call (dx i2 (by omega)) fun r1 h1=>Wp.some ⟨h1.1,bp.2 (by rw[bB (by omega)];omega)⟩
  refine Wp.call hkey fun r13 h13=>Wp.call (dx h13.1 (by omega)) fun r14 h14=>Wp.ok (fB (by simp;omega) (by simp;omega)) (Wp.some ⟨⟨?_,h14.1,?_,fun k y hy=>?_⟩,?_⟩)
  rotate_left 2
  ·rw[List.getElem?_append] at hy
   split at hy
   ·exact i4 k y hy
   ·rename_i hk
    have hk0:k-v6.length=0:=by
     have:=(List.getElem?_eq_some_iff.1 hy).1
     simp at this;omega
    rw[hk0] at hy
    simp at hy;subst hy
    simp only[qZ,HQ,hV,bp]
    exact⟨⟨⟨by omega,by omega⟩,h13.2,by omega⟩,by omega,by omega⟩
  all_goals simp only[bB (show-9223372036854775808≤v2-1∧v2-1≤9223372036854775807 by omega)]
  ·omega
  ·omega
  ·simp;omega
 ·rintro⟨x,c2⟩ ⟨k1,k2,k3⟩
  simp only at k1 k2 k3
  refine Wp.some ⟨k1,by show 1≤x.length∧x.length≤3;omega,?_,fun y hy=>by obtain⟨k,hk⟩:=SS hy;exact(k3 k y hk).2.2⟩
  simp only[pw,hV,eo,xQ]
  refine⟨fun k y hy=>⟨(k3 k y hy).1,fun i z hz=>?_⟩,leB_t.2 (by omega)⟩
  obtain⟨hz1,hz2⟩:=Gp hz
  have e1:=(k3 k y hy).2.1
  have e2:=(k3 i z hz1).2.1
  have:eqB z.ID.bM y.ID.bM=false:=eqB_f.2 (by omega)
  simp[uX,this]
inductive Reach:Nat→ab→Prop
 |new {m:aK} {rs:List aC} {p:bA} {b:Int} (h:nr m=true∧py p=true∧pw rs=true) (hm:fK m) (hp:eg p) (hl:1≤rs.length∧rs.length≤3) (hq:∀y∈rs,y.cO≤20):Reach 0 (eZ m rs p b rs.length)
 |step {k:Nat} {n:ab} {e:cX}:Reach k n→EP e→nO n e=true→Reach (k+1) (i9 n e).2
def FS (n:ab) (e:cX):Prop:=e.aP=13→e.bk.di=true→e.bk.eb=false∧∃d,n.ai[e.bk.a9.toNat]?=some d∧e.bk.b7.aa=d.aa∧tf d.aJ e.bk.b7=false
theorem zy (n:ab) {e:cX} (h:e.aP≠13):FS n e:=fun h1=>absurd h1 h
inductive wQ:Nat→ab→Prop
 |new {m:aK} {rs:List aC} {p:bA} {b:Int} (h:nr m=true∧py p=true∧pw rs=true) (hm:fK m) (hp:eg p) (hl:1≤rs.length∧rs.length≤3) (hq:∀y∈rs,y.cO≤20):wQ 0 (eZ m rs p b rs.length)
 |step {k:Nat} {n:ab} {e:cX}:wQ k n→EP e→nO n e=true→FS n e→wQ (k+1) (i9 n e).2
theorem wQ.re:∀{k:Nat} {n:ab},wQ k n→Reach k n
 |_,_,.new h hm hp hl hq=>.new h hm hp hl hq
 |_,_,.step h he hh _=>.step h.re he hh
theorem Reach.np:∀{k:Nat} {n:ab},Reach k n→k≤1000000→NP (10000*(k:Int)) n
 |_,_,.new (m:=m) (rs:=rs) (p:=p) (b:=b) h hm hp hl _,_=>by
  have ok:iB (eZ m rs p b rs.length):=okN hm hp (by omega)
  have v:=QY (b:=b) h
  have by':BY (eZ m rs p b rs.length):=by
   refine⟨fun d hd=>?_,fun d hd=>?_,fun s hs=>?_,fun s hs=>?_,by simp[eZ]⟩
   ·simp only[eZ,TM] at hd;obtain⟨j,_,rfl⟩:=hd;simp[pD]
   ·simp only[eZ,TM] at hd;obtain⟨j,_,rfl⟩:=hd;simp[pD]
   ·simp only[eZ,TM] at hs;obtain⟨j,_,rfl⟩:=hs;simp[jp]
   ·simp only[eZ,TM] at hs;obtain⟨j,_,rfl⟩:=hs;simp[jp]
  exact(NP.of ok v by').mono (by show(0:Int)≤_;omega)
 |_,_,.step (k:=k) h he _,hk=>by
  have:=(yZ (h.np (by omega)) he (by omega)).2.2
  exact this.mono (by omega)
theorem zu {k i c:Int} {b:List Int} (hb:okB b):EP ⟨k,i,c,b,mr⟩:=⟨hb,Eg,fun x hx=>by simp[mr,d8,iZ] at hx⟩
theorem sj (n:ab) {e:cX} (h:e.aP≠13):nO n e=true:=by
 rw[nO,eqB_f.2 h];rfl
theorem Pa {B:Int} {n:ab} (h:NP B n) {i:Nat} {s:ag} (hs:n.am[i]?=some s) (b:List Int):(i9 n ⟨8,i,0,b,mr⟩).2={n with am:=n.am.set i (pL s b).1}:=by
 have hi:=(List.getElem?_eq_some_iff.1 hs).1
 have hls:=h.ls
 obtain⟨d,s',a,e1,e2,e3,hm⟩:=h.at_ (show i<n.ai.length by omega)
 have hr:inR (i:Int) 0 (((n.ai.length:Nat):Int)-1)=true:=bp.2 (by omega)
 simp only[i9]
 rw[if_neg (show ¬(8:Int)=1 by omega),if_neg (show ¬((8:Int)=2∨(8:Int)=3∨(8:Int)=4) by omega),if_pos (show(8:Int)=5∨(8:Int)=6∨(8:Int)=7∨True by simp)]
 simp only[zS,hr,Us,e1,hs,FG,FH,FJ,TF,cond_false]
 cases hb:(pL s b).2
 ·have hs':(pL s b).1=s:=by
   revert hb;rw[pL];cases leB 24 ((s.ao.length:Nat):Int)||ltB 60 ((b.length:Nat):Int)
   ·intro hb;cases hb
   ·intro _;rfl
  simp only[cond_false,hs',dK hs]
 ·rfl
theorem Q9 {B:Int} {n:ab} (h:NP B n) {i:Nat} {d:ay} (hd:n.ai[i]?=some d):(i9 n ⟨5,i,0,[],mr⟩).2=fL n i (dOn d):=by
 have hi:=(List.getElem?_eq_some_iff.1 hd).1
 obtain⟨d',s,a,e1,e2,e3,hm⟩:=h.at_ hi
 have hr:inR (i:Int) 0 (((n.ai.length:Nat):Int)-1)=true:=bp.2 (by omega)
 simp only[i9]
 rw[if_neg (show ¬(5:Int)=1 by omega),if_neg (show ¬((5:Int)=2∨(5:Int)=3∨(5:Int)=4) by omega),if_pos (show True∨(5:Int)=6∨(5:Int)=7∨(5:Int)=8 by simp)]
 simp only[zS,hr,Us,hd,e2,be,TF,cond_false,cond_true]
 cases hb:eqB d.bg 0
 ·simp only[UO,cond_true,fL,dOn,hb,cond_false,dK hd,TN];rfl
 ·rfl
end Go.AM
namespace Go.AM
open Go.Proofs
attribute [local simp] bz be bb
def RN (B:Nat) (l:Nat) (n:ab):Prop:=∃k,wQ k n∧k≤B∧n.ai.length=l
theorem RN.np {B l:Nat} {n:ab} (h:RN B l n) (hB:B≤1000000):∃b:Int,NP b n∧b≤10000000000:=by
 obtain⟨k,h1,h2,_⟩:=h
 exact⟨_,h1.re.np (by omega),by omega⟩
theorem RN.sub {B l:Nat} {n:ab} (h:RN B l n) (hB:B≤1000000) {i:Nat} {s:ag} (hs:n.am[i]?=some s) {b:List Int} (hb:okB b):RN (B+1) l {n with am:=n.am.set i (pL s b).1}:=by
 obtain⟨b',hn,_⟩:=h.np hB
 obtain⟨k,h1,h2,h3⟩:=h
 have:=wQ.step h1 (zu (k:=8) (i:=(i:Int)) (c:=0) hb) (sj n (by simp)) (zy n (by simp))
 rw[Pa hn hs b] at this
 exact⟨_,this,by omega,h3⟩
theorem RN.on {B l:Nat} {n:ab} (h:RN B l n) (hB:B≤1000000) {i:Nat} {d:ay} (hd:n.ai[i]?=some d):RN (B+1) l (fL n i (dOn d)):=by
 obtain⟨b',hn,_⟩:=h.np hB
 obtain⟨k,h1,h2,h3⟩:=h
 have:=wQ.step h1 (zu (k:=5) (i:=(i:Int)) (c:=0) (b:=[]) (fun x hx=>by simp at hx)) (sj n (by simp)) (zy n (by simp))
 rw[Q9 hn hd] at this
 exact⟨_,this,by omega,by rw[(lr n i (dOn d)).1];exact h3⟩
def RZ (B:Nat) (l:Nat) (n:ab):Prop:=∃k,wQ k n∧k≤B∧n.ai.length=l∧n.dh=0
theorem RZ.rn {B l:Nat} {n:ab} (h:RZ B l n):RN B l n:=by
 obtain⟨k,h1,h2,h3,_⟩:=h;exact⟨k,h1,h2,h3⟩
theorem RZ.np {B l:Nat} {n:ab} (h:RZ B l n) (hB:B≤1000000):∃b:Int,NP b n∧b≤10000000000:=h.rn.np hB
theorem RZ.sub {B l:Nat} {n:ab} (h:RZ B l n) (hB:B≤1000000) {i:Nat} {s:ag} (hs:n.am[i]?=some s) {b:List Int} (hb:okB b):RZ (B+1) l {n with am:=n.am.set i (pL s b).1}:=by
 obtain⟨k,h1,h2,h3⟩:=h.rn.sub hB hs hb
 exact⟨k,h1,h2,h3,h.choose_spec.2.2.2⟩
theorem RZ.on {B l:Nat} {n:ab} (h:RZ B l n) (hB:B≤1000000) {i:Nat} {d:ay} (hd:n.ai[i]?=some d):RZ (B+1) l (fL n i (dOn d)):=by
 obtain⟨k,h1,h2,h3⟩:=h.rn.on hB hd
 exact⟨k,h1,h2,h3,(gT ((dOn d).dD.map (hU i true)) {n with ai:=n.ai.set i (dOn d).a9}).2.2.2.2.1.trans h.choose_spec.2.2.2⟩
theorem PF {c:aH} (h:cL c):Wp (wD c) (fun r=>cL r.2∧∃l,(1≤l∧l≤3)∧RZ 40 l r.1):=by
 unfold wD
 refine Wp.call (RO h) fun r1 h1=>?_
 have hp:eg r1.1:=⟨by have:=h1.2.1;omega,fun _ _=>trivial⟩
 refine Wp.call (P:=fun x=>cL x.2.2.2.2.2.2.2.1∧∃l,(1≤l∧l≤3)∧RZ 0 l ⟨⟨x.2.2.2.2.2.2.1⟩,x.2.2.2.2.2.1,x.2.2.2.2.1,x.2.2.2.1,[],x.1,x.2.2.2.2.2.2.2.2,x.2.1,x.2.2.1⟩) ?_ ?_
 ·refine Wp.call (NY h1.1) fun r16 h16=>Wp.call (NZ h16.1) fun r17 h17=>Wp.call (dx h17.1 (by omega)) fun r18 h18=>?_
  have hv:nr r16.1=true∧py r1.1=true∧pw r17.1=true:=⟨h16.2.2,h1.2.2,h17.2.2.1⟩
  have hl:=h17.2.1
  rw[new_s h16.2.1 (by omega) hp,hv.1,hv.2.1,hv.2.2]
  refine Wp.some ⟨h18.1,r17.1.length,hl,0,?_,Nat.le_refl _,by simp[eZ]⟩
  exact wQ.new (b:=WR (30+r18.1)) hv h16.2.1 hp hl h17.2.2.2
 rintro⟨v5,v8,v9,v10,v11,v12,v13,v14,v15⟩ ⟨hc,l,hl,hr⟩
 simp only at hc hr
 refine Wp.call (P:=fun x=>cL x.1∧RZ 40 l x.2) ?_ fun x hx=>Wp.some ⟨hx.1,l,hl,hx.2⟩
 refine Wp.iterF (fun x=>(0≤x.1∧x.1≤(l:Int))∧cL x.2.1∧RZ (7*x.1.toNat) l x.2.2) (fun x=>((l:Int)-x.1).toNat) ⟨⟨by simp only;omega,by simp only;omega⟩,hc,hr⟩ (by simp only;omega) ?_
 rintro⟨v20,v34,n⟩ ⟨⟨i0,i1⟩,i2,i3⟩
 simp only at i0 i1 i2 i3
 obtain⟨b,hn,hb⟩:=i3.np (by omega)
 have hdl:n.ai.length=l:=i3.choose_spec.2.2.1
 simp only[AK]
 refine Wp.cond (fun hb=>?_) (fun hb=>Wp.some ⟨i2,?_⟩)
 rotate_left
 ·obtain⟨k,g1,g2,g3⟩:=i3;exact⟨k,g1,by omega,g3⟩
 have hb:=km hb
 obtain⟨q,rfl⟩:∃q:Nat,v20=q:=⟨v20.toNat,by omega⟩
 refine Wp.call (dx i2 (by omega)) fun r117 h117=>?_
 refine Wp.call (P:=fun x=>cL x.2∧RZ (7*q+6) l {n with am:=x.1}) ?_ ?_
 ·refine Wp.iterF (fun x=>(0≤x.1∧x.1≤6)∧cL x.2.2∧RZ (7*q+(6-x.1.toNat)) l {n with am:=x.2.1}) (fun x=>x.1.toNat) ⟨⟨by simp only;omega,by simp only;omega⟩,h117.1,?_⟩ (by simp only;omega) ?_
  ·obtain⟨k,g1,g2,g3⟩:=i3;exact⟨k,g1,by simp only[Us] at g2;omega,g3⟩
  rintro⟨v118,v122,v123⟩ ⟨⟨j0,j1⟩,j2,j3⟩
  simp only at j0 j1 j2 j3
  simp only[AL]
  refine Wp.cond (fun hc=>?_) (fun hc=>Wp.some ⟨j2,?_⟩)
  rotate_left
  ·obtain⟨k,g1,g2,g3⟩:=j3;exact⟨k,g1,by omega,g3⟩
  have hc:=km hc
  obtain⟨b',hn',_⟩:=j3.np (by omega)
  have hls:=hn'.ls
  simp only at hls
  obtain⟨s,hs⟩:∃s,v122[q]?=some s:=⟨_,v0 (by omega)⟩
  obtain⟨d',s',a',e1,e2,e3,hm⟩:=hn'.at_ (i:=q) (by simp only;omega)
  simp only at e1 e2 e3
  rw[hs] at e2;cases e2
  simp only[bb,hs,Up]
  refine Wp.call (dx j2 (by omega)) fun r135 h135=>Wp.call (N0 h135.1 h135.2.1 (by omega)) fun r136 h136=>?_
  rw[Qd hm.sg.sp.ok]
  simp only[Up,Us]
  refine Wp.some ⟨⟨⟨?_,?_⟩,h136.1,?_⟩,?_⟩
  all_goals simp only[bB (show-9223372036854775808≤v118-1∧v118-1≤9223372036854775807 by omega)]
  ·omega
  ·omega
  ·have:=j3.sub (by omega) (i:=q) hs h136.2.1
   obtain⟨k,g1,g2,g3⟩:=this
   exact⟨k,g1,by omega,g3⟩
  ·omega
 rintro⟨v132,v133⟩ ⟨k1,k2⟩
 simp only at k1 k2
 obtain⟨b',hn',_⟩:=k2.np (by omega)
 obtain⟨d,hd⟩:∃d,n.ai[q]?=some d:=⟨_,v0 (by omega)⟩
 obtain⟨d',s',a',e1,e2,e3,hm⟩:=hn'.at_ (i:=q) (by simp only;omega)
 simp only at e1
 rw[hd] at e1;cases e1
 refine Wp.call (th k1 (by omega)) fun r139 h139=>?_
 refine Wp.call (P:=fun x=>RZ (7*q+7) l x) ?_ fun x hx=>Wp.some ⟨⟨⟨?_,?_⟩,h139,?_⟩,?_⟩
 ·refine Wp.cond (fun _=>?_) (fun _=>Wp.some ?_)
  ·simp only[bb,hd,on_s hm.dp.ok,Up,Us]
   have hlen:=(GM d).len
   have:=fy (step:=ov (q:Int) (dOn d)) (dOn d).dD (fun k n=>((k:Int),n)) (fun n x=>Un (eM n (hU (q:Int) true x)) fun r=>some (.next r)) some (by omega)
    (fun k x n hx hk=>by
     simp only[ov,cR hk,bb,hx,Up,cond_true,cp (show k<9223372036854775807 by omega),hU]
     cases eM n ⟨(q:Int),true,false,x.aU,x,d8⟩<;>rfl) (fun n=>by simp[ov]) {n with ai:=n.ai.set q (dOn d).a9,am:=v132}
   rw[w7 eM (hU (q:Int) true) (fun n x=>vL (DQ (q:Int) true x))] at this
   rw[show iter (ov (q:Int) (dOn d)) FU (0,{n with ai:=n.ai.set q (dOn d).a9,am:=v132})=_ from this]
   exact Wp.some (k2.on (by omega) (i:=q) hd)
  ·obtain⟨k,g1,g2,g3⟩:=k2;exact⟨k,g1,by omega,g3⟩
 all_goals simp only[bB (show-9223372036854775808≤(q:Int)+1∧(q:Int)+1≤9223372036854775807 by omega)]
 ·omega
 ·omega
 ·obtain⟨k,g1,g2,g3⟩:=hx;exact⟨k,g1,by omega,g3⟩
 ·omega
theorem RH {c:aH} (h:cL c):Wp (wD c) (fun r=>cL r.2∧∃l,(1≤l∧l≤3)∧RN 40 l r.1):=
 Wp.mono (PF h) fun r ⟨h1,l,h2,h3⟩=>⟨h1,l,h2,h3.rn⟩
end Go.AM
namespace Go.AM
open Go.Proofs
attribute [local simp] bz be bb
abbrev C2 {α:Type} (r:α×aH):Prop:=cL r.2
abbrev C1 {α:Type} (r:aH×α):Prop:=cL r.1
theorem HS {c:aH} (h:cL c):Wp (tO c) C2:=by
 unfold tO
 refine Wp.call (th h (by omega)) fun r1 h1=>Wp.cond (fun _=>Wp.call (PG h1 (by simp)) fun r2 h2=>Wp.some h2.1) (fun _=>?_)
 refine Wp.call (th h1 (by omega)) fun r3 h3=>Wp.cond (fun _=>Wp.call (PG h3 (by simp)) fun r2 h2=>Wp.some h2.1) (fun _=>?_)
 exact Wp.call (dx h3 (by omega)) fun r5 h5=>Wp.call (dx h5.1 (by omega)) fun r6 h6=>Wp.some h6.1
theorem w5Seq {c:aH} (h:cL c):Wp (D1 c) C2:=by
 unfold D1
 refine Wp.call (th h (by omega)) fun r1 h1=>Wp.cond (fun _=>Wp.call (PG h1 (by simp)) fun r2 h2=>Wp.some h2.1) (fun _=>?_)
 exact Wp.call (dx h1 (by omega)) fun r5 h5=>Wp.some h5.1
theorem w5Vec {c:aH} (h:cL c):Wp (tQ c) C2:=by
 unfold tQ
 refine Wp.call (wKey h) fun r1 h1=>Wp.call (dx h1 (by omega)) fun r2 h2=>Wp.call (w5Seq h2.1) fun r3 h3=>?_
 rw[JA]
 simp only[Up]
 refine Wp.call (dx h3 (by omega)) fun r5 h5=>?_
 refine Wp.call (P:=C1) ?_ fun x hx=>Wp.some hx
 refine Wp.cond (fun _=>Wp.call (HS h5.1) fun r h=>Wp.some h) (fun _=>?_)
 refine Wp.call (P:=C1) ?_ fun x hx=>Wp.some hx
 refine Wp.cond (fun _=>Wp.call (PG h5.1 (by simp)) fun r h=>Wp.some h.1) (fun _=>?_)
 refine Wp.call (P:=fun _=>True) (Wp.cond (fun _=>Wp.some trivial) (fun _=>Wp.some trivial)) fun x _=>Wp.some h5.1
theorem w30 {c:aH} (h:cL c) (s:ag):Wp (qT c s) C2:=by
 unfold qT
 refine Wp.call (dx h (by omega)) fun r1 h1=>Wp.call (dx h1.1 (by omega)) fun r2 h2=>Wp.call (dx h2.1 (by omega)) fun r3 h3=>Wp.call (dx h3.1 (by omega)) fun r4 h4=>?_
 refine Wp.call (P:=C1) ?_ fun x hx=>?_
 ·refine Wp.cond (fun _=>Wp.some h4.1) (fun _=>?_)
  refine Wp.call (P:=C2) ?_ fun x hx=>Wp.some hx
  refine Wp.cond (fun _=>?_) (fun _=>Wp.some h4.1)
  refine Wp.call (dx h4.1 (by omega)) fun r17 h17=>Wp.call (dx h17.1 (by omega)) fun r18 h18=>?_
  rw[Fo];exact Wp.some h18.1
 ·obtain⟨v10,v11⟩:=x
  simp only[xA,Up]
  replace hx:cL _:=hx
  refine Wp.call (dx hx (by omega)) fun r21 h21=>?_
  refine Wp.call (P:=C1) ?_ fun x hx=>Wp.some hx
  refine Wp.cond (fun _=>Wp.call (HS h21.1) fun r h=>Wp.some h) (fun _=>?_)
  refine Wp.call (P:=fun _=>True) ?_ fun x _=>Wp.some h21.1
  refine Wp.cond (fun _=>Wp.some trivial) (fun _=>?_)
  exact Wp.call (P:=fun _=>True) (Wp.cond (fun _=>Wp.some trivial) (fun _=>Wp.some trivial)) fun x _=>Wp.some trivial
theorem w29 {c:aH} (h:cL c) (d:ay):Wp (yO c d) C2:=by
 unfold yO
 refine Wp.call (dx h (by omega)) fun r1 h1=>?_
 refine Wp.call (P:=C1) ?_ fun x hx=>?_
 ·refine Wp.cond (fun _=>?_) (fun _=>?_)
  ·rw[Ls]
   simp only[Up]
   rw[JA]
   simp only[Up]
   refine Wp.call (th h1.1 (by omega)) fun r20 h20=>?_
   refine Wp.call (P:=C1) ?_ fun x hx=>Wp.some hx
   exact Wp.cond (fun _=>Wp.call (w5Vec h20) fun r h=>Wp.some h) (fun _=>Wp.some h20)
  ·refine Wp.call (P:=C2) ?_ fun x hx=>Wp.some hx
   exact Wp.cond (fun _=>Wp.call (dx h1.1 (by omega)) fun r h=>Wp.some h.1) (fun _=>Wp.some h1.1)
 ·obtain⟨v16,v17⟩:=x
  simp only[xA,Up]
  replace hx:cL _:=hx
  refine Wp.call (dx hx (by omega)) fun r39 h39=>?_
  refine Wp.call (P:=C1) ?_ fun x hx=>Wp.some hx
  refine Wp.cond (fun _=>Wp.call (HS h39.1) fun r h=>Wp.some h) (fun _=>?_)
  refine Wp.call (P:=C1) ?_ fun x hx=>Wp.some hx
  refine Wp.cond (fun _=>Wp.call (dx h39.1 (by omega)) fun r h=>Wp.some h.1) (fun _=>?_)
  exact Wp.call (P:=fun _=>True) (Wp.cond (fun _=>Wp.some trivial) (fun _=>Wp.some trivial)) fun x _=>Wp.some h39.1
theorem Re {y:av} (h:uf y) (i c:Int) (k:Int):jQ ⟨i,false,true,c,dH,{y with aZ:={y.aZ with im:=k}}⟩∧okB y.aZ.aN:=⟨⟨Nat.le_trans h.2 (by decide),fun _ _=>trivial⟩,h.1⟩
abbrev FR (f:bJ):Prop:=jQ f∧okB f.b7.aZ.aN
abbrev FP2 (d:ay) (i:Int) (x:aH×bJ):Prop:=cL x.1∧FR x.2∧(x.2.a9=i)∧((x.2.di=true∧x.2.eb=false∧E9 d x.2.b7=true∧x.2.b7.aa=d.aa∧tf d.aJ x.2.b7=false)∨x.2.di=false)
theorem Pf {d:ay} {y:av} {k i cell:Int} {c:aH} (hc:cL c) (h:uf y) (hh:E9 d {y with aZ:={y.aZ with im:=k}}=true) (hg:y.aa=d.aa) (hv:tf d.aJ {y with aZ:={y.aZ with im:=k}}=false):
 Wp (some (c,(⟨i,false,true,cell,dH,{y with aZ:={y.aZ with im:=k}}⟩:bJ))) (FP2 d i):=
 Wp.some ⟨hc,Re h _ _ _,rfl,.inl ⟨rfl,rfl,hh,hg,hv⟩⟩
theorem Cu (d:ay) (x:ae):tf d.aJ {gJ d.aJ d.aa d.aR x with aZ:={(gJ d.aJ d.aa d.aR x).aZ with im:=Ur (WR ((gJ d.aJ d.aa d.aR x).aZ.im+1)) 2147483647}}=false:=by
 have hin:∀k (m:bG),0≤mac k m∧mac k m<2147483647:=fun k m=>nQ _ _
 have key:∀a:Int,0≤a→a<2147483647→Ur (WR (a+1)) 2147483647≠a:=by
  intro a h0 h1 h
  rw[bB (by omega),Int.tmod_eq_emod_of_nonneg (by omega)] at h
  omega
 simp only[gJ,Av,tf]
 rw[Vb];right
 rw[Vb];right
 refine eqB_f.2 ?_
 simp only[mac]
 exact key _ (hin _ ⟨1,x.cO,rW (dk (Hp d.aJ d.aR) (2*x.cO+1)) x.aN,0⟩).1 (hin _ ⟨1,x.cO,rW (dk (Hp d.aJ d.aR) (2*x.cO+1)) x.aN,0⟩).2
theorem JY (d:ay) (x:ae):E9 d {gJ d.aJ d.aa d.aR x with aZ:={(gJ d.aJ d.aa d.aR x).aZ with im:=Ur (WR ((gJ d.aJ d.aa d.aR x).aZ.im+1)) 2147483647}}=true:=by
 rw[E9,Cu d x]
 simp[gJ,be]
theorem RK {B:Int} {n:ab} (h:NP B n) (hd:1≤n.ai.length) {c:aH} (hc:cL c):Wp (tN c n) (fun r=>cL r.2∧EP r.1∧nO n r.1=true∧(r.1.bk.di=true→r.1.bk.eb=false∧∃d,n.ai[r.1.bk.a9.toNat]?=some d∧r.1.bk.b7.aa=d.aa∧tf d.aJ r.1.bk.b7=false)):=by
 have hm6:=kn h.map
 have hls:=h.ls
 unfold tN
 refine Wp.call (dx hc (by omega)) fun r1 h1=>?_
 obtain⟨i,hi⟩:∃i:Nat,r1.1=i:=⟨r1.1.toNat,by omega⟩
 obtain⟨d,s,a,e1,e2,e3,hm⟩:=h.at_ (i:=i) (by omega)
 simp only[hi,bb,e1,e2,Up]
 refine Wp.call (dx h1.1 (by omega)) fun r3 h3=>Wp.call (th h3.1 (by omega)) fun r4 h4=>Wp.call (dx h4 (by omega)) fun r5 h5=>?_
 refine Wp.call (P:=FP2 d (i:Int)) ?_ ?_
 ·refine Wp.cond (fun _=>?_) (fun _=>?_)
  ·refine Wp.call (dx h5.1 (by omega)) fun r30 h30=>?_
   have hs:=Hz (x:=⟨WR (1+r30.1),[9]⟩) (by show 0≤WR (1+r30.1);rw[bB (by omega)];omega) (by show WR (1+r30.1)≤1000000;rw[bB (by omega)];omega) (fun x hx=>by simp at hx;subst hx;simp[sE]) (by simp) d.aJ d.aa d.aR
   have hr:=uY d.aJ d.aa d.aR (x:=⟨WR (1+r30.1),[9]⟩) (by simp)
   have hh:=JY d ⟨WR (1+r30.1),[9]⟩
   have hv:=Cu d ⟨WR (1+r30.1),[9]⟩
   have hg:(gJ d.aJ d.aa d.aR ⟨WR (1+r30.1),[9]⟩).aa=d.aa:=rfl
   generalize gJ d.aJ d.aa d.aR ⟨WR (1+r30.1),[9]⟩=y at hs hr hh hv hg
   rw[hs]
   exact Pf h30.1 hr hh hg hv
  ·refine Wp.call (P:=fun x=>cL x.2.1) ?_ fun x hx=>Wp.some ⟨hx,⟨Eg,fun x hx=>by simp[d8,iZ] at hx⟩,rfl,.inr rfl⟩
   exact Wp.cond (fun _=>Wp.call (w29 h5.1 d) fun r h=>Wp.some h) (fun _=>Wp.call (w30 h5.1 s) fun r h=>Wp.some h)
 ·rintro⟨c2,f⟩ ⟨k1,k2,k3,k4⟩
  simp only at k1 k2 k3 k4
  have he:EP {dv with aP:=13,bk:=f}:=⟨fun x hx=>by simp[dv] at hx,k2.1,k2.2⟩
  rw[OQ h he]
  simp only[Up]
  refine Wp.call (P:=fun k=>k=bif nO n {dv with aP:=13,bk:=f} then f.aV.aP else 7) ?_ ?_
  ·cases nO n {dv with aP:=13,bk:=f}<;>exact Wp.some rfl
  ·rintro k rfl
   refine Wp.some ⟨k1,⟨fun x hx=>by simp[dv] at hx,k2.1,k2.2⟩,?_,fun hr=>by
    rcases k4 with⟨q1,q2,q3,q4,q5⟩|q1
    ·exact⟨q2,d,by show n.ai[f.a9.toNat]?=some d;rw[k3];exact e1,q4,q5⟩
    ·rw[show f.di=true from hr] at q1;cases q1⟩
   cases hh:nO n {dv with aP:=13,bk:=f}
   ·simp only[cond_false,nO]
    rw[SU,SU,SU];right;right;right
    simp only[Ma,k3,Us,e1,e2]
    rcases k4 with⟨q1,q2,q3,_,_⟩|q1
    ·rw[q1,q2,q3];rfl
    ·rw[q1]
     have z:∀k:Int,k≠7→eqB 7 k=false:=fun k hk=>eqB_f.2 (Ne.symm hk)
     cases f.eb<;>simp only[cond_true,cond_false,hUp,BS,z _ (show(2:Int)≠7 by omega),z _ (show(3:Int)≠7 by omega),z _ (show(4:Int)≠7 by omega),z _ (show(5:Int)≠7 by omega),z _ (show(6:Int)≠7 by omega),z _ (show(8:Int)≠7 by omega),Bool.or_self]
   ·simp only[cond_true]
    rw[show({f with aV:={f.aV with aP:=f.aV.aP}}:bJ)=f from rfl]
    exact hh
end Go.AM
namespace Go.AM
open Go.Proofs
attribute [local simp] bz be bb
theorem zV (n:ab) (f:bJ):(eF n f).ai.length=n.ai.length:=by rw[(ko n f).1]
theorem Gs:∀(c i:Nat) (n:ab),(js c i n).ai.length=n.ai.length
 |0,_,_=>rfl
 |c+1,i,n=>by
  rw[js]
  cases n.ai[i]? with
  |none=>rfl
  |some d=>simp only;rw[Gs,(lr _ _ _).1]
theorem Gv:∀(c i:Nat) (n:ab),(pu c i n).ai.length=n.ai.length
 |0,_,_=>rfl
 |c+1,i,n=>by
  rw[pu]
  cases n.am[i]? with
  |none=>rfl
  |some s=>cases n.aY[i]? with
   |none=>rfl
   |some a=>simp only;rw[Gv,(B4 _ _ _).1]
theorem GQ (n:ab) (k:Nat):(iA n k).ai.length=n.ai.length:=by
 rw[iA]
 cases n.aQ[k]? with
 |none=>rfl
 |some f=>
  simp only
  cases xa (iN n k) f.aU
  ·rfl
  ·simp only[TF,cond_false]
   cases f.eb
   ·simp only[cond_false]
    cases hd:(iN n k).ai[f.a9.toNat]? with
    |none=>rfl
    |some d=>
     simp only
     cases eqB d.aU f.aU
     ·rfl
     ·simp only[TF,cond_false];rw[(lr _ _ _).1];rfl
   ·simp only[cond_true]
    cases f.di||!eqB f.aV.aU f.aU
    ·simp only[cond_false]
     cases hs:(iN n k).am[f.a9.toNat]? with
     |none=>rfl
     |some s=>simp only[xg];rw[(gT _ _).1];rfl
    ·rfl
theorem Lh (n:ab) (e:cX):(i9 n e).2.ai.length=n.ai.length:=by
 rw[i9]
 split
 ·rw[zT]
  cases leB 100000 n.oD
  ·simp only[cond_false];rw[Gv,Gs]
  ·rfl
 split
 ·rw[qE]
  cases inR e.cr 0 (((n.aQ.length:Nat):Int)-1)
  ·rfl
  simp only[TF,cond_false]
  cases eqB e.aP 2
  ·simp only[cond_false]
   cases eqB e.aP 3
   ·simp only[cond_false]
    cases leB 200 ((n.aQ.length:Nat):Int)
    ·simp only[cond_false]
     cases n.aQ[e.cr.toNat]? with
     |none=>rfl
     |some f=>exact zV n f
    ·rfl
   ·rfl
  ·exact GQ n _
 split
 ·rw[zS]
  cases inR e.cr 0 (((n.ai.length:Nat):Int)-1)
  ·rfl
  simp only[TF,cond_false]
  cases n.ai[e.cr.toNat]? with
  |none=>rfl
  |some d=>cases n.am[e.cr.toNat]? with
   |none=>rfl
   |some s=>
    simp only
    cases eqB e.aP 5
    ·simp only[cond_false]
     cases eqB e.aP 6
     ·simp only[cond_false]
      cases eqB e.aP 7
      ·simp only[cond_false]
       cases(pL s e.aN).2<;>rfl
      ·simp only[cond_true]
       cases eqB d.bg 2
       ·rfl
       ·simp
     ·simp only[cond_true]
      cases eqB e.aU d.aU||!ew n.dW e.aU
      ·exact(lr _ _ _).1
      ·rfl
    ·simp only[cond_true]
     cases eqB d.bg 0
     ·rfl
     ·exact(lr _ _ _).1
 split
 ·rw[zR];cases !ew n.dW e.cr||booB (xa n e.cr) (eqB e.aP 10)<;>rfl
 split
 ·rw[lI]
  cases !inR e.cr 0 (n.dR.fH-1)||(booB (tc n.dR e.cr) (eqB e.aP 12)||eqB (kQ n.dR e.cr (eqB e.aP 12)).fj 0)<;>rfl
 split
 ·rw[uM];cases ur n e.bk
  ·rfl
  ·exact zV n _
 ·rfl
abbrev NQ (n:ab) (r:cX×aH):Prop:=cL r.2∧EP r.1∧nO n r.1=true∧FS n r.1
theorem wPl {n:ab} {c:aH} (h:cL c) {k i cell:Int} {b:List Int} (hb:okB b) (hk:k≠13):Wp (some ((⟨k,i,cell,b,mr⟩:cX),c)) (NQ n):=
 Wp.some ⟨h,zu hb,sj n hk,zy n hk⟩
theorem jv:okB []:=fun x hx=>by simp at hx
theorem wNo {α:Type} {b:Bool} {x y:α} {β:Type} {f:α→Option β} {Q:β→Prop} (h:∀z,Wp (f z) Q):Wp (Un (bif b then some x else some y) f) Q:=by
 cases b<;>exact h _
theorem Qg {n:ab} {c':aH} (hc:cL c'):Wp (Un (bif ltB 0 ((n.aQ.length:Nat):Int) then(Un (gb c' 4) fun r21=>some (!r21.1,r21.2)) else(some (false,c'))) fun((v16,v20):Bool×aH)=>bif v16 then(Un (Ai ((n.aQ.length:Nat):Int) 3) fun r22=>Un (bZ v20 r22) fun r23=>Un (bZ r23.2 12) fun r24=>bif eqB r24.1 0 then(some ({dv with aP:=3,cr:=r23.1},r24.2)) else(bif eqB r24.1 1 then(some ({dv with aP:=4,cr:=r23.1},r24.2)) else(some ({dv with aP:=2,cr:=r23.1},r24.2)))) else(some ({dv with aP:=1},v20))) (NQ n):=by
 refine Wp.call (P:=fun x=>cL x.2∧(x.1=true→0<n.aQ.length)) ?_ ?_
 ·refine Wp.cond (fun hb=>?_) (fun _=>Wp.some ⟨hc,fun h=>by simp at h⟩)
  have hb:=km hb
  exact Wp.call (th hc (by omega)) fun r21 h21=>Wp.some ⟨h21,fun _=>by omega⟩
 ·rintro⟨v16,v20⟩ ⟨k1,k2⟩
  simp only at k1 k2
  refine Wp.cond (fun hb=>?_) (fun _=>wPl k1 jv (by omega))
  have:=k2 hb
  rw[Fp]
  simp only[Up]
  have hm:1≤lW ((n.aQ.length:Nat):Int) 3:=by unfold lW;split<;>omega
  refine Wp.call (dx k1 hm) fun r23 h23=>Wp.call (dx h23.1 (by omega)) fun r24 h24=>?_
  exact Wp.cond (fun _=>wPl h24.1 jv (by omega)) (fun _=>Wp.cond (fun _=>wPl h24.1 jv (by omega)) (fun _=>wPl h24.1 jv (by omega)))
theorem wNext {B:Int} {n:ab} (h:NP B n) (hd:1≤n.ai.length) {c:aH} (hc:cL c):Wp (wF c n) (NQ n):=by
 have hm6:=kn h.map
 have hl:=h.ld
 unfold wF
 rw[Fo]
 simp only[Up]
 have hmx:1≤xc 1 ((n.ai.length:Nat):Int):=by unfold xc;split<;>omega
 have hw:WR (((n.dW.aX.length:Nat):Int)+1)=((n.dW.aX.length:Nat):Int)+1:=bB (by omega)
 refine Wp.call (dx hc hmx) fun r2 h2=>Wp.call (dx h2.1 (by omega)) fun r3 h3=>?_
 refine Wp.cond (fun _=>wPl h3.1 jv (by omega)) (fun _=>wNo fun _=>?_)
 refine Wp.cond (fun _=>Wp.call (dx h3.1 (by omega)) fun r5 h5=>wPl h5.1 jv (by omega)) (fun _=>?_)
 refine Wp.cond (fun _=>wPl h3.1 jv (by omega)) (fun _=>wNo fun _=>?_)
 refine Wp.cond (fun _=>Wp.call (dx h3.1 (by omega)) fun r7 h7=>Wp.call (N0 h7.1 h7.2.1 (by omega)) fun r8 h8=>wPl h8.1 h8.2.1 (by omega)) (fun _=>?_)
 refine Wp.cond (fun _=>Wp.call (dx h3.1 (by omega)) fun r9 h9=>wPl h9.1 jv (by omega)) (fun _=>wNo fun _=>?_)
 refine Wp.cond (fun _=>Wp.call (dx h3.1 (by omega)) fun r9 h9=>wPl h9.1 jv (by omega)) (fun _=>?_)
 refine Wp.cond (fun _=>Wp.call (dx h3.1 (by omega)) fun r9 h9=>wPl h9.1 jv (by omega)) (fun _=>?_)
 refine Wp.cond (fun _=>Wp.call (dx h3.1 (by omega)) fun r9 h9=>wPl h9.1 jv (by omega)) (fun _=>wNo fun _=>?_)
 refine Wp.cond (fun _=>Wp.cond (fun _=>?_) (fun _=>Qg h3.1)) (fun _=>Qg h3.1)
 refine Wp.call (RK h hd h3.1) fun r15 h15=>Wp.some ⟨h15.1,⟨jv,h15.2.1.f,h15.2.1.r⟩,?_,fun _=>h15.2.2.2⟩
 exact h15.2.2.1
theorem RN.apply {B l:Nat} {n:ab} (h:RN B l n) {e:cX} (he:EP e) (hh:nO n e=true) (hf:FS n e):RN (B+1) l (i9 n e).2:=by
 obtain⟨k,h1,h2,h3⟩:=h
 exact⟨k+1,h1.step he hh hf,by omega,by rw[Lh];exact h3⟩
theorem RN.mono {B B' l:Nat} {n:ab} (h:RN B l n) (hb:B≤B'):RN B' l n:=by
 obtain⟨k,h1,h2,h3⟩:=h;exact⟨k,h1,by omega,h3⟩
theorem RI {c:aH} (h:cL c) {most:Int} (hm:1≤most∧most≤1000):Wp (wG c most) (fun r=>cL r.2.2.2∧∃l,(1≤l∧l≤3)∧RN 40 l r.1∧RN (42+most.toNat) l r.2.2.1∧(r.2.1.length≤1010∧∀e∈r.2.1,EP e)):=by
 unfold wG
 refine Wp.call (RH h) fun r1 h1=>?_
 obtain⟨h11,l,hl,hr⟩:=h1
 obtain⟨b,hn,hb⟩:=hr.np (by omega)
 rw[P6 hn.okN]
 simp only[Up]
 refine Wp.call (dx h11 hm.1) fun r3 h3=>?_
 have hw:WR (3+r3.1)=3+r3.1:=bB (by omega)
 refine Wp.call (P:=fun x=>cL x.2.1∧RN (42+most.toNat) l x.2.2∧(x.1.length≤1010∧∀e∈x.1,EP e)) ?_ fun x hx=>Wp.some ⟨hx.1,l,hl,hr,hx.2.1,hx.2.2⟩
 refine Wp.iterF (fun x=>(0≤x.1∧x.1≤2+most)∧cL x.2.2.1∧RN (40+(2+most-x.1).toNat) l x.2.2.2∧((x.2.1.length:Int)≤1010-x.1∧∀e∈x.2.1,EP e)) (fun x=>x.1.toNat) ⟨⟨by rw[hw];omega,by rw[hw];omega⟩,h3.1,hr.mono (by omega),by simp only[Uu];rw[hw];omega,by simp⟩ (by simp only;rw[hw];omega) ?_
 rintro⟨v4,v8,v19,n⟩ ⟨⟨i0,i1⟩,i2,i3,i4,i5⟩
 simp only at i0 i1 i2 i3 i4 i5
 simp only[AN]
 refine Wp.cond (fun hb=>?_) (fun hb=>Wp.some ⟨i2,i3.mono (by omega),by show v8.length≤1010;omega,i5⟩)
 have hb:=km hb
 obtain⟨b',hn',hb'⟩:=i3.np (by omega)
 have hdl:n.ai.length=l:=i3.choose_spec.2.2
 refine Wp.call (wNext hn' (by omega) i2) fun r51 h51=>?_
 refine Wp.ok (fB (by simp;omega) (by simp;omega)) ?_
 have ha:=yZ hn' h51.2.1 (by omega)
 rw[P6 hn'.okN]
 simp only[Up]
 rw[ha.1]
 simp only[Up]
 have hst:=i3.apply h51.2.1 h51.2.2.1 h51.2.2.2
 refine Wp.call (P:=fun x=>RN (40+(2+most-v4).toNat+1) l x) (Wp.cond (fun _=>Wp.some hst) (fun _=>Wp.some (i3.mono (by omega)))) fun x hx=>Wp.some ⟨⟨⟨?_,?_⟩,h51.1,?_,?_,?_⟩,?_⟩
 all_goals simp only[bB (show-9223372036854775808≤v4-1∧v4-1≤9223372036854775807 by omega)]
 ·omega
 ·omega
 ·exact hx.mono (by omega)
 ·simp;omega
 ·intro e he
  rcases List.mem_append.1 he with he|he
  ·exact i5 e he
  ·simp at he;subst he;exact h51.2.1
 ·omega
end Go.AM
namespace Go.AM
open Go.Proofs
attribute [local simp] bz be bb
def ul (r:aC) (g:Int):Int:=(vec r.eP (Ey r.ID g) g).eP
def fX (l:List bw) (k:Nat):Int:=((l.take k).map fun p=>(p.aN.length:Int)).sum
def gm (w:a8):Int:=w.bj-1-w.aw.length
structure SI (d:ay) (s:ag) (a:aj):Prop where
 cl:d.dq.dw≤s.bv.cO
 pq:s.bC≤s.bv.cO
 pg:0<s.bC→s.aa<s.bC
 pv:0<s.bC→s.aD=vec s.bv.eP (Ey s.bv.ID s.bC) s.bC
 sg:s.aa≤s.bv.cO
 s1:s.bg=1→0<s.aa
 sk:0<s.aa→s.aJ=ul s.bv s.aa
 dg:d.aa≤d.dq.dw
 dk:0<d.aa→d.aJ=ul s.bv d.aa
 pr:d.bi.aG<+:s.ao
 pe:∀x∈d.bi.aD,s.ao[(x.cO-1).toNat]?=some ⟨x.aN⟩∧x.cO<s.an.bj
 nx:d.bi.bj≤s.an.bj
 wn:∀x∈s.an.aw,s.ao[(x.cO-1).toNat]?=some ⟨x.aN⟩
 ak:gm s.an<d.bi.bj
 ch:a.d4+s.bO.dX=fX s.ao (gm s.an).toNat
def uA (s:ag) (x:av):Prop:=∃(k g e:Int) (b:List Int),0<g∧(1≤k∧k<s.an.bj)∧s.ao[(k-1).toNat]?=some ⟨b⟩∧x=gJ (ul s.bv g) g e ⟨k,b⟩
def RadB (d:ay) (x:av):Prop:=x.aa<d.aa∨(x.aa=d.aa∧tf d.aJ x=false)
def Od (s:ag) (m:az):Prop:=∃q,(1≤q∧q≤s.bv.cO)∧m.aa=q∧m.bQ=vec s.bv.eP (Ey s.bv.ID q) q
def Oc (d:ay) (m:az):Prop:=i6 d.dq.eP d.dq.dw m.bQ=1∨i6 d.dq.eP d.dq.dw m.bQ=2
def Qi (s:ag) (m:az):Prop:=m.aa<s.aa∨(m.aa=s.aa∧tg s.aJ m=false)
structure FI (d:ay) (s:ag) (f:bJ):Prop where
 up:f.eb=true→f.di=false→f.aV.aP=8→f.aV.bM≤d.bi.bj∨Qi s f.aV
 rd:f.eb=false→f.di=true→uA s f.b7∨RadB d f.b7
 dn:f.eb=false→f.di=false→f.aV.aP=2→Od s f.aV∨Oc d f.aV
structure rG (d:ay) (s:ag) (d':ay) (s':ag):Prop where
 ck:d'.dq.eP=d.dq.eP
 cl:d.dq.dw≤d'.dq.dw
 dg:d.aa<d'.aa∨(d'.aa=d.aa∧d'.aJ=d.aJ)
 rn:d.bi.bj≤d'.bi.bj
 ri:s'.bv.ID=s.bv.ID
 rk:s'.bv.eP=s.bv.eP
 rs:s.bv.cO≤s'.bv.cO
 sg:s.aa<s'.aa∨(s'.aa=s.aa∧s'.aJ=s.aJ)
 su:s.ao<+:s'.ao
 wn:s.an.bj≤s'.an.bj
theorem rG.refl (d:ay) (s:ag):rG d s d s:=⟨rfl,U5 _,.inr ⟨rfl,rfl⟩,U5 _,rfl,rfl,U5 _,.inr ⟨rfl,rfl⟩,U8 _,U5 _⟩
theorem yJ {α:Type} {xs ys:List α} (h:xs<+:ys) {k:Nat} {x:α} (hx:xs[k]?=some x):ys[k]?=some x:=by
 obtain⟨zs,rfl⟩:=h
 rw[RY (List.getElem?_eq_some_iff.1 hx).1];exact hx
theorem zJ {r r':aC} (h1:r'.ID=r.ID) (h2:r'.eP=r.eP) (g:Int):ul r' g=ul r g:=by rw[ul,ul,h1,h2]
theorem HR {k l l':Int} {v:cH} (h:l≤l') (hb:i6 k l v=1∨i6 k l v=2):i6 k l' v=1∨i6 k l' v=2:=by
 revert hb
 rw[i6,i6]
 intro hb
 split at hb
 ·rename_i h1;rw[if_pos h1];exact hb
 ·rename_i h1;rw[if_neg h1]
  split at hb
  ·rename_i h2;rw[if_pos (by omega)];exact .inr rfl
  ·split at hb<;>omega
theorem FI.mono {d d':ay} {s s':ag} {f:bJ} (h:FI d s f) (m:rG d s d' s'):FI d' s' f:=by
 refine⟨fun h1 h2 h3=>?_,fun h1 h2=>?_,fun h1 h2 h3=>?_⟩
 ·rcases h.up h1 h2 h3 with q|q
  ·exact .inl (U9 q m.rn)
  ·right
   rcases m.sg with g|⟨g1,g2⟩
   ·left;rcases q with q|q<;>omega
   ·rcases q with q|q
    ·left;omega
    ·right;rw[g1,g2];exact q
 ·rcases h.rd h1 h2 with⟨k,g,e,b,q1,q2,q3,q4⟩|q
  ·left;exact⟨k,g,e,b,q1,⟨q2.1,Int.lt_of_lt_of_le q2.2 m.wn⟩,yJ m.su q3,by rw[zJ m.ri m.rk];exact q4⟩
  ·right
   rcases m.dg with g|⟨g1,g2⟩
   ·left;rcases q with q|q<;>omega
   ·rcases q with q|q
    ·left;omega
    ·right;rw[g1,g2];exact q
 ·rcases h.dn h1 h2 h3 with⟨q,q1,q2,q3⟩|q
  ·left;exact⟨q,⟨q1.1,U9 q1.2 m.rs⟩,q2,by rw[m.ri,m.rk];exact q3⟩
  ·right;rw[Oc,m.ck];exact HR m.cl q
structure PI (n:ab):Prop where
 si:∀(i:Nat) d s a,n.ai[i]?=some d→n.am[i]?=some s→n.aY[i]?=some a→SI d s a
 fi:∀f∈n.aQ,∀d s,n.ai[f.a9.toNat]?=some d→n.am[f.a9.toNat]?=some s→FI d s f
theorem PI.send {n:ab} (h:PI n) {f:bJ} (hf:∀d s,n.ai[f.a9.toNat]?=some d→n.am[f.a9.toNat]?=some s→FI d s f):PI (eF n f):=by
 rw[eF]
 cases leB 200 ((n.aQ.length:Nat):Int)
 ·refine⟨h.si,fun g hg=>?_⟩
  rcases List.mem_append.1 hg with hg|hg
  ·exact h.fi g hg
  ·simp at hg;subst hg;exact hf
 ·exact⟨h.si,h.fi⟩
theorem PI.sends:∀(l:List bJ) {n:ab},PI n→(∀f∈l,∀d s,n.ai[f.a9.toNat]?=some d→n.am[f.a9.toNat]?=some s→FI d s f)→PI (sends n l)
 |[],n,h,_=>h
 |f::l,n,h,hf=>by
  have hk:=ko n f
  exact PI.sends l (h.send (hf f (by simp))) (fun g hg=>by rw[hk.1,hk.2.1];exact hf g (by simp[hg]))
theorem PI.setM {n:ab} (h:PI n) {i:Nat} {d d':ay} {s s':ag} {a':aj} (hd:n.ai[i]?=some d) (hs:n.am[i]?=some s) (hm:rG d s d' s') (hi:SI d' s' a'):
 PI {n with ai:=n.ai.set i d',am:=n.am.set i s',aY:=n.aY.set i a'}:=by
 refine⟨fun j x y z hx hy hz=>?_,fun f hf x y hx hy=>?_⟩
 ·rcases ke hx with⟨e1,e2⟩|⟨e1,e2⟩<;>rcases ke hy with⟨e3,e4⟩|⟨e3,e4⟩<;>rcases ke hz with⟨e5,e6⟩|⟨e5,e6⟩<;>first|omega|skip
  ·subst e2;subst e4;subst e6;exact hi
  ·exact h.si j x y z e2 e4 e6
 ·rcases ke hx with⟨e1,e2⟩|⟨e1,e2⟩<;>rcases ke hy with⟨e3,e4⟩|⟨e3,e4⟩<;>first|omega|skip
  ·subst e2;subst e4
   exact(h.fi f hf d s (by rw[←e1];exact hd) (by rw[←e1];exact hs)).mono hm
  ·exact h.fi f hf x y e2 e4
end Go.AM
namespace Go.AM
open Go.Proofs
attribute [local simp] bz be bb
structure vf (d:ay) (s:ag) (a:aj) (r:aS):Prop where
 mo:rG d s r.a9 s
 si:SI r.a9 s a
 sg:∀m∈r.dD,m.aP=8→m.bM≤r.a9.bi.bj
theorem vf.keep {d:ay} {s:ag} {a:aj} (h:SI d s a) {r:aS} (h1:r.a9.dq=d.dq) (h2:r.a9.aa=d.aa) (h3:r.a9.aJ=d.aJ) (h4:r.a9.bi=d.bi) (h5:∀m∈r.dD,m.aP≠8):vf d s a r:=
 ⟨⟨by rw[h1],by rw[h1];exact U5 _,.inr ⟨h2,h3⟩,by rw[h4];exact U5 _,rfl,rfl,U5 _,.inr ⟨rfl,rfl⟩,U8 _,U5 _⟩,
  {h with cl:=by rw[h1];exact h.cl,dg:=by rw[h1,h2];exact h.dg,dk:=by rw[h2,h3];exact h.dk,pr:=by rw[h4];exact h.pr,pe:=by rw[h4];exact h.pe,nx:=by rw[h4];exact h.nx,ak:=by rw[h4];exact h.ak},
  fun m hm e=>absurd e (h5 m hm)⟩
theorem vf.none {d:ay} {s:ag} {a:aj} (h:SI d s a):vf d s a ⟨d,[]⟩:=.keep h rfl rfl rfl rfl (by simp)
section
variable {d:ay} {s:ag} {a:aj} (h:SI d s a)
include h
theorem GG {d':ay} (h1:d'.dq=d.dq) (h2:d'.aa=d.aa) (h3:d'.aJ=d.aJ) (h4:d'.bi=d.bi):vf d s a (uH d'):=
 .keep h h1 h2 h3 h4 (by simp[uH,vp,sX])
theorem EJ:vf d s a (pS d):=by
 rw[pS]
 cases ltB 0 d.fU<;>cases eqB d.bg 1<;>cases eqB d.bg 2&&!d.de<;>exact .keep h rfl rfl rfl rfl (by simp[tq,vp,sX])
theorem LD:vf d s a (dOn d):=by
 rw[dOn];cases eqB d.bg 0<;>exact .keep h rfl rfl rfl rfl (by simp[tq])
theorem EH (c:Int):vf d s a (rm d c):=by
 rw[rm]
 cases eqB c d.aU||!inR c 0 5
 ·cases eqB d.bg 2&&ltB d.aR 999999
  ·exact .keep h rfl rfl rfl rfl (by simp)
  ·exact GG h rfl rfl rfl rfl
 ·exact .none h
theorem Ou (hk:d.dq.eP=s.bv.eP) (hr:s.bv.cO≤999999) {m:az} (hf:Od s m∨Oc d m):vf d s a (EF d m):=by
 rw[EF]
 cases hv:eqB (i6 d.dq.eP d.dq.dw m.bQ) 0
 ·exact .none h
 ·have hv:=mR hv
  rcases hf with⟨q,q1,q2,q3⟩|q
  ·have hq:inR q 0 999999=true:=bp.2 (by omega)
   rw[q3,hk,KV (by omega) (by omega)] at hv
   have hlt:d.dq.dw<q:=by
    by_cases hle:q≤d.dq.dw
    ·rw[if_pos hle] at hv;omega
    ·omega
   have hu:unm d.dq.eP m.bQ.eJ m.bQ.gx=q:=by
    rw[q3,hk];simp only[vec,hq,cond_true];exact Jv (by omega) (by omega)
   have hrand:m.bQ.eJ=Ey s.bv.ID q:=by rw[q3];simp only[vec,hq,cond_true]
   have hg:=h.dg
   rw[hk,hrand] at hu
   simp only[cond_true,hu,hrand,q2,hk]
   refine⟨⟨hk.symm,by simp only;omega,.inl (by simp only;omega),U5 _,rfl,rfl,U5 _,.inr ⟨rfl,rfl⟩,U8 _,U5 _⟩,{h with cl:=q1.2,dg:=U5 _,dk:=fun _=>rfl},fun m hm=>by simp at hm;subst hm;intro e;simp at e⟩
  ·rcases q with q|q<;>omega
theorem Ii (hk:d.dq.eP=s.bv.eP) (hr:s.bv.cO≤999999) {m:az} (hf:m.aP=2→Od s m∨Oc d m):vf d s a (zm d m):=by
 rw[zm]
 cases !kq m||(!eqB m.aU d.aU||eqB d.bg 0)
 ·simp only[cond_false]
  cases h2:eqB m.aP 2&&eqB d.bg 1
  ·simp only[cond_false]
   cases eqB m.aP 4&&(eqB d.bg 1&&(oA d.aJ&&(eqB m.aa d.aa&&tg d.aJ m)))
   ·simp only[cond_false]
    cases eqB m.aP 6&&(eqB d.bg 2&&(eqB m.aa d.aa&&(eqB m.aR d.aR&&tg d.aJ m)))
    ·simp only[cond_false]
     cases eqB m.aP 7&&(eqB d.bg 3&&ltB d.aR 999999)
     ·simp only[cond_false]
      cases eqB m.aP 7&&eqB d.bg 2
      ·exact .none h
      ·exact GG h rfl rfl rfl rfl
     ·exact GG h rfl rfl rfl rfl
    ·exact .keep h rfl rfl rfl rfl (by simp)
   ·exact .keep h rfl rfl rfl rfl (by simp)
  ·rw[hV] at h2
   exact Ou h hk hr (hf (mR h2.1))
 ·exact .none h
omit h in
theorem MV {l sub:List bw} {t:List ae} {nx:Int} (hp:l<+:sub) (hn:nx=(l.length:Int)+1) (ht:∀(k:Nat) (y:ae),t[k]?=some y→y.cO=nx+k∧sub[(y.cO-1).toNat]?=some ⟨y.aN⟩):l++t.map (fun y=>(⟨y.aN⟩:bw))<+:sub:=by
 obtain⟨zs,hz⟩:=hp
 refine⟨zs.drop t.length,?_⟩
 apply List.ext_getElem?
 intro i
 rw[←hz]
 by_cases h1:i<l.length
 ·rw[Sz,RY h1,RY h1]
 ·rw[Sz,Si (by omega),Si (show l.length≤i by omega)]
  by_cases h2:i-l.length<t.length
  ·rw[RY (by simpa using h2),Ub,v0 h2]
   obtain⟨e1,e2⟩:=ht (i-l.length) _ (v0 h2)
   rw[←hz,e1,Si (by omega)] at e2
   rw[show(nx+((i-l.length:Nat):Int)-1).toNat-l.length=i-l.length by omega] at e2
   rw[e2];rfl
  ·rw[Si (by simpa using h2),List.getElem?_drop]
   congr 1;simp;omega
theorem Ig (hp:RcV d.bi) (hs:SP s) (hb:∀p∈s.ao,okB p.aN) {x:av} (hf:uA s x∨RadB d x):vf d s a (zl d x):=by
 simp only[zl]
 cases ho:eqB d.bg 2&&(pZ d.aJ d.aa d.aR x).2
 ·exact .none h
 simp only[cond_true]
 rw[hV] at ho
 have hcond:x.aa=d.aa∧x.aR=d.aR∧tf d.aJ x=true:=by
  have:=ho.2
  rw[pZ] at this
  split at this
  ·assumption
  ·cases this
 rcases hf with⟨k,g,e,b,q1,q2,q3,q4⟩|q
 ·have hsub:=RS q3
  have hl:=hs.sl
  have hnx:=hs.nx
  have hgen:d.aa=g:=by rw[←hcond.1,q4];rfl
  have hep:d.aR=e:=by rw[←hcond.2.1,q4];rfl
  have hkey:d.aJ=ul s.bv g:=by rw[←hgen];exact h.dk (by omega)
  have hopen:pZ d.aJ d.aa d.aR x=(⟨k,b⟩,true):=by
   rw[q4,hgen,hep,hkey]
   exact Kp q2.1 (by show k≤100000;omega) (hb _ hsub) (hs.sd _ hsub) _ _ _
  rw[hopen]
  simp only
  cases hlate:yn d.bi ⟨k,b⟩
  ·obtain⟨t,dd,t1,t2,t3,t4,t5,t6,t7,t8⟩:=AT hp hlate
   have hmem:∀y∈mT ⟨k,b⟩ d.bi.aD,s.ao[(y.cO-1).toNat]?=some ⟨y.aN⟩∧y.cO<s.an.bj:=fun y hy=>by
    rcases vE.1 hy with e|e
    ·subst e;exact⟨q3,q2.2⟩
    ·exact h.pe y e
   have hpre:=MV (l:=d.bi.aG) (sub:=s.ao) (t:=t) h.pr hp.n (fun k y hy=>⟨t2 k y hy,(hmem y (by rw[t1];exact Vd _ (RS hy))).1⟩)
   have hnext:(mj d.bi ⟨k,b⟩).bj≤s.an.bj:=by
    rw[t3]
    by_cases ht:t.length=0
    ·rw[ht];have:=h.nx;simp;omega
    ·obtain⟨y,hy⟩:∃y,t[t.length-1]?=some y:=⟨_,v0 (by omega)⟩
     have e1:=t2 _ y hy
     have e2:=(hmem y (by rw[t1];exact Vd _ (RS hy))).2
     omega
   have hak:=h.ak
   refine⟨⟨rfl,U5 _,.inr ⟨rfl,rfl⟩,by simp only;rw[t3];omega,rfl,rfl,U5 _,.inr ⟨rfl,rfl⟩,U8 _,U5 _⟩,
    {h with pr:=by simp only;rw[t4];exact hpre,pe:=fun y hy=>?_,nx:=hnext,ak:=by simp only;rw[t3];omega},fun m hm _=>?_⟩
   ·simp only at hy
    rcases t6 with e|e
    ·rw[e] at hy;exact hmem y (by rw[t1];exact List.mem_append_right _ hy)
    ·rw[e] at hy;simp at hy
   ·simp at hm;subst hm;exact U5 _
  ·have e:mj d.bi ⟨k,b⟩=d.bi:=by rw[mj,hlate];rfl
   rw[e]
   refine⟨rG.refl d s,h,fun m hm _=>?_⟩
   simp at hm;subst hm;exact U5 _
 ·exfalso
  rcases q with q|⟨q1,q2⟩
  ·omega
  ·rw[hcond.2.2] at q2;cases q2
end
theorem Ix {d:ay} {s:ag} {a:aj} (h:SI d s a):SI (rT d) s a∧rG d s (rT d) s:=by
 rw[rT]
 cases eqB d.bg 2
 ·exact⟨h,rG.refl d s⟩
 ·have:=vf.keep h (r:=⟨{d with bg:=3},[]⟩) rfl rfl rfl rfl (by simp)
  exact⟨this.si,this.mo⟩
theorem nz {n:ab} (h:PI n) {i:Nat} {d:ay} {s:ag} {a:aj} (hd:n.ai[i]?=some d) (hs:n.am[i]?=some s) (ha:n.aY[i]?=some a) {r:aS} (st:vf d s a r):PI (fL n i r):=by
 have hi:=(List.getElem?_eq_some_iff.1 hd).1
 have hm:=h.setM hd hs st.mo (a':=a) st.si
 rw[dK hs,dK ha] at hm
 refine PI.sends _ hm fun f hf x y hx hy=>?_
 obtain⟨m,hm',rfl⟩:=List.mem_map.1 hf
 simp only[hU,Us] at hx hy
 have e1:(n.ai.set i r.a9)[i]?=some r.a9:=by simp[hi]
 rw[e1] at hx;rw[hs] at hy
 cases hx;cases hy
 exact⟨fun _ _ h3=>.inl (st.sg m hm' h3),fun h1 _=>by simp[hU] at h1,fun h1 _ _=>by simp[hU] at h1⟩
end Go.AM
namespace Go.AM
open Go.Proofs
attribute [local simp] bz be bb
structure yh (d:ay) (s:ag) (a:aj) (r:bH):Prop where
 mo:rG d s d r.aF
 si:SI d r.aF a
 sg:∀m∈r.dD,m.aP=2→Od r.aF m
theorem Nv (xs:List ae) (j:Nat):fa xs=fa (xs.take j)+fa (xs.drop j):=by
 simp only[fa]
 rw[←Va,←TJ,List.take_append_drop]
theorem xI {l:List bw} {k:Nat} {p:bw} (h:l[k]?=some p):fX l (k+1)=fX l k+p.aN.length:=by
 simp only[fX]
 rw[Ux,h]
 simp
theorem y9 {l:List bw} {u:List ae} {A:Nat} (h:∀(i:Nat) x,u[i]?=some x→l[A+i]?=some ⟨x.aN⟩):∀j:Nat,j≤u.length→fX l (A+j)=fX l A+fa (u.take j)
 |0,_=>by simp[fa]
 |j+1,hj=>by
  obtain⟨x,hx⟩:∃x,u[j]?=some x:=⟨_,v0 (by omega)⟩
  rw[←Nat.add_assoc,xI (h j x hx),y9 h j (by omega),Ux,hx]
  simp only[fa,Option.toList_some,TJ,Va,TI,TN,List.sum_cons,List.sum_nil]
  omega
theorem GJ {l l':List bw} (h:l<+:l') {k:Nat} (hk:k≤l.length):fX l' k=fX l k:=by
 obtain⟨z,rfl⟩:=h
 simp only[fX]
 rw[List.take_append_of_le_length hk]
theorem qq {x:aC} (h:qZ x=true):0≤x.cO∧x.cO≤999999:=by
 simp only[qZ,hV,bp] at h;omega
section
variable {d:ay} {s:ag} {a:aj} (h:SI d s a) (g:SG s a)
theorem yh.none (h:SI d s a):yh d s a ⟨s,[]⟩:=⟨rG.refl d s,h,by simp⟩
include h
theorem J2 {s':ag} {l:List az} (h1:s'.bv=s.bv) (h2:s'.aD=s.aD) (h3:s'.bC=s.bC) (h4:s'.bg=s.bg) (h5:s'.aa=s.aa) (h6:s'.aJ=s.aJ) (h7:s'.ao=s.ao) (h8:s'.an=s.an) (h9:s'.bO.dX=s.bO.dX) (hl:∀m∈l,m.aP≠2):yh d s a ⟨s',l⟩:=by
 refine⟨⟨rfl,U5 _,.inr ⟨rfl,rfl⟩,U5 _,by rw[h1],by rw[h1],by rw[h1];exact U5 _,.inr ⟨h5,h6⟩,by rw[h7];exact U8 _,by rw[h8];exact U5 _⟩,?_,fun m hm e=>absurd e (hl m hm)⟩
 exact⟨by rw[h1];exact h.cl,by rw[h1,h3];exact h.pq,by rw[h3,h5];exact h.pg,by rw[h1,h2,h3];exact h.pv,by rw[h1,h5];exact h.sg,by rw[h4,h5];exact h.s1,by rw[h1,h5,h6];exact h.sk,h.dg,by rw[h1];exact h.dk,by rw[h7];exact h.pr,by rw[h7,h8];exact h.pe,by rw[h8];exact h.nx,by rw[h7,h8];exact h.wn,by rw[h8];exact h.ak,by rw[h7,h8,h9];exact h.ch⟩
include g
theorem KB (m:az):yh d s a (FX s m):=by
 have hr:=qq g.sp.rcd
 simp only[FX]
 cases hb:eqB s.bv.cO 999999
 ·have hb:=EN hb
  simp only[cond_false]
  refine⟨⟨rfl,U5 _,.inr ⟨rfl,rfl⟩,U5 _,rfl,rfl,by simp only;omega,.inr ⟨rfl,rfl⟩,U8 _,U5 _⟩,?_,fun x hx e=>?_⟩
  ·have h1:=h.cl
   have h2:=h.sg
   exact {h with cl:=by simp only;omega,pq:=U5 _,pg:=fun _=>by simp only;omega,pv:=fun _=>rfl,sg:=by simp only;omega,sk:=h.sk,dk:=h.dk}
  ·simp at hx;subst hx
   exact⟨s.bv.cO+1,⟨by omega,U5 _⟩,rfl,rfl⟩
 ·exact .none h
theorem Hy (m:az):yh d s a (xU s m):=by
 rw[xU]
 cases hb:leB s.bC 0||(!eqB m.aa s.bC||(!eqB m.bM s.aD.ug||leB 999999 s.aR))
 ·simp only[SX] at hb
  have hp:=vG hb.1
  have h1:=h.pg hp
  simp only[cond_false,ub]
  refine⟨⟨rfl,U5 _,.inr ⟨rfl,rfl⟩,U5 _,rfl,rfl,U5 _,.inl h1,U8 _,U5 _⟩,?_,fun x hx e=>?_⟩
  ·have h2:=h.pq
   have h3:=qq g.sp.rcd
   exact {h with pq:=by show(0:Int)≤s.bv.cO;omega,pg:=fun e=>by simp at e,pv:=fun e=>by simp at e,sg:=h2,s1:=fun _=>hp,sk:=fun _=>by show s.aD.eP=ul s.bv s.bC;rw[h.pv hp];rfl}
  ·simp[tJ,sX] at hx;subst hx;simp at e
 ·exact .none h
omit g in
theorem Hv (m:az):yh d s a (xT s m):=by
 rw[xT]
 cases !pX s m||(ltB m.aR s.aR||(eqB m.aR s.aR&&!eqB m.aU s.aU))
 ·exact J2 h rfl rfl rfl rfl rfl rfl rfl rfl rfl (by simp[tJ,sX])
 ·exact .none h
theorem KA {m:az} (hf:m.bM≤d.bi.bj∨Qi s m):yh d s a (FW s m):=by
 rw[FW]
 cases hb:!pX s m||ltB s.an.bj m.bM
 ·simp only[cond_false]
  simp only[SX,Bool.not_eq_false'] at hb
  obtain⟨hk,hn⟩:=hb
  simp only[pX,hV] at hk
  rcases hf with hf|hf
  ·have hg:=Cf g m.bM
   have hw:=g.sp.win
   have hd:=By hw hn
   have hle:=oF hn
   have f1:=hw.f
   have f2:=hw.n
   have hch:=h.ch
   have hak:=h.ak
   obtain⟨j,hj⟩:∃j,j=(m.bM-(s.an.bj-s.an.aw.length)).toNat:=⟨_,rfl⟩
   rw[←hj] at hd
   have hjl:j≤s.an.aw.length:=by omega
   have hnx:(i7 s.an m.bM).bj=s.an.bj:=by rw[hd]
   have hlen:(i7 s.an m.bM).aw.length=s.an.aw.length-j:=by rw[hd];simp
   have hacked:gm (i7 s.an m.bM)=gm s.an+j:=by simp only[gm,hnx,hlen];omega
   have ha0:0≤gm s.an:=by simp only[gm];omega
   have hcut:=Nv s.an.aw j
   have hb':fX s.ao ((gm s.an).toNat+j)=fX s.ao (gm s.an).toNat+fa (s.an.aw.take j):=by
    refine y9 (fun i x hx=>?_) j hjl
    have e1:=(hw.u i x hx).1
    have e2:=h.wn x (RS hx)
    rw[show(gm s.an).toNat+i=(x.cO-1).toNat by simp only[gm];omega];exact e2
   refine⟨⟨rfl,U5 _,.inr ⟨rfl,rfl⟩,U5 _,rfl,rfl,U5 _,.inr ⟨rfl,rfl⟩,U8 _,by simp only[ks,hnx];exact U5 _⟩,?_,by simp⟩
   refine⟨h.cl,h.pq,h.pg,h.pv,h.sg,h.s1,h.sk,h.dg,h.dk,h.pr,?_,?_,fun x hx=>h.wn x (vg _ _ x hx),?_,?_⟩
   ·simp only[ks,hnx];exact h.pe
   ·simp only[ks,hnx];exact h.nx
   ·show gm (i7 s.an m.bM)<d.bi.bj
    rw[hacked];simp only[gm] at hak ⊢;omega
   ·rw[hg.2]
    show a.d4+(s.bO.dX+(fa s.an.aw-fa (i7 s.an m.bM).aw))=fX s.ao (gm (i7 s.an m.bM)).toNat
    rw[hacked,show(gm s.an+(j:Int)).toNat=(gm s.an).toNat+j by omega,hb',←hch,hd]
    simp only;omega
  ·exfalso
   have e1:=mR hk.2.1
   rcases hf with q|⟨q1,q2⟩
   ·omega
   ·rw[hk.2.2] at q2;cases q2
 ·exact .none h
theorem F3 {m:az} (hf:m.aP=8→m.bM≤d.bi.bj∨Qi s m):yh d s a (sUp s m):=by
 rw[sUp]
 cases kq m
 ·exact .none h
 simp only[TF,cond_false]
 cases eqB m.aP 1
 ·cases eqB m.aP 3
  ·cases eqB m.aP 5
   ·cases h8:eqB m.aP 8
    ·exact .none h
    ·exact KA h g (hf (mR h8))
   ·exact Hv h m
  ·exact Hy h g m
 ·exact KB h g m
theorem Ag:yh d s a ⟨jj s,[]⟩:=by
 have hr:=qq g.sp.rcd
 exact⟨⟨rfl,U5 _,.inr ⟨rfl,rfl⟩,U5 _,rfl,rfl,U5 _,.inr ⟨rfl,rfl⟩,U8 _,U5 _⟩,
  {h with pq:=by show(0:Int)≤s.bv.cO;omega,pg:=fun e=>by simp[jj] at e,pv:=fun e=>by simp[jj] at e},by simp⟩
theorem Ch (b:List Int):yh d s a ⟨(pL s b).1,[]⟩:=by
 rw[pL]
 cases leB 24 ((s.ao.length:Nat):Int)||ltB 60 ((b.length:Nat):Int)
 ·simp only[cond_false]
  have hp:s.ao<+:s.ao++[(⟨b⟩:bw)]:=List.prefix_append _ _
  have hnx:=g.sp.nx
  refine⟨⟨rfl,U5 _,.inr ⟨rfl,rfl⟩,U5 _,rfl,rfl,U5 _,.inr ⟨rfl,rfl⟩,hp,U5 _⟩,
   {h with pr:=h.pr.trans hp,pe:=fun x hx=>⟨yJ hp (h.pe x hx).1,(h.pe x hx).2⟩,wn:=fun x hx=>yJ hp (h.wn x hx),ch:=?_},by simp⟩
  show a.d4+s.bO.dX=fX (s.ao++[(⟨b⟩:bw)]) (gm s.an).toNat
  rw[GJ hp (by simp only[gm];omega)];exact h.ch
 ·exact .none h
end
end Go.AM
namespace Go.AM
open Go.Proofs
attribute [local simp] bz be bb
theorem uA.mono {s s':ag} {x:av} (h:uA s x) (h1:s'.bv=s.bv) (h2:s'.ao=s.ao) (h3:s.an.bj≤s'.an.bj):uA s' x:=by
 obtain⟨k,g,e,b,q1,q2,q3,q4⟩:=h
 exact⟨k,g,e,b,q1,⟨q2.1,by omega⟩,by rw[h2];exact q3,by rw[h1];exact q4⟩
structure TrS (d:ay) (s:ag) (a:aj) (s':ag) (a':aj) (r:List av):Prop where
 rc:s'.bv=s.bv
 gn:s'.aa=s.aa
 rk:s'.aJ=s.aJ
 su:s'.ao=s.ao
 st:s'.bg=s.bg
 wn:s.an.bj≤s'.an.bj
 si:SI d s' a'
 rd:∀x∈r,uA s' x
theorem TrS.mo {d:ay} {s s':ag} {a a':aj} {r:List av} (h:TrS d s a s' a' r):rG d s d s':=
 ⟨rfl,U5 _,.inr ⟨rfl,rfl⟩,U5 _,by rw[h.rc],by rw[h.rc],by rw[h.rc];exact U5 _,.inr ⟨h.gn,h.rk⟩,by rw[h.su];exact U8 _,h.wn⟩
theorem SI.pay {d:ay} {s s':ag} {a a':aj} (h:SI d s a) (h1:s'.bv=s.bv) (h2:s'.aD=s.aD) (h3:s'.bC=s.bC) (h4:s'.bg=s.bg) (h5:s'.aa=s.aa) (h6:s'.aJ=s.aJ) (h7:s'.ao=s.ao) (h8:s'.an=s.an) (h9:a'.d4+s'.bO.dX=a.d4+s.bO.dX):SI d s' a':=
 ⟨by rw[h1];exact h.cl,by rw[h1,h3];exact h.pq,by rw[h3,h5];exact h.pg,by rw[h1,h2,h3];exact h.pv,by rw[h1,h5];exact h.sg,by rw[h4,h5];exact h.s1,by rw[h1,h5,h6];exact h.sk,h.dg,by rw[h1];exact h.dk,by rw[h7];exact h.pr,by rw[h7,h8];exact h.pe,by rw[h8];exact h.nx,by rw[h7,h8];exact h.wn,by rw[h8];exact h.ak,by rw[h9,h7,h8];exact h.ch⟩
theorem GU {s:ag} {a:aj} (h:SG s a) (n:Int):(cQ s a n).2.d4+(cQ s a n).1.bO.dX=a.d4+s.bO.dX:=by
 rw[cQ]
 cases leB (jP s n) 0
 ·have:=(z7 h.mo.acc s.bO.au (xc (jP s n) s.gN.ei)).2.2.2.2.2.1
  simp only[cond_false,iQ,this]
 ·rfl
theorem JW {d:ay} {s:ag} {a:aj} (h:SI d s a) (g:SG s a) (n:Int):SI d (cQ s a n).1 (cQ s a n).2:=by
 obtain⟨q,hk⟩:=lS s a n
 have hp:=GU g n
 exact h.pay (by rw[hk]) (by rw[hk]) (by rw[hk]) (by rw[hk]) (by rw[hk]) (by rw[hk]) (by rw[hk]) (by rw[hk]) hp
theorem Pt {d:ay} {s:ag} {a:aj} (h:SI d s a) (g:SG s a) {x:bw} (e:oK s=some x):SI d {s with an:=mF s.an x.aN} a:=by
 obtain⟨hm,_,hx,hn,hl,hb⟩:=lk g.sp e
 have hnx:=h.nx
 have hac:gm (mF s.an x.aN)=gm s.an:=by simp only[gm,mF,List.length_append,List.length_cons,Uu];omega
 refine⟨h.cl,h.pq,h.pg,h.pv,h.sg,h.s1,h.sk,h.dg,h.dk,h.pr,fun y hy=>⟨(h.pe y hy).1,by have:=(h.pe y hy).2;simp only[mF];omega⟩,by simp only[mF];omega,fun y hy=>?_,by rw[hac];exact h.ak,by rw[hac];exact h.ch⟩
 simp only[mF,TG,List.mem_singleton] at hy
 rcases hy with hy|hy
 ·exact h.wn y hy
 ·subst hy;exact hx
theorem Ck {d:ay} {s:ag} {a:aj} (h:SI d s a) (h1:s.bg=1) {y:ae} (hy:s.ao[(y.cO-1).toNat]?=some ⟨y.aN⟩) (hk:1≤y.cO∧y.cO<s.an.bj) (e:Int):uA s (gJ s.aJ s.aa e y):=by
 have hg:=h.s1 h1
 exact⟨y.cO,s.aa,e,y.aN,hg,hk,hy,by rw[h.sk hg]⟩
theorem Cm {d:ay}:∀(k:Nat) {s:ag} {a:aj} {r:List av},SI d s a→SG s a→s.bg=1→(∀x∈r,uA s x)→TrS d s a (gK k s a r).1 (gK k s a r).2.1 (gK k s a r).2.2
 |0,s,a,r,h,g,h1,hr=>⟨rfl,rfl,rfl,rfl,rfl,U5 _,h,hr⟩
 |k+1,s,a,r,h,g,h1,hr=>by
  rw[gK]
  cases e:oK s with
  |none=>exact⟨rfl,rfl,rfl,rfl,rfl,U5 _,h,hr⟩
  |some x=>
   obtain⟨hm,_,hx,hn,hl,hb⟩:=lk g.sp e
   have he:=tv g (n:=((x.aN.length:Nat):Int)) (by omega)
   have hsi:=JW h g ((x.aN.length:Nat):Int)
   obtain⟨q,hk⟩:=lS s a ((x.aN.length:Nat):Int)
   have hw:=g.sp.win.n
   simp only
   cases hq:ltB 0 (jP (cQ s a ((x.aN.length:Nat):Int)).1 ((x.aN.length:Nat):Int))
   ·simp only[cond_false]
    have e':oK (cQ s a ((x.aN.length:Nat):Int)).1=some x:=by rw[hk];exact e
    have hsent:=Pt hsi he e'
    have hsg:=yL he e' hq
    have hst:({(cQ s a ((x.aN.length:Nat):Int)).1 with an:=mF (cQ s a ((x.aN.length:Nat):Int)).1.an x.aN}:ag).bg=1:=by rw[hk];exact h1
    have hrad:∀y∈r++[gJ (cQ s a ((x.aN.length:Nat):Int)).1.aJ (cQ s a ((x.aN.length:Nat):Int)).1.aa (cQ s a ((x.aN.length:Nat):Int)).1.aR ⟨(cQ s a ((x.aN.length:Nat):Int)).1.an.bj,x.aN⟩],uA {(cQ s a ((x.aN.length:Nat):Int)).1 with an:=mF (cQ s a ((x.aN.length:Nat):Int)).1.an x.aN} y:=by
     intro y hy
     rcases List.mem_append.1 hy with hy|hy
     ·exact(hr y hy).mono (by rw[hk]) (by rw[hk]) (by rw[hk];simp only[mF];omega)
     ·simp at hy;subst hy
      exact Ck hsent hst (y:=⟨(cQ s a ((x.aN.length:Nat):Int)).1.an.bj,x.aN⟩) (by rw[hk];exact hx) (by rw[hk];simp only[mF];omega) _
    have ih:=Cm k hsent hsg hst hrad
    refine⟨by rw[ih.rc,hk],by rw[ih.gn,hk],by rw[ih.rk,hk],by rw[ih.su,hk],by rw[ih.st,hk],?_,ih.si,ih.rd⟩
    refine U9 ?_ ih.wn
    rw[hk];simp only[mF];omega
   ·simp only[cond_true]
    refine⟨by rw[hk],by rw[hk],by rw[hk],by rw[hk],by rw[hk],by rw[hk];exact U5 _,hsi,fun y hy=>(hr y hy).mono (by rw[hk]) (by rw[hk]) (by rw[hk];exact U5 _)⟩
theorem GF {d:ay} {s:ag} {a:aj} (h:SI d s a) (g:SG s a) (h1:s.bg=1):∀x∈vh s,uA s x:=by
 rw[vh,h1]
 simp only[be,cond_true]
 intro x hx
 obtain⟨y,hy,rfl⟩:=List.mem_map.1 hx
 have hy:=U6 hy
 obtain⟨k,hk⟩:=SS hy
 have hu:=(g.sp.win.u k y hk).1
 have hf:=g.sp.win.f
 have hlt:=(List.getElem?_eq_some_iff.1 hk).1
 exact Ck h h1 (h.wn y hy) (by omega) _
theorem Ci {d:ay} {s:ag} {a:aj} (h:SI d s a) (g:SG s a) (m:aK):TrS d s a (md s a m).aF (md s a m).dQ (md s a m).b7∧∀x∈(md s a m).iy,x.aP=7:=by
 rw[md]
 cases h1:eqB s.bg 1
 ·exact⟨⟨rfl,rfl,rfl,rfl,rfl,U5 _,h,by simp⟩,by simp⟩
 ·have h1:=mR h1
  simp only[TF,cond_false]
  have hg:=zE g
  have hq:=vQ g.sp
  cases ltB 4 (jh s)
  ·simp only[cond_false,Jk]
   have hsi:SI d {s with d9:=jh s,dS:=(lX s).2,bO:=(fS s a).2} (fS s a).1:=h.pay rfl rfl rfl rfl rfl rfl rfl rfl hg.2.2.2.1
   have ht:=Cm 2 hsi (g.upd hq (vW g.sp)) h1 (r:=[]) (by simp)
   refine⟨⟨ht.rc,ht.gn,ht.rk,ht.su,ht.st,ht.wn,ht.si,fun x hx=>?_⟩,by simp⟩
   rcases List.mem_append.1 hx with hx|hx
   ·have hx':uA s x:=by
     rw[lX] at hx;revert hx
     cases A6 s
     ·simp
     ·cases ltB 0 s.dS
      ·exact GF h g h1 x
      ·simp
    exact hx'.mono ht.rc ht.su ht.wn
   ·exact ht.rd x hx
  ·simp only[cond_true,F2]
   refine⟨⟨rfl,rfl,rfl,rfl,rfl,U5 _,h.pay rfl rfl rfl rfl rfl rfl rfl rfl hg.2.2.2.1,by simp⟩,fun x hx=>?_⟩
   obtain⟨c,_,rfl⟩:=List.mem_map.1 hx
   rfl
end Go.AM
namespace Go.AM
open Go.Proofs
attribute [local simp] bz be bb
theorem MP.key {nc i:Nat} {d:ay} {s:ag} {a:aj} (h:MP nc i d s a):d.dq.eP=s.bv.eP:=by
 have:=h.ids
 simp only[Ba,hV,eqB_t] at this
 exact this.2
theorem Ks {n:ab} (h:PI n) {i:Nat} {d:ay} {s:ag} {a:aj} (hd:n.ai[i]?=some d) (hs:n.am[i]?=some s) (ha:n.aY[i]?=some a) {r:bH} (st:yh d s a r):PI (xg n i r):=by
 have hi:=(List.getElem?_eq_some_iff.1 hs).1
 have hm:=h.setM hd hs st.mo (a':=a) st.si
 rw[dK hd,dK ha] at hm
 refine PI.sends _ hm fun f hf x y hx hy=>?_
 obtain⟨m,hm',rfl⟩:=List.mem_map.1 hf
 simp only[hU,Us] at hx hy
 have e1:(n.am.set i r.aF)[i]?=some r.aF:=by simp[hi]
 rw[e1] at hy;rw[hd] at hx
 cases hx;cases hy
 exact⟨fun h1 _=>by simp[hU] at h1,fun _ h1=>by simp[hU] at h1,fun _ _ h3=>.inl (st.sg m hm' h3)⟩
theorem FF {n:ab} (h:PI n) {i:Nat} {d:ay} {s:ag} {a:aj} (hd:n.ai[i]?=some d) (hs:n.am[i]?=some s) (ha:n.aY[i]?=some a) {t:bX} (st:TrS d s a t.aF t.dQ t.b7) (hp:∀x∈t.iy,x.aP=7):PI (rx n i t):=by
 have hi:=(List.getElem?_eq_some_iff.1 hs).1
 have hm:=h.setM hd hs st.mo st.si
 rw[dK hd] at hm
 have e1:(n.am.set i t.aF)[i]?=some t.aF:=by simp[hi]
 have hpg:=PI.sends (t.iy.map (hU i false)) hm fun f hf x y hx hy=>by
  obtain⟨m,hm',rfl⟩:=List.mem_map.1 hf
  have hk:=hp m hm'
  exact⟨fun h1 _=>by simp[hU] at h1,fun _ h1=>by simp[hU] at h1,fun _ _ h3=>by simp only[hU] at h3;omega⟩
 have hkeep:=gT (t.iy.map (hU i false)) {n with am:=n.am.set i t.aF,aY:=n.aY.set i t.dQ}
 refine PI.sends _ hpg fun f hf x y hx hy=>?_
 obtain⟨m,hm',rfl⟩:=List.mem_map.1 hf
 rw[hkeep.2.1] at hy
 simp only[sI,Us] at hy
 rw[e1] at hy;cases hy
 exact⟨fun h1=>by simp[sI] at h1,fun _ _=>.inl (st.rd m hm'),fun _ h1=>by simp[sI] at h1⟩
theorem Gq:∀(c i:Nat) {B:Int} {n:ab},NP B n→B+c<4611686018427387904→PI n→PI (js c i n)
 |0,_,_,_,_,_,h=>h
 |c+1,i,B,n,hn,hB,h=>by
  rw[js]
  cases hd:n.ai[i]? with
  |none=>exact h
  |some d=>
   obtain⟨d',s,a,e1,e2,e3,hm⟩:=hn.at_ (List.getElem?_eq_some_iff.1 hd).1
   rw[hd] at e1;cases e1
   exact Gq c (i+1) (iP hn hd (rU d) (vq hm.dp) hm.dc (by omega)) (by omega) (nz h hd e2 e3 (EJ (h.si i d s a hd e2 e3)))
theorem Gt:∀(c i:Nat) {B:Int} {n:ab},NP B n→B+2000*c<4611686018427387904→PI n→PI (pu c i n)
 |0,_,_,_,_,_,h=>h
 |c+1,i,B,n,hn,hB,h=>by
  rw[pu]
  cases hs:n.am[i]? with
  |none=>exact h
  |some s=>cases ha:n.aY[i]? with
   |none=>exact h
   |some a=>
    have hls:=hn.ls
    have hml:=kn hn.map
    obtain⟨d,s',a',e1,e2,e3,hm⟩:=hn.at_ (i:=i) (by have:=(List.getElem?_eq_some_iff.1 hs).1;omega)
    rw[hs] at e2;rw[ha] at e3;cases e2;cases e3
    have ht:=Ci (h.si i d s a e1 hs ha) hm.sg n.dW
    exact Gt c (i+1) (zY hn hs ha (wh hm.sg (by omega)) (At hm.sg hn.map) (by omega)) (by omega) (FF h e1 hs ha ht.1 ht.2)
theorem Lu {n:ab} (h:PI n) (k:Nat):PI (iN n k):=⟨h.si,fun f hf=>h.fi f (by
 simp only[iN,TG] at hf
 rcases hf with hf|hf
 ·exact U6 hf
 ·exact List.mem_of_mem_drop hf)⟩
theorem GO {B:Int} {n:ab} (hn:NP B n) (h:PI n) (k:Nat):PI (iA n k):=by
 rw[iA]
 cases hf:n.aQ[k]? with
 |none=>exact h
 |some f=>
  have hfm:=RS hf
  have hp:=hn.fs f hfm
  have h1:=Lu h k
  have hdd:=hp.d
  obtain⟨d,s,a,e1,e2,e3,hm⟩:=hn.at_ (i:=f.a9.toNat) (by omega)
  have hfi:=h.fi f hfm d s e1 e2
  have hsi:=h.si _ d s a e1 e2 e3
  have q1:(iN n k).ai[f.a9.toNat]?=some d:=e1
  have q2:(iN n k).am[f.a9.toNat]?=some s:=e2
  have q3:(iN n k).aY[f.a9.toNat]?=some a:=e3
  simp only
  cases xa (iN n k) f.aU
  ·exact⟨h1.si,h1.fi⟩
  ·simp only[TF,cond_false,q1,q2]
   cases hu:f.eb
   ·simp only[cond_false]
    cases eqB d.aU f.aU
    ·exact⟨h1.si,h1.fi⟩
    ·simp only[TF,cond_false]
     cases hr:f.di
     ·exact nz h1 q1 q2 q3 (Ii hsi hm.key (qq hm.sg.sp.rcd).2 (fun e=>hfi.dn hu hr e))
     ·exact nz h1 q1 q2 q3 (Ig hsi (uR.1 hm.dp.rc.v) hm.sg.sp hm.sg.b1 (hfi.rd hu hr))
   ·simp only[cond_true]
    cases hr:f.di||!eqB f.aV.aU f.aU
    ·simp only[cond_false]
     simp only[SX] at hr
     exact Ks h1 q1 q2 q3 (F3 hsi hm.sg (fun e=>hfi.up hu hr.1 e))
    ·exact h1
theorem OM {d:ay} {s:ag} {f:bJ} (h:(bif f.di then f.eb||E9 d f.b7 else bif f.eb then hUp s f.aV else BS d f.aV)=true):FI d s f:=by
 refine⟨fun h1 h2 h3=>?_,fun h1 h2=>?_,fun h1 h2 h3=>?_⟩
 ·rw[h2,h1] at h
  simp only[cond_true,cond_false,hUp,h3,show eqB 8 3=false from by simp[eqB],be,Bool.or_true] at h
  right
  rcases SU _ _ |>.mp h with q|q
  ·exact .inl (km q)
  ·rw[hV] at q;exact .inr ⟨mR q.1,by simpa using q.2⟩
 ·rw[h2,h1] at h
  simp only[cond_true,TL,E9] at h
  right
  rcases SU _ _ |>.mp h with q|q
  ·exact .inl (km q)
  ·rw[hV] at q;exact .inr ⟨mR q.1,by simpa using q.2⟩
 ·rw[h2,h1] at h
  simp only[cond_false,BS,h3,be,cond_true] at h
  right
  rcases SU _ _ |>.mp h with q|q
  ·exact .inl (mR q)
  ·exact .inr (mR q)
end Go.AM
