/- A part. -/
import Derived.Test.YtcnfbcpgepbnkaaGreatM80
set_option linter.unusedVariables false
set_option linter.unusedSimpArgs false
open Option renaming some->ς,none->ξ
open Bool renaming true->ζ,false->η
open True renaming intro->θ
open Option renaming bind->aeP
open List renaming set->aeV
namespace Go.AM
open Go.Proofs
open Tryz
attribute [local irreducible] AWN NS AWO AWR AWC DR DZ cO eB iter
set_option maxRecDepth 100000
set_option maxHeartbeats 4000000
variable{ty:TypeId}{a1 k:Int}{r G g p q:Prop}
def xv(x:Int)(v1:Int):Option (Int×Int):=
 match x with
 |x=>ς (WR (v1+1),(IntKind.u8.wrap (v1):Int))
def j0(a0:List Int)(a1:Int):Option (Int×List Int):=mX xv a0 a1
theorem L3{a0:List Int}{r:Int×List Int}(H:j0 a0 a1=ς r):FnV prog 100 [(200,.row ty 1 (a0.map eU8) (.s 200) ζ)] [.v (.c (.w 200 a0.length)),tI a1] [(200,.row ty 1 (r.2.map eU8) (.s 200) ζ)] (tI r.1) []:=by
 refine fV func100 ntmps100 ?_
 obtain⟨⟨v5,v6⟩,Hj,H⟩:=ob H
 refine jB ⟨[(1,tI v5)],[(200,.row ty 1 (v6.map eU8) (.s 200) ζ)],210⟩ ?_ ?_
 .refine iT Hj (λq=>⟨[(0,.v (.c (.w 200 q.2.2.length))),(1,tI q.1),(5,tI q.2.1)],[(200,.row ty 1 (q.2.2.map eU8) (.s 200) ζ)],210⟩) ?_
  rintro⟨v1,v2,v3⟩ o H
  refine ad ?_
  refine cC H ?_ ?_<;>intro H
  .obtain⟨x,hx,H⟩:=ob H
   obtain⟨⟨k,y⟩,HE,Hz⟩:=ob H
   skip
   have H:(ς (WR (v1+1),(IntKind.u8.wrap (v1):Int)))=ς (k,y):=HE
   refine nA (xwT hx) ?_
   refine sA (stS (enc:=eU8) (a':=(IntKind.u8.wrap (v1):Int)) hx) ?_
   cases H
   cases Hz
   refine yH ?_
   exact wo
  exact aE H
 cases H
 exact eo
theorem L4:Fn prog 100 [aL [],aI k] [.c (.d (.i .i64 k))]:=by
 have H:=Oo k
 refine fI func100 ntmps100 ?_
 refine iT H (λq=>⟨[(0,.v (.c (.d η (.l [])))),(1,tI q.1),(5,tI q.2)],[],0⟩) ?_
 rintro⟨v1,v2⟩ o H
 refine wI ?_
 refine cC H ?_ ?_<;>intro H
 .cases H
 cases H
 refine HS (λhq=>?_)
 cases hq
 refine wI ?_
 exact iw
theorem xy{a0:List Int}{y:List Int}(H:j0 a0 a1=ς (k,y)):MkS prog 100 (a0.map eU8) (y.map eU8) a1 k:=
 OG (sz:=1) (λ_=>rfl) (JU H) (λty=>L3 H) (λe=>Yh (e▸H)▸L4)
def zp(x:Int)(v1:Int):Option (Int×Int):=
 match x with
 |x=>ς (WR (v1+1),(v1:Int))
def pT(a0:List Int)(a1:Int):Option (Int×List Int):=mX zp a0 a1
theorem Om{a0:List Int}{r:Int×List Int}(H:pT a0 a1=ς r):FnV prog 98 [(200,.row ty 1 (a0.map eI) (.s 200) ζ)] [.v (.c (.w 200 a0.length)),tI a1] [(200,.row ty 1 (r.2.map eI) (.s 200) ζ)] (tI r.1) []:=by
 refine fV func98 ntmps98 ?_
 obtain⟨⟨v5,v6⟩,Hj,H⟩:=ob H
 refine jB ⟨[(1,tI v5)],[(200,.row ty 1 (v6.map eI) (.s 200) ζ)],210⟩ ?_ ?_
 .refine iT Hj (λq=>⟨[(0,.v (.c (.w 200 q.2.2.length))),(1,tI q.1),(5,tI q.2.1)],[(200,.row ty 1 (q.2.2.map eI) (.s 200) ζ)],210⟩) ?_
  rintro⟨v1,v2,v3⟩ o H
  refine ad ?_
  refine cC H ?_ ?_<;>intro H
  .obtain⟨x,hx,H⟩:=ob H
   obtain⟨⟨k,y⟩,HE,Hz⟩:=ob H
   skip
   have H:(ς (WR (v1+1),(v1:Int)))=ς (k,y):=HE
   refine nA (xwT hx) ?_
   refine sA (stS (enc:=eI) (a':=(v1:Int)) hx) ?_
   cases H
   cases Hz
   refine yH ?_
   exact wo
  exact aE H
 cases H
 exact eo
theorem On:Fn prog 98 [aL [],aI k] [.c (.d (.i .i64 k))]:=by
 have H:=Oo k
 refine fI func98 ntmps98 ?_
 refine iT H (λq=>⟨[(0,.v (.c (.d η (.l [])))),(1,tI q.1),(5,tI q.2)],[],0⟩) ?_
 rintro⟨v1,v2⟩ o H
 refine wI ?_
 refine cC H ?_ ?_<;>intro H
 .cases H
 cases H
 refine HS (λhq=>?_)
 cases hq
 refine wI ?_
 exact iw
theorem Fj{a0:List Int}{y:List Int}(H:pT a0 a1=ς (k,y)):MkS prog 98 (a0.map eI) (y.map eI) a1 k:=
 OG (sz:=1) (λ_=>rfl) (JU H) (λty=>Om H) (λe=>Yh (e▸H)▸On)
theorem Ys(h0:r)(h1:p)(h2:q)(w:g)(h:r->p->q->g->G:=by(intro h0 h1 h2 w;refine nA (xwT h2) ?_;refine mkA (enc:=b9) (a':=(⟨_⟩:aP)) (hs':=by(dsimp only[aeV,b9];(first|done|exact rfl))) h0 h1 ?_;exact w)):G:=h h0 h1 h2 w
def rF(x:aP)(v1:Int):Option (Int×aP):=
 match x with
 |⟨x_Data⟩=>aeP (j0 x_Data v1) λ(r1,y1)=>ς (r1,(⟨y1⟩:aP))
def jf(a0:List aP)(a1:Int):Option (Int×List aP):=mX rF a0 a1
theorem FW{a0:List aP}{r:Int×List aP}(H:jf a0 a1=ς r):FnV prog 97 [(200,.row ty 1 (a0.map b9) (.s 200) ζ)] [.v (.c (.w 200 a0.length)),tI a1] [(200,.row ty 1 (r.2.map b9) (.s 200) ζ)] (tI r.1) []:=by
 refine fV func97 ntmps97 ?_
 obtain⟨⟨v5,v6⟩,Hj,H⟩:=ob H
 refine jB ⟨[(1,tI v5)],[(200,.row ty 1 (v6.map b9) (.s 200) ζ)],210⟩ ?_ ?_
 .refine iT Hj (λq=>⟨[(0,.v (.c (.w 200 q.2.2.length))),(1,tI q.1),(5,tI q.2.1)],[(200,.row ty 1 (q.2.2.map b9) (.s 200) ζ)],210⟩) ?_
  rintro⟨v1,v2,v3⟩ o H
  refine ad ?_
  refine cC H ?_ ?_<;>intro H
  .obtain⟨x,hx,H⟩:=ob H
   obtain⟨⟨k,y⟩,HE,Hz⟩:=ob H
   obtain⟨x_Data⟩:=x
   have H:(aeP (j0 x_Data v1) λ(r1,y1)=>ς (r1,(⟨y1⟩:aP)))=ς (k,y):=HE
   obtain⟨⟨r1,y1⟩,q1,H⟩:=ob H
   refine Ys (xy q1) (hx) hx ?_
   cases H
   cases Hz
   refine yH ?_
   exact wo
  exact aE H
 cases H
 exact eo
theorem FX:Fn prog 97 [aL [],aI k] [.c (.d (.i .i64 k))]:=by
 have H:=Oo k
 refine fI func97 ntmps97 ?_
 refine iT H (λq=>⟨[(0,.v (.c (.d η (.l [])))),(1,tI q.1),(5,tI q.2)],[],0⟩) ?_
 rintro⟨v1,v2⟩ o H
 refine wI ?_
 refine cC H ?_ ?_<;>intro H
 .cases H
 cases H
 refine HS (λhq=>?_)
 cases hq
 refine wI ?_
 exact iw
theorem yx{a0:List aP}{y:List aP}(H:jf a0 a1=ς (k,y)):MkS prog 97 (a0.map b9) (y.map b9) a1 k:=
 OG (sz:=1) (λ_=>rfl) (JU H) (λty=>FW H) (λe=>Yh (e▸H)▸FX)
theorem FZ(h1:p)(h2:q)(w:g)(h:p->q->g->G:=by(intro h1 h2 w;refine nA (xwT h2) ?_;refine sA (stS (enc:=an) (a':=(⟨_,_⟩:ab)) (hs:=by(dsimp only[mI,an];(first|done|exact rfl))) h1) ?_;exact w)):G:=h h1 h2 w
theorem F2(h0:r)(h1:p)(h2:q)(w:g)(h:r->p->q->g->G:=by(intro h0 h1 h2 w;refine nA (xwT h2) ?_;refine mkA (enc:=an) (a':=(⟨_,_⟩:ab)) (hs':=by(dsimp only[aeV,an];(first|done|exact rfl))) h0 h1 ?_;exact w)):G:=h h0 h1 h2 w
def ka(x:ab)(v1:Int):Option (Int×ab):=
 match x with
 |⟨x_Seq,x_Data⟩=>aeP (j0 x_Data (WR (v1+1))) λ(r1,y1)=>ς (r1,(⟨v1,y1⟩:ab))
def ew(a0:List ab)(a1:Int):Option (Int×List ab):=mX ka a0 a1
theorem xE{a0:List ab}{r:Int×List ab}(H:ew a0 a1=ς r):FnV prog 96 [(200,.row ty 2 (a0.map an) (.s 200) ζ)] [.v (.c (.w 200 a0.length)),tI a1] [(200,.row ty 2 (r.2.map an) (.s 200) ζ)] (tI r.1) []:=by
 refine fV func96 ntmps96 ?_
 obtain⟨⟨v5,v6⟩,Hj,H⟩:=ob H
 refine jB ⟨[(1,tI v5)],[(200,.row ty 2 (v6.map an) (.s 200) ζ)],210⟩ ?_ ?_
 .refine iT Hj (λq=>⟨[(0,.v (.c (.w 200 q.2.2.length))),(1,tI q.1),(5,tI q.2.1)],[(200,.row ty 2 (q.2.2.map an) (.s 200) ζ)],210⟩) ?_
  rintro⟨v1,v2,v3⟩ o H
  refine ad ?_
  refine cC H ?_ ?_<;>intro H
  .obtain⟨x,hx,H⟩:=ob H
   obtain⟨⟨k,y⟩,HE,Hz⟩:=ob H
   obtain⟨x_Seq,x_Data⟩:=x
   have H:(aeP (j0 x_Data (WR (v1+1))) λ(r1,y1)=>ς (r1,(⟨v1,y1⟩:ab)))=ς (k,y):=HE
   refine FZ hx hx ?_
   obtain⟨⟨r1,y1⟩,q1,H⟩:=ob H
   refine F2 (xy q1) (ixS hx) hx ?_
   cases H
   cases Hz
   refine yH ?_
   exact wo
  exact aE H
 cases H
 exact eo
theorem xF:Fn prog 96 [aL [],aI k] [.c (.d (.i .i64 k))]:=by
 have H:=Oo k
 refine fI func96 ntmps96 ?_
 refine iT H (λq=>⟨[(0,.v (.c (.d η (.l [])))),(1,tI q.1),(5,tI q.2)],[],0⟩) ?_
 rintro⟨v1,v2⟩ o H
 refine wI ?_
 refine cC H ?_ ?_<;>intro H
 .cases H
 cases H
 refine HS (λhq=>?_)
 cases hq
 refine wI ?_
 exact iw
theorem o7{a0:List ab}{y:List ab}(H:ew a0 a1=ς (k,y)):MkS prog 96 (a0.map an) (y.map an) a1 k:=
 OG (sz:=2) (λ_=>rfl) (JU H) (λty=>xE H) (λe=>Yh (e▸H)▸xF)
theorem De(h1:p)(h2:q)(w:g)(h:p->q->g->G:=by(intro h1 h2 w;refine nA (xwT h2) ?_;refine sA (stS (enc:=aO) (a':=(⟨_,_⟩:ah)) (hs:=by(dsimp only[mI,aO];(first|done|exact rfl))) h1) ?_;exact w)):G:=h h1 h2 w
def mF(x:ah)(v1:Int):Option (Int×ah):=
 match x with
 |⟨x_SessionID,x_Amount⟩=>ς ((WR ((WR (v1+1))+1)),(⟨v1,(WR (v1+1))⟩:ah))
def iO(a0:List ah)(a1:Int):Option (Int×List ah):=mX mF a0 a1
theorem Bf{a0:List ah}{r:Int×List ah}(H:iO a0 a1=ς r):FnV prog 99 [(200,.row ty 2 (a0.map aO) (.s 200) ζ)] [.v (.c (.w 200 a0.length)),tI a1] [(200,.row ty 2 (r.2.map aO) (.s 200) ζ)] (tI r.1) []:=by
 refine fV func99 ntmps99 ?_
 obtain⟨⟨v5,v6⟩,Hj,H⟩:=ob H
 refine jB ⟨[(1,tI v5)],[(200,.row ty 2 (v6.map aO) (.s 200) ζ)],210⟩ ?_ ?_
 .refine iT Hj (λq=>⟨[(0,.v (.c (.w 200 q.2.2.length))),(1,tI q.1),(5,tI q.2.1)],[(200,.row ty 2 (q.2.2.map aO) (.s 200) ζ)],210⟩) ?_
  rintro⟨v1,v2,v3⟩ o H
  refine ad ?_
  refine cC H ?_ ?_<;>intro H
  .obtain⟨x,hx,H⟩:=ob H
   obtain⟨⟨k,y⟩,HE,Hz⟩:=ob H
   obtain⟨x_SessionID,x_Amount⟩:=x
   have H:(ς ((WR ((WR (v1+1))+1)),(⟨v1,(WR (v1+1))⟩:ah)))=ς (k,y):=HE
   refine De hx hx ?_
   refine De (ixS hx) hx ?_
   cases H
   cases Hz
   refine yH ?_
   exact wo
  exact aE H
 cases H
 exact eo
theorem Bg:Fn prog 99 [aL [],aI k] [.c (.d (.i .i64 k))]:=by
 have H:=Oo k
 refine fI func99 ntmps99 ?_
 refine iT H (λq=>⟨[(0,.v (.c (.d η (.l [])))),(1,tI q.1),(5,tI q.2)],[],0⟩) ?_
 rintro⟨v1,v2⟩ o H
 refine wI ?_
 refine cC H ?_ ?_<;>intro H
 .cases H
 cases H
 refine HS (λhq=>?_)
 cases hq
 refine wI ?_
 exact iw
theorem Bh{a0:List ah}{y:List ah}(H:iO a0 a1=ς (k,y)):MkS prog 99 (a0.map aO) (y.map aO) a1 k:=
 OG (sz:=2) (λ_=>rfl) (JU H) (λty=>Bf H) (λe=>Yh (e▸H)▸Bg)
theorem mCell(h1:p)(h2:q)(w:g)(h:p->q->g->G:=by(intro h1 h2 w;refine nA (xwT h2) ?_;refine sA (stS (enc:=de) (a':=(⟨_,_⟩:cZ)) (hs:=by(dsimp only[mI,de];(first|done|exact rfl))) h1) ?_;exact w)):G:=h h1 h2 w
theorem nCell(h0:r)(h1:p)(h2:q)(w:g)(h:r->p->q->g->G:=by(intro h0 h1 h2 w;refine nA (xwT h2) ?_;refine mkA (enc:=de) (a':=(⟨_,_⟩:cZ)) (hs':=by(dsimp only[aeV,de];(first|done|exact rfl))) h0 h1 ?_;exact w)):G:=h h0 h1 h2 w
def xB(x:cZ)(v1:Int):Option (Int×cZ):=
 match x with
 |⟨x_Area,x_Neighbors⟩=>aeP (pT x_Neighbors (WR (v1+1))) λ(r1,y1)=>ς (r1,(⟨v1,y1⟩:cZ))
def xA(a0:List cZ)(a1:Int):Option (Int×List cZ):=mX xB a0 a1
theorem L5{a0:List cZ}{r:Int×List cZ}(H:xA a0 a1=ς r):FnV prog 95 [(200,.row ty 2 (a0.map de) (.s 200) ζ)] [.v (.c (.w 200 a0.length)),tI a1] [(200,.row ty 2 (r.2.map de) (.s 200) ζ)] (tI r.1) []:=by
 refine fV func95 ntmps95 ?_
 obtain⟨⟨v5,v6⟩,Hj,H⟩:=ob H
 refine jB ⟨[(1,tI v5)],[(200,.row ty 2 (v6.map de) (.s 200) ζ)],210⟩ ?_ ?_
 .refine iT Hj (λq=>⟨[(0,.v (.c (.w 200 q.2.2.length))),(1,tI q.1),(5,tI q.2.1)],[(200,.row ty 2 (q.2.2.map de) (.s 200) ζ)],210⟩) ?_
  rintro⟨v1,v2,v3⟩ o H
  refine ad ?_
  refine cC H ?_ ?_<;>intro H
  .obtain⟨x,hx,H⟩:=ob H
   obtain⟨⟨k,y⟩,HE,Hz⟩:=ob H
   obtain⟨x_Area,x_Neighbors⟩:=x
   have H:(aeP (pT x_Neighbors (WR (v1+1))) λ(r1,y1)=>ς (r1,(⟨v1,y1⟩:cZ)))=ς (k,y):=HE
   refine mCell hx hx ?_
   obtain⟨⟨r1,y1⟩,q1,H⟩:=ob H
   refine nCell (Fj q1) (ixS hx) hx ?_
   cases H
   cases Hz
   refine yH ?_
   exact wo
  exact aE H
 cases H
 exact eo
theorem nB(h1:p)(h2:q)(w:g)(h:p->q->g->G:=by(intro h1 h2 w;refine nA (xwT h2) ?_;refine sA (stS (enc:=bG) (a':=(⟨⟨⟨_,_⟩,_,_⟩,_,_,_,_,_,_,_,⟨_,_,_⟩⟩:aF)) (hs:=by(dsimp only[mI,bG];(first|done|exact rfl))) h1) ?_;exact w)):G:=h h1 h2 w
theorem Tm(h0:r)(h1:p)(h2:q)(w:g)(h:r->p->q->g->G:=by(intro h0 h1 h2 w;refine nA (xwT h2) ?_;refine mkA (enc:=bG) (a':=(⟨⟨⟨_,_⟩,_,_⟩,_,_,_,_,_,_,_,⟨_,_,_⟩⟩:aF)) (hs':=by(dsimp only[aeV,bG];(first|done|exact rfl))) h0 h1 ?_;exact w)):G:=h h0 h1 h2 w
def tN(x:aF)(v1:Int):Option (Int×aF):=
 match x with
 |⟨⟨⟨x_Card_ID_Network,x_Card_ID_Number⟩,x_Card_Key,x_Card_LastSeq⟩,x_State,x_Cell,x_Generation,x_RootKey,x_Epoch,x_PathConfirmed,x_Wait,⟨x_Receiver_Next,x_Receiver_Pending,x_Receiver_Delivered⟩⟩=>aeP (ew x_Receiver_Pending (WR ((WR ((WR ((WR ((WR ((WR ((WR ((WR ((WR ((WR ((WR ((WR (v1+1))+1))+1))+1))+1))+1))+1))+1))+1))+1))+1))+1))) λ(r1,y1)=>aeP (jf x_Receiver_Delivered r1) λ(r2,y2)=>ς (r2,(⟨⟨⟨v1,(WR (v1+1))⟩,(WR ((WR (v1+1))+1)),(WR ((WR ((WR (v1+1))+1))+1))⟩,(WR ((WR ((WR ((WR (v1+1))+1))+1))+1)),(WR ((WR ((WR ((WR ((WR (v1+1))+1))+1))+1))+1)),(WR ((WR ((WR ((WR ((WR ((WR (v1+1))+1))+1))+1))+1))+1)),(WR ((WR ((WR ((WR ((WR ((WR ((WR (v1+1))+1))+1))+1))+1))+1))+1)),(WR ((WR ((WR ((WR ((WR ((WR ((WR ((WR (v1+1))+1))+1))+1))+1))+1))+1))+1)),(eqB (Int.tmod (WR ((WR ((WR ((WR ((WR ((WR ((WR ((WR ((WR (v1+1))+1))+1))+1))+1))+1))+1))+1))+1)) 3) 0),(WR ((WR ((WR ((WR ((WR ((WR ((WR ((WR ((WR ((WR (v1+1))+1))+1))+1))+1))+1))+1))+1))+1))+1)),⟨(WR ((WR ((WR ((WR ((WR ((WR ((WR ((WR ((WR ((WR ((WR (v1+1))+1))+1))+1))+1))+1))+1))+1))+1))+1))+1)),y1,y2⟩⟩:aF))
def xC(a0:List aF)(a1:Int):Option (Int×List aF):=mX tN a0 a1
theorem H6{a0:List aF}{r:Int×List aF}(H:xC a0 a1=ς r):FnV prog 46 [(200,.row ty 14 (a0.map bG) (.s 200) ζ)] [.v (.c (.w 200 a0.length)),tI a1] [(200,.row ty 14 (r.2.map bG) (.s 200) ζ)] (tI r.1) []:=by
 refine fV func46 ntmps46 ?_
 obtain⟨⟨v5,v6⟩,Hj,H⟩:=ob H
 refine jB ⟨[(1,tI v5)],[(200,.row ty 14 (v6.map bG) (.s 200) ζ)],210⟩ ?_ ?_
 .refine iT Hj (λq=>⟨[(0,.v (.c (.w 200 q.2.2.length))),(1,tI q.1),(5,tI q.2.1)],[(200,.row ty 14 (q.2.2.map bG) (.s 200) ζ)],210⟩) ?_
  rintro⟨v1,v2,v3⟩ o H
  refine ad ?_
  refine cC H ?_ ?_<;>intro H
  .obtain⟨x,hx,H⟩:=ob H
   obtain⟨⟨k,y⟩,HE,Hz⟩:=ob H
   obtain⟨⟨⟨x_Card_ID_Network,x_Card_ID_Number⟩,x_Card_Key,x_Card_LastSeq⟩,x_State,x_Cell,x_Generation,x_RootKey,x_Epoch,x_PathConfirmed,x_Wait,⟨x_Receiver_Next,x_Receiver_Pending,x_Receiver_Delivered⟩⟩:=x
   have H:(aeP (ew x_Receiver_Pending (WR ((WR ((WR ((WR ((WR ((WR ((WR ((WR ((WR ((WR ((WR ((WR (v1+1))+1))+1))+1))+1))+1))+1))+1))+1))+1))+1))+1))) λ(r1,y1)=>aeP (jf x_Receiver_Delivered r1) λ(r2,y2)=>ς (r2,(⟨⟨⟨v1,(WR (v1+1))⟩,(WR ((WR (v1+1))+1)),(WR ((WR ((WR (v1+1))+1))+1))⟩,(WR ((WR ((WR ((WR (v1+1))+1))+1))+1)),(WR ((WR ((WR ((WR ((WR (v1+1))+1))+1))+1))+1)),(WR ((WR ((WR ((WR ((WR ((WR (v1+1))+1))+1))+1))+1))+1)),(WR ((WR ((WR ((WR ((WR ((WR ((WR (v1+1))+1))+1))+1))+1))+1))+1)),(WR ((WR ((WR ((WR ((WR ((WR ((WR ((WR (v1+1))+1))+1))+1))+1))+1))+1))+1)),(eqB (Int.tmod (WR ((WR ((WR ((WR ((WR ((WR ((WR ((WR ((WR (v1+1))+1))+1))+1))+1))+1))+1))+1))+1)) 3) 0),(WR ((WR ((WR ((WR ((WR ((WR ((WR ((WR ((WR ((WR (v1+1))+1))+1))+1))+1))+1))+1))+1))+1))+1)),⟨(WR ((WR ((WR ((WR ((WR ((WR ((WR ((WR ((WR ((WR ((WR (v1+1))+1))+1))+1))+1))+1))+1))+1))+1))+1))+1)),y1,y2⟩⟩:aF)))=ς (k,y):=HE
   refine nB hx hx ?_
   refine nB (ixS hx) hx ?_
   refine nB (ixS hx) hx ?_
   refine nB (ixS hx) hx ?_
   refine nB (ixS hx) hx ?_
   refine nB (ixS hx) hx ?_
   refine nB (ixS hx) hx ?_
   refine nB (ixS hx) hx ?_
   refine nB (ixS hx) hx ?_
   refine nA (ir rfl rfl rfl (by decide)) ?_
   refine nB (ixS hx) hx ?_
   refine nB (ixS hx) hx ?_
   refine nB (ixS hx) hx ?_
   obtain⟨⟨r1,y1⟩,q1,H⟩:=ob H
   refine Tm (o7 q1) (ixS hx) hx ?_
   obtain⟨⟨r2,y2⟩,q2,H⟩:=ob H
   refine Tm (yx q2) (ixS hx) hx ?_
   cases H
   cases Hz
   refine yH ?_
   exact wo
  exact aE H
 cases H
 exact eo
theorem dZ(h1:p)(h2:q)(w:g)(h:p->q->g->G:=by(intro h1 h2 w;refine nA (xwT h2) ?_;refine sA (stS (enc:=aM) (a':=(⟨⟨⟨_,_⟩,_,_⟩,⟨_,_,_,_⟩,_,⟨_,_,_,_,_⟩,_,_,_,_,_,_,⟨_,_,_⟩,_,⟨_,_⟩,_,⟨_,_,_⟩⟩:ag)) (hs:=by(dsimp only[mI,aM];(first|done|exact rfl))) h1) ?_;exact w)):G:=h h1 h2 w
theorem Io(h0:r)(h1:p)(h2:q)(w:g)(h:r->p->q->g->G:=by(intro h0 h1 h2 w;refine nA (xwT h2) ?_;refine mkA (enc:=aM) (a':=(⟨⟨⟨_,_⟩,_,_⟩,⟨_,_,_,_⟩,_,⟨_,_,_,_,_⟩,_,_,_,_,_,_,⟨_,_,_⟩,_,⟨_,_⟩,_,⟨_,_,_⟩⟩:ag)) (hs':=by(dsimp only[aeV,aM];(first|done|exact rfl))) h0 h1 ?_;exact w)):G:=h h0 h1 h2 w
def rH(x:ag)(v1:Int):Option (Int×ag):=
 match x with
 |⟨⟨⟨x_Record_ID_Network,x_Record_ID_Number⟩,x_Record_Key,x_Record_Seq⟩,⟨x_Plan_RateLimit,x_Plan_BestClass,x_Plan_GrantSize,x_Plan_RoamingNetworks⟩,x_State,⟨x_Pending_Rand,x_Pending_Autn,x_Pending_MAC,x_Pending_Res,x_Pending_Key⟩,x_PendingSeq,x_Generation,x_RootKey,x_Epoch,x_Cell,x_Quiet,⟨x_Page_Area,x_Page_Attempt,x_Page_Wait⟩,x_Submitted,⟨x_Window_Next,x_Window_Unacked⟩,x_Retry,⟨x_Usage_SessionID,x_Usage_Granted,x_Usage_Used⟩⟩=>aeP (pT x_Plan_RoamingNetworks (WR ((WR ((WR ((WR ((WR ((WR ((WR (v1+1))+1))+1))+1))+1))+1))+1))) λ(r1,y1)=>aeP (jf x_Submitted (WR ((WR ((WR ((WR ((WR ((WR ((WR ((WR ((WR ((WR ((WR ((WR ((WR ((WR ((WR (r1+1))+1))+1))+1))+1))+1))+1))+1))+1))+1))+1))+1))+1))+1))+1))) λ(r2,y2)=>aeP (ew x_Window_Unacked (WR (r2+1))) λ(r3,y3)=>ς ((WR ((WR ((WR ((WR (r3+1))+1))+1))+1)),(⟨⟨⟨v1,(WR (v1+1))⟩,(WR ((WR (v1+1))+1)),(WR ((WR ((WR (v1+1))+1))+1))⟩,⟨(WR ((WR ((WR ((WR (v1+1))+1))+1))+1)),(WR ((WR ((WR ((WR ((WR (v1+1))+1))+1))+1))+1)),(WR ((WR ((WR ((WR ((WR ((WR (v1+1))+1))+1))+1))+1))+1)),y1⟩,r1,⟨(WR (r1+1)),(WR ((WR (r1+1))+1)),(WR ((WR ((WR (r1+1))+1))+1)),(WR ((WR ((WR ((WR (r1+1))+1))+1))+1)),(WR ((WR ((WR ((WR ((WR (r1+1))+1))+1))+1))+1))⟩,(WR ((WR ((WR ((WR ((WR ((WR (r1+1))+1))+1))+1))+1))+1)),(WR ((WR ((WR ((WR ((WR ((WR ((WR (r1+1))+1))+1))+1))+1))+1))+1)),(WR ((WR ((WR ((WR ((WR ((WR ((WR ((WR (r1+1))+1))+1))+1))+1))+1))+1))+1)),(WR ((WR ((WR ((WR ((WR ((WR ((WR ((WR ((WR (r1+1))+1))+1))+1))+1))+1))+1))+1))+1)),(WR ((WR ((WR ((WR ((WR ((WR ((WR ((WR ((WR ((WR (r1+1))+1))+1))+1))+1))+1))+1))+1))+1))+1)),(WR ((WR ((WR ((WR ((WR ((WR ((WR ((WR ((WR ((WR ((WR (r1+1))+1))+1))+1))+1))+1))+1))+1))+1))+1))+1)),⟨(WR ((WR ((WR ((WR ((WR ((WR ((WR ((WR ((WR ((WR ((WR ((WR (r1+1))+1))+1))+1))+1))+1))+1))+1))+1))+1))+1))+1)),(WR ((WR ((WR ((WR ((WR ((WR ((WR ((WR ((WR ((WR ((WR ((WR ((WR (r1+1))+1))+1))+1))+1))+1))+1))+1))+1))+1))+1))+1))+1)),(WR ((WR ((WR ((WR ((WR ((WR ((WR ((WR ((WR ((WR ((WR ((WR ((WR ((WR (r1+1))+1))+1))+1))+1))+1))+1))+1))+1))+1))+1))+1))+1))+1))⟩,y2,⟨r2,y3⟩,r3,⟨(WR (r3+1)),(WR ((WR (r3+1))+1)),(WR ((WR ((WR (r3+1))+1))+1))⟩⟩:ag))
def vM(a0:List ag)(a1:Int):Option (Int×List ag):=mX rH a0 a1
theorem FY{a0:List ag}{r:Int×List ag}(H:vM a0 a1=ς r):FnV prog 47 [(200,.row ty 30 (a0.map aM) (.s 200) ζ)] [.v (.c (.w 200 a0.length)),tI a1] [(200,.row ty 30 (r.2.map aM) (.s 200) ζ)] (tI r.1) []:=by
 refine fV func47 ntmps47 ?_
 obtain⟨⟨v5,v6⟩,Hj,H⟩:=ob H
 refine jB ⟨[(1,tI v5)],[(200,.row ty 30 (v6.map aM) (.s 200) ζ)],210⟩ ?_ ?_
 .refine iT Hj (λq=>⟨[(0,.v (.c (.w 200 q.2.2.length))),(1,tI q.1),(5,tI q.2.1)],[(200,.row ty 30 (q.2.2.map aM) (.s 200) ζ)],210⟩) ?_
  rintro⟨v1,v2,v3⟩ o H
  refine ad ?_
  refine cC H ?_ ?_<;>intro H
  .obtain⟨x,hx,H⟩:=ob H
   obtain⟨⟨k,y⟩,HE,Hz⟩:=ob H
   obtain⟨⟨⟨x_Record_ID_Network,x_Record_ID_Number⟩,x_Record_Key,x_Record_Seq⟩,⟨x_Plan_RateLimit,x_Plan_BestClass,x_Plan_GrantSize,x_Plan_RoamingNetworks⟩,x_State,⟨x_Pending_Rand,x_Pending_Autn,x_Pending_MAC,x_Pending_Res,x_Pending_Key⟩,x_PendingSeq,x_Generation,x_RootKey,x_Epoch,x_Cell,x_Quiet,⟨x_Page_Area,x_Page_Attempt,x_Page_Wait⟩,x_Submitted,⟨x_Window_Next,x_Window_Unacked⟩,x_Retry,⟨x_Usage_SessionID,x_Usage_Granted,x_Usage_Used⟩⟩:=x
   have H:(aeP (pT x_Plan_RoamingNetworks (WR ((WR ((WR ((WR ((WR ((WR ((WR (v1+1))+1))+1))+1))+1))+1))+1))) λ(r1,y1)=>aeP (jf x_Submitted (WR ((WR ((WR ((WR ((WR ((WR ((WR ((WR ((WR ((WR ((WR ((WR ((WR ((WR ((WR (r1+1))+1))+1))+1))+1))+1))+1))+1))+1))+1))+1))+1))+1))+1))+1))) λ(r2,y2)=>aeP (ew x_Window_Unacked (WR (r2+1))) λ(r3,y3)=>ς ((WR ((WR ((WR ((WR (r3+1))+1))+1))+1)),(⟨⟨⟨v1,(WR (v1+1))⟩,(WR ((WR (v1+1))+1)),(WR ((WR ((WR (v1+1))+1))+1))⟩,⟨(WR ((WR ((WR ((WR (v1+1))+1))+1))+1)),(WR ((WR ((WR ((WR ((WR (v1+1))+1))+1))+1))+1)),(WR ((WR ((WR ((WR ((WR ((WR (v1+1))+1))+1))+1))+1))+1)),y1⟩,r1,⟨(WR (r1+1)),(WR ((WR (r1+1))+1)),(WR ((WR ((WR (r1+1))+1))+1)),(WR ((WR ((WR ((WR (r1+1))+1))+1))+1)),(WR ((WR ((WR ((WR ((WR (r1+1))+1))+1))+1))+1))⟩,(WR ((WR ((WR ((WR ((WR ((WR (r1+1))+1))+1))+1))+1))+1)),(WR ((WR ((WR ((WR ((WR ((WR ((WR (r1+1))+1))+1))+1))+1))+1))+1)),(WR ((WR ((WR ((WR ((WR ((WR ((WR ((WR (r1+1))+1))+1))+1))+1))+1))+1))+1)),(WR ((WR ((WR ((WR ((WR ((WR ((WR ((WR ((WR (r1+1))+1))+1))+1))+1))+1))+1))+1))+1)),(WR ((WR ((WR ((WR ((WR ((WR ((WR ((WR ((WR ((WR (r1+1))+1))+1))+1))+1))+1))+1))+1))+1))+1)),(WR ((WR ((WR ((WR ((WR ((WR ((WR ((WR ((WR ((WR ((WR (r1+1))+1))+1))+1))+1))+1))+1))+1))+1))+1))+1)),⟨(WR ((WR ((WR ((WR ((WR ((WR ((WR ((WR ((WR ((WR ((WR ((WR (r1+1))+1))+1))+1))+1))+1))+1))+1))+1))+1))+1))+1)),(WR ((WR ((WR ((WR ((WR ((WR ((WR ((WR ((WR ((WR ((WR ((WR ((WR (r1+1))+1))+1))+1))+1))+1))+1))+1))+1))+1))+1))+1))+1)),(WR ((WR ((WR ((WR ((WR ((WR ((WR ((WR ((WR ((WR ((WR ((WR ((WR ((WR (r1+1))+1))+1))+1))+1))+1))+1))+1))+1))+1))+1))+1))+1))+1))⟩,y2,⟨r2,y3⟩,r3,⟨(WR (r3+1)),(WR ((WR (r3+1))+1)),(WR ((WR ((WR (r3+1))+1))+1))⟩⟩:ag)))=ς (k,y):=HE
   refine dZ hx hx ?_
   refine dZ (ixS hx) hx ?_
   refine dZ (ixS hx) hx ?_
   refine dZ (ixS hx) hx ?_
   refine dZ (ixS hx) hx ?_
   refine dZ (ixS hx) hx ?_
   refine dZ (ixS hx) hx ?_
   obtain⟨⟨r1,y1⟩,q1,H⟩:=ob H
   refine Io (Fj q1) (ixS hx) hx ?_
   refine dZ (ixS hx) hx ?_
   refine dZ (ixS hx) hx ?_
   refine dZ (ixS hx) hx ?_
   refine dZ (ixS hx) hx ?_
   refine dZ (ixS hx) hx ?_
   refine dZ (ixS hx) hx ?_
   refine dZ (ixS hx) hx ?_
   refine dZ (ixS hx) hx ?_
   refine dZ (ixS hx) hx ?_
   refine dZ (ixS hx) hx ?_
   refine dZ (ixS hx) hx ?_
   refine dZ (ixS hx) hx ?_
   refine dZ (ixS hx) hx ?_
   refine dZ (ixS hx) hx ?_
   refine dZ (ixS hx) hx ?_
   obtain⟨⟨r2,y2⟩,q2,H⟩:=ob H
   refine Io (yx q2) (ixS hx) hx ?_
   refine dZ (ixS hx) hx ?_
   obtain⟨⟨r3,y3⟩,q3,H⟩:=ob H
   refine Io (o7 q3) (ixS hx) hx ?_
   refine dZ (ixS hx) hx ?_
   refine dZ (ixS hx) hx ?_
   refine dZ (ixS hx) hx ?_
   refine dZ (ixS hx) hx ?_
   cases H
   cases Hz
   refine yH ?_
   exact wo
  exact aE H
 cases H
 exact eo
theorem Ii(h1:p)(h2:q)(w:g)(h:p->q->g->G:=by(intro h1 h2 w;refine nA (xwT h2) ?_;refine sA (stS (enc:=bj) (a':=(⟨_,_,_,_⟩:aj)) (hs:=by(dsimp only[mI,bj];(first|done|exact rfl))) h1) ?_;exact w)):G:=h h1 h2 w
theorem Yr(h0:r)(h1:p)(h2:q)(w:g)(h:r->p->q->g->G:=by(intro h0 h1 h2 w;refine nA (xwT h2) ?_;refine mkA (enc:=bj) (a':=(⟨_,_,_,_⟩:aj)) (hs':=by(dsimp only[aeV,bj];(first|done|exact rfl))) h0 h1 ?_;exact w)):G:=h h0 h1 h2 w
def rC(x:aj)(v1:Int):Option (Int×aj):=
 match x with
 |⟨x_Total,x_Available,x_Spent,x_Reservations⟩=>aeP (iO x_Reservations (WR ((WR ((WR (v1+1))+1))+1))) λ(r1,y1)=>ς (r1,(⟨v1,(WR (v1+1)),(WR ((WR (v1+1))+1)),y1⟩:aj))
def vL(a0:List aj)(a1:Int):Option (Int×List aj):=mX rC a0 a1
theorem FR{a0:List aj}{r:Int×List aj}(H:vL a0 a1=ς r):FnV prog 48 [(200,.row ty 4 (a0.map bj) (.s 200) ζ)] [.v (.c (.w 200 a0.length)),tI a1] [(200,.row ty 4 (r.2.map bj) (.s 200) ζ)] (tI r.1) []:=by
 refine fV func48 ntmps48 ?_
 obtain⟨⟨v5,v6⟩,Hj,H⟩:=ob H
 refine jB ⟨[(1,tI v5)],[(200,.row ty 4 (v6.map bj) (.s 200) ζ)],210⟩ ?_ ?_
 .refine iT Hj (λq=>⟨[(0,.v (.c (.w 200 q.2.2.length))),(1,tI q.1),(5,tI q.2.1)],[(200,.row ty 4 (q.2.2.map bj) (.s 200) ζ)],210⟩) ?_
  rintro⟨v1,v2,v3⟩ o H
  refine ad ?_
  refine cC H ?_ ?_<;>intro H
  .obtain⟨x,hx,H⟩:=ob H
   obtain⟨⟨k,y⟩,HE,Hz⟩:=ob H
   obtain⟨x_Total,x_Available,x_Spent,x_Reservations⟩:=x
   have H:(aeP (iO x_Reservations (WR ((WR ((WR (v1+1))+1))+1))) λ(r1,y1)=>ς (r1,(⟨v1,(WR (v1+1)),(WR ((WR (v1+1))+1)),y1⟩:aj)))=ς (k,y):=HE
   refine Ii hx hx ?_
   refine Ii (ixS hx) hx ?_
   refine Ii (ixS hx) hx ?_
   obtain⟨⟨r1,y1⟩,q1,H⟩:=ob H
   refine Yr (Bh q1) (ixS hx) hx ?_
   cases H
   cases Hz
   refine yH ?_
   exact wo
  exact aE H
 cases H
 exact eo
theorem gB(h1:p)(h2:q)(w:g)(h:p->q->g->G:=by(intro h1 h2 w;refine nA (xwT h2) ?_;refine sA (stS (enc:=bA) (a':=(⟨_,_,_,_,⟨_,_,_,_,_,⟨_,_,_,_,_⟩,_⟩,⟨_,_,⟨_,_,_,_⟩⟩⟩:a9)) (hs:=by(dsimp only[mI,bA];(first|done|exact rfl))) h1) ?_;exact w)):G:=h h1 h2 w
theorem ab7(h0:r)(h1:p)(h2:q)(w:g)(h:r->p->q->g->G:=by(intro h0 h1 h2 w;refine nA (xwT h2) ?_;refine mkA (enc:=bA) (a':=(⟨_,_,_,_,⟨_,_,_,_,_,⟨_,_,_,_,_⟩,_⟩,⟨_,_,⟨_,_,_,_⟩⟩⟩:a9)) (hs':=by(dsimp only[aeV,bA];(first|done|exact rfl))) h0 h1 ?_;exact w)):G:=h h0 h1 h2 w
def tQ(x:a9)(v1:Int):Option (Int×a9):=
 match x with
 |⟨x_Device,x_Uplink,x_IsRadio,x_Cell,⟨x_Signal_Kind,x_Signal_Cell,x_Signal_Generation,x_Signal_Epoch,x_Signal_Number,⟨x_Signal_Vector_Rand,x_Signal_Vector_Autn,x_Signal_Vector_MAC,x_Signal_Vector_Res,x_Signal_Vector_Key⟩,x_Signal_MAC⟩,⟨x_Radio_Generation,x_Radio_Epoch,⟨x_Radio_Message_Direction,x_Radio_Message_Count,x_Radio_Message_Data,x_Radio_Message_MAC⟩⟩⟩=>aeP (j0 x_Radio_Message_Data (WR ((WR ((WR ((WR ((WR ((WR ((WR ((WR ((WR ((WR ((WR ((WR ((WR ((WR ((WR ((WR ((WR ((WR ((WR (v1+1))+1))+1))+1))+1))+1))+1))+1))+1))+1))+1))+1))+1))+1))+1))+1))+1))+1))+1))) λ(r1,y1)=>ς ((WR (r1+1)),(⟨v1,(eqB (Int.tmod (WR (v1+1)) 3) 0),(eqB (Int.tmod (WR ((WR (v1+1))+1)) 3) 0),(WR ((WR ((WR (v1+1))+1))+1)),⟨(WR ((WR ((WR ((WR (v1+1))+1))+1))+1)),(WR ((WR ((WR ((WR ((WR (v1+1))+1))+1))+1))+1)),(WR ((WR ((WR ((WR ((WR ((WR (v1+1))+1))+1))+1))+1))+1)),(WR ((WR ((WR ((WR ((WR ((WR ((WR (v1+1))+1))+1))+1))+1))+1))+1)),(WR ((WR ((WR ((WR ((WR ((WR ((WR ((WR (v1+1))+1))+1))+1))+1))+1))+1))+1)),⟨(WR ((WR ((WR ((WR ((WR ((WR ((WR ((WR ((WR (v1+1))+1))+1))+1))+1))+1))+1))+1))+1)),(WR ((WR ((WR ((WR ((WR ((WR ((WR ((WR ((WR ((WR (v1+1))+1))+1))+1))+1))+1))+1))+1))+1))+1)),(WR ((WR ((WR ((WR ((WR ((WR ((WR ((WR ((WR ((WR ((WR (v1+1))+1))+1))+1))+1))+1))+1))+1))+1))+1))+1)),(WR ((WR ((WR ((WR ((WR ((WR ((WR ((WR ((WR ((WR ((WR ((WR (v1+1))+1))+1))+1))+1))+1))+1))+1))+1))+1))+1))+1)),(WR ((WR ((WR ((WR ((WR ((WR ((WR ((WR ((WR ((WR ((WR ((WR ((WR (v1+1))+1))+1))+1))+1))+1))+1))+1))+1))+1))+1))+1))+1))⟩,(WR ((WR ((WR ((WR ((WR ((WR ((WR ((WR ((WR ((WR ((WR ((WR ((WR ((WR (v1+1))+1))+1))+1))+1))+1))+1))+1))+1))+1))+1))+1))+1))+1))⟩,⟨(WR ((WR ((WR ((WR ((WR ((WR ((WR ((WR ((WR ((WR ((WR ((WR ((WR ((WR ((WR (v1+1))+1))+1))+1))+1))+1))+1))+1))+1))+1))+1))+1))+1))+1))+1)),(WR ((WR ((WR ((WR ((WR ((WR ((WR ((WR ((WR ((WR ((WR ((WR ((WR ((WR ((WR ((WR (v1+1))+1))+1))+1))+1))+1))+1))+1))+1))+1))+1))+1))+1))+1))+1))+1)),⟨(WR ((WR ((WR ((WR ((WR ((WR ((WR ((WR ((WR ((WR ((WR ((WR ((WR ((WR ((WR ((WR ((WR (v1+1))+1))+1))+1))+1))+1))+1))+1))+1))+1))+1))+1))+1))+1))+1))+1))+1)),(WR ((WR ((WR ((WR ((WR ((WR ((WR ((WR ((WR ((WR ((WR ((WR ((WR ((WR ((WR ((WR ((WR ((WR (v1+1))+1))+1))+1))+1))+1))+1))+1))+1))+1))+1))+1))+1))+1))+1))+1))+1))+1)),y1,r1⟩⟩⟩:a9))
def xD(a0:List a9)(a1:Int):Option (Int×List a9):=mX tQ a0 a1
theorem H7{a0:List a9}{r:Int×List a9}(H:xD a0 a1=ς r):FnV prog 49 [(200,.row ty 21 (a0.map bA) (.s 200) ζ)] [.v (.c (.w 200 a0.length)),tI a1] [(200,.row ty 21 (r.2.map bA) (.s 200) ζ)] (tI r.1) []:=by
 refine fV func49 ntmps49 ?_
 obtain⟨⟨v5,v6⟩,Hj,H⟩:=ob H
 refine jB ⟨[(1,tI v5)],[(200,.row ty 21 (v6.map bA) (.s 200) ζ)],210⟩ ?_ ?_
 .refine iT Hj (λq=>⟨[(0,.v (.c (.w 200 q.2.2.length))),(1,tI q.1),(5,tI q.2.1)],[(200,.row ty 21 (q.2.2.map bA) (.s 200) ζ)],210⟩) ?_
  rintro⟨v1,v2,v3⟩ o H
  refine ad ?_
  refine cC H ?_ ?_<;>intro H
  .obtain⟨x,hx,H⟩:=ob H
   obtain⟨⟨k,y⟩,HE,Hz⟩:=ob H
   obtain⟨x_Device,x_Uplink,x_IsRadio,x_Cell,⟨x_Signal_Kind,x_Signal_Cell,x_Signal_Generation,x_Signal_Epoch,x_Signal_Number,⟨x_Signal_Vector_Rand,x_Signal_Vector_Autn,x_Signal_Vector_MAC,x_Signal_Vector_Res,x_Signal_Vector_Key⟩,x_Signal_MAC⟩,⟨x_Radio_Generation,x_Radio_Epoch,⟨x_Radio_Message_Direction,x_Radio_Message_Count,x_Radio_Message_Data,x_Radio_Message_MAC⟩⟩⟩:=x
   have H:(aeP (j0 x_Radio_Message_Data (WR ((WR ((WR ((WR ((WR ((WR ((WR ((WR ((WR ((WR ((WR ((WR ((WR ((WR ((WR ((WR ((WR ((WR ((WR (v1+1))+1))+1))+1))+1))+1))+1))+1))+1))+1))+1))+1))+1))+1))+1))+1))+1))+1))+1))) λ(r1,y1)=>ς ((WR (r1+1)),(⟨v1,(eqB (Int.tmod (WR (v1+1)) 3) 0),(eqB (Int.tmod (WR ((WR (v1+1))+1)) 3) 0),(WR ((WR ((WR (v1+1))+1))+1)),⟨(WR ((WR ((WR ((WR (v1+1))+1))+1))+1)),(WR ((WR ((WR ((WR ((WR (v1+1))+1))+1))+1))+1)),(WR ((WR ((WR ((WR ((WR ((WR (v1+1))+1))+1))+1))+1))+1)),(WR ((WR ((WR ((WR ((WR ((WR ((WR (v1+1))+1))+1))+1))+1))+1))+1)),(WR ((WR ((WR ((WR ((WR ((WR ((WR ((WR (v1+1))+1))+1))+1))+1))+1))+1))+1)),⟨(WR ((WR ((WR ((WR ((WR ((WR ((WR ((WR ((WR (v1+1))+1))+1))+1))+1))+1))+1))+1))+1)),(WR ((WR ((WR ((WR ((WR ((WR ((WR ((WR ((WR ((WR (v1+1))+1))+1))+1))+1))+1))+1))+1))+1))+1)),(WR ((WR ((WR ((WR ((WR ((WR ((WR ((WR ((WR ((WR ((WR (v1+1))+1))+1))+1))+1))+1))+1))+1))+1))+1))+1)),(WR ((WR ((WR ((WR ((WR ((WR ((WR ((WR ((WR ((WR ((WR ((WR (v1+1))+1))+1))+1))+1))+1))+1))+1))+1))+1))+1))+1)),(WR ((WR ((WR ((WR ((WR ((WR ((WR ((WR ((WR ((WR ((WR ((WR ((WR (v1+1))+1))+1))+1))+1))+1))+1))+1))+1))+1))+1))+1))+1))⟩,(WR ((WR ((WR ((WR ((WR ((WR ((WR ((WR ((WR ((WR ((WR ((WR ((WR ((WR (v1+1))+1))+1))+1))+1))+1))+1))+1))+1))+1))+1))+1))+1))+1))⟩,⟨(WR ((WR ((WR ((WR ((WR ((WR ((WR ((WR ((WR ((WR ((WR ((WR ((WR ((WR ((WR (v1+1))+1))+1))+1))+1))+1))+1))+1))+1))+1))+1))+1))+1))+1))+1)),(WR ((WR ((WR ((WR ((WR ((WR ((WR ((WR ((WR ((WR ((WR ((WR ((WR ((WR ((WR ((WR (v1+1))+1))+1))+1))+1))+1))+1))+1))+1))+1))+1))+1))+1))+1))+1))+1)),⟨(WR ((WR ((WR ((WR ((WR ((WR ((WR ((WR ((WR ((WR ((WR ((WR ((WR ((WR ((WR ((WR ((WR (v1+1))+1))+1))+1))+1))+1))+1))+1))+1))+1))+1))+1))+1))+1))+1))+1))+1)),(WR ((WR ((WR ((WR ((WR ((WR ((WR ((WR ((WR ((WR ((WR ((WR ((WR ((WR ((WR ((WR ((WR ((WR (v1+1))+1))+1))+1))+1))+1))+1))+1))+1))+1))+1))+1))+1))+1))+1))+1))+1))+1)),y1,r1⟩⟩⟩:a9)))=ς (k,y):=HE
   refine gB hx hx ?_
   refine nA (ir rfl rfl rfl (by decide)) ?_
   refine gB (ixS hx) hx ?_
   refine nA (ir rfl rfl rfl (by decide)) ?_
   refine gB (ixS hx) hx ?_
   refine gB (ixS hx) hx ?_
   refine gB (ixS hx) hx ?_
   refine gB (ixS hx) hx ?_
   refine gB (ixS hx) hx ?_
   refine gB (ixS hx) hx ?_
   refine gB (ixS hx) hx ?_
   refine gB (ixS hx) hx ?_
   refine gB (ixS hx) hx ?_
   refine gB (ixS hx) hx ?_
   refine gB (ixS hx) hx ?_
   refine gB (ixS hx) hx ?_
   refine gB (ixS hx) hx ?_
   refine gB (ixS hx) hx ?_
   refine gB (ixS hx) hx ?_
   refine gB (ixS hx) hx ?_
   refine gB (ixS hx) hx ?_
   obtain⟨⟨r1,y1⟩,q1,H⟩:=ob H
   refine ab7 (xy q1) (ixS hx) hx ?_
   refine gB (ixS hx) hx ?_
   cases H
   cases Hz
   refine yH ?_
   exact wo
  exact aE H
 cases H
 exact eo
end Go.AM
