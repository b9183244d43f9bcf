/- A part. -/
import Derived.Test.YtcnfbcpgepbnkaaGreatM80
set_option linter.unusedVariables false
set_option linter.unusedSimpArgs false
open Option renaming some->ς,none->ξ
open Bool renaming true->ζ,false->η
open True renaming intro->θ
open Option renaming bind->abX
open List renaming set->ab3
namespace Go.AM
open Go.Proofs
open Tryz
attribute [local irreducible] AWN NS AWO AWR AWC DR DZ cp ec iter
set_option maxRecDepth 100000
set_option maxHeartbeats 4000000
variable{ty:TypeId}{a1 k:Int}{r G g p q:Prop}
def uG(x:Int)(v1:Int):Option (Int×Int):=
 match x with
 |x=>ς (WR (v1+1),(IntKind.u8.wrap (v1):Int))
def iS(a0:List Int)(a1:Int):Option (Int×List Int):=mX uG a0 a1
theorem H5{a0:List Int}{r:Int×List Int}(H:iS a0 a1=ς r):FnV prog 100 [(200,.row ty 1 (a0.map eU8) (.s 200) ζ)] [.v (.c (.w 200 a0.length)),tI a1] [(200,.row ty 1 (r.2.map eU8) (.s 200) ζ)] (tI r.1) []:=by
 refine fV func100 ntmps100 ?_
 obtain⟨⟨v5,v6⟩,Hj,H⟩:=ob H
 refine jB ⟨[(1,tI v5)],[(200,.row ty 1 (v6.map eU8) (.s 200) ζ)],210⟩ ?_ ?_
 .refine iT Hj (λq=>⟨[(0,.v (.c (.w 200 q.2.2.length))),(1,tI q.1),(5,tI q.2.1)],[(200,.row ty 1 (q.2.2.map eU8) (.s 200) ζ)],210⟩) ?_
  rintro⟨v1,v2,v3⟩ o H
  refine ad ?_
  refine cC H ?_ ?_<;>intro H
  .obtain⟨x,hx,H⟩:=ob H
   obtain⟨⟨k,y⟩,HE,Hz⟩:=ob H
   skip
   have H:(ς (WR (v1+1),(IntKind.u8.wrap (v1):Int)))=ς (k,y):=HE
   refine nA (xwT hx) ?_
   refine sA (stS (enc:=eU8) (a':=(IntKind.u8.wrap (v1):Int)) hx) ?_
   cases H
   cases Hz
   refine y6 ?_
   exact wo
  exact aE H
 cases H
 exact ea
theorem H6:Fn prog 100 [aL [],aI k] [.c (.d (.i .i64 k))]:=by
 have H:=Kj k
 refine fI func100 ntmps100 ?_
 refine iT H (λq=>⟨[(0,.v (.c (.d η (.l [])))),(1,tI q.1),(5,tI q.2)],[],0⟩) ?_
 rintro⟨v1,v2⟩ o H
 refine wI ?_
 refine cC H ?_ ?_<;>intro H
 .cases H
 cases H
 refine HY (λhq=>?_)
 cases hq
 refine wI ?_
 exact jK
theorem uH{a0:List Int}{y:List Int}(H:iS a0 a1=ς (k,y)):MkS prog 100 (a0.map eU8) (y.map eU8) a1 k:=
 Kx (sz:=1) (λ_=>rfl) (FM H) (λty=>H5 H) (λe=>Uj (e▸H)▸H6)
def wq(x:Int)(v1:Int):Option (Int×Int):=
 match x with
 |x=>ς (WR (v1+1),(v1:Int))
def oN(a0:List Int)(a1:Int):Option (Int×List Int):=mX wq a0 a1
theorem Kh{a0:List Int}{r:Int×List Int}(H:oN a0 a1=ς r):FnV prog 98 [(200,.row ty 1 (a0.map eI) (.s 200) ζ)] [.v (.c (.w 200 a0.length)),tI a1] [(200,.row ty 1 (r.2.map eI) (.s 200) ζ)] (tI r.1) []:=by
 refine fV func98 ntmps98 ?_
 obtain⟨⟨v5,v6⟩,Hj,H⟩:=ob H
 refine jB ⟨[(1,tI v5)],[(200,.row ty 1 (v6.map eI) (.s 200) ζ)],210⟩ ?_ ?_
 .refine iT Hj (λq=>⟨[(0,.v (.c (.w 200 q.2.2.length))),(1,tI q.1),(5,tI q.2.1)],[(200,.row ty 1 (q.2.2.map eI) (.s 200) ζ)],210⟩) ?_
  rintro⟨v1,v2,v3⟩ o H
  refine ad ?_
  refine cC H ?_ ?_<;>intro H
  .obtain⟨x,hx,H⟩:=ob H
   obtain⟨⟨k,y⟩,HE,Hz⟩:=ob H
   skip
   have H:(ς (WR (v1+1),(v1:Int)))=ς (k,y):=HE
   refine nA (xwT hx) ?_
   refine sA (stS (enc:=eI) (a':=(v1:Int)) hx) ?_
   cases H
   cases Hz
   refine y6 ?_
   exact wo
  exact aE H
 cases H
 exact ea
theorem Ki:Fn prog 98 [aL [],aI k] [.c (.d (.i .i64 k))]:=by
 have H:=Kj k
 refine fI func98 ntmps98 ?_
 refine iT H (λq=>⟨[(0,.v (.c (.d η (.l [])))),(1,tI q.1),(5,tI q.2)],[],0⟩) ?_
 rintro⟨v1,v2⟩ o H
 refine wI ?_
 refine cC H ?_ ?_<;>intro H
 .cases H
 cases H
 refine HY (λhq=>?_)
 cases hq
 refine wI ?_
 exact jK
theorem B2{a0:List Int}{y:List Int}(H:oN a0 a1=ς (k,y)):MkS prog 98 (a0.map eI) (y.map eI) a1 k:=
 Kx (sz:=1) (λ_=>rfl) (FM H) (λty=>Kh H) (λe=>Uj (e▸H)▸Ki)
theorem Uq(h0:r)(h1:p)(h2:q)(w:g)(h:r->p->q->g->G:=by(intro h0 h1 h2 w;refine nA (xwT h2) ?_;refine mkA (enc:=bQ) (a':=(⟨_⟩:aC)) (hs':=by(dsimp only[ab3,bQ];(first|done|exact rfl))) h0 h1 ?_;exact w)):G:=h h0 h1 h2 w
def pP(x:aC)(v1:Int):Option (Int×aC):=
 match x with
 |⟨x_Data⟩=>abX (iS x_Data v1) λ(r1,y1)=>ς (r1,(⟨y1⟩:aC))
def gT(a0:List aC)(a1:Int):Option (Int×List aC):=mX pP a0 a1
theorem Cr{a0:List aC}{r:Int×List aC}(H:gT a0 a1=ς r):FnV prog 97 [(200,.row ty 1 (a0.map bQ) (.s 200) ζ)] [.v (.c (.w 200 a0.length)),tI a1] [(200,.row ty 1 (r.2.map bQ) (.s 200) ζ)] (tI r.1) []:=by
 refine fV func97 ntmps97 ?_
 obtain⟨⟨v5,v6⟩,Hj,H⟩:=ob H
 refine jB ⟨[(1,tI v5)],[(200,.row ty 1 (v6.map bQ) (.s 200) ζ)],210⟩ ?_ ?_
 .refine iT Hj (λq=>⟨[(0,.v (.c (.w 200 q.2.2.length))),(1,tI q.1),(5,tI q.2.1)],[(200,.row ty 1 (q.2.2.map bQ) (.s 200) ζ)],210⟩) ?_
  rintro⟨v1,v2,v3⟩ o H
  refine ad ?_
  refine cC H ?_ ?_<;>intro H
  .obtain⟨x,hx,H⟩:=ob H
   obtain⟨⟨k,y⟩,HE,Hz⟩:=ob H
   obtain⟨x_Data⟩:=x
   have H:(abX (iS x_Data v1) λ(r1,y1)=>ς (r1,(⟨y1⟩:aC)))=ς (k,y):=HE
   obtain⟨⟨r1,y1⟩,q1,H⟩:=ob H
   refine Uq (uH q1) (hx) hx ?_
   cases H
   cases Hz
   refine y6 ?_
   exact wo
  exact aE H
 cases H
 exact ea
theorem Cs:Fn prog 97 [aL [],aI k] [.c (.d (.i .i64 k))]:=by
 have H:=Kj k
 refine fI func97 ntmps97 ?_
 refine iT H (λq=>⟨[(0,.v (.c (.d η (.l [])))),(1,tI q.1),(5,tI q.2)],[],0⟩) ?_
 rintro⟨v1,v2⟩ o H
 refine wI ?_
 refine cC H ?_ ?_<;>intro H
 .cases H
 cases H
 refine HY (λhq=>?_)
 cases hq
 refine wI ?_
 exact jK
theorem vm{a0:List aC}{y:List aC}(H:gT a0 a1=ς (k,y)):MkS prog 97 (a0.map bQ) (y.map bQ) a1 k:=
 Kx (sz:=1) (λ_=>rfl) (FM H) (λty=>Cr H) (λe=>Uj (e▸H)▸Cs)
theorem Cu(h1:p)(h2:q)(w:g)(h:p->q->g->G:=by(intro h1 h2 w;refine nA (xwT h2) ?_;refine sA (stS (enc:=ah) (a':=(⟨_,_⟩:ab)) (hs:=by(dsimp only[lp,ah];(first|done|exact rfl))) h1) ?_;exact w)):G:=h h1 h2 w
theorem Cw(h0:r)(h1:p)(h2:q)(w:g)(h:r->p->q->g->G:=by(intro h0 h1 h2 w;refine nA (xwT h2) ?_;refine mkA (enc:=ah) (a':=(⟨_,_⟩:ab)) (hs':=by(dsimp only[ab3,ah];(first|done|exact rfl))) h0 h1 ?_;exact w)):G:=h h0 h1 h2 w
def iU(x:ab)(v1:Int):Option (Int×ab):=
 match x with
 |⟨x_Seq,x_Data⟩=>abX (iS x_Data (WR (v1+1))) λ(r1,y1)=>ς (r1,(⟨v1,y1⟩:ab))
def d5(a0:List ab)(a1:Int):Option (Int×List ab):=mX iU a0 a1
theorem uN{a0:List ab}{r:Int×List ab}(H:d5 a0 a1=ς r):FnV prog 96 [(200,.row ty 2 (a0.map ah) (.s 200) ζ)] [.v (.c (.w 200 a0.length)),tI a1] [(200,.row ty 2 (r.2.map ah) (.s 200) ζ)] (tI r.1) []:=by
 refine fV func96 ntmps96 ?_
 obtain⟨⟨v5,v6⟩,Hj,H⟩:=ob H
 refine jB ⟨[(1,tI v5)],[(200,.row ty 2 (v6.map ah) (.s 200) ζ)],210⟩ ?_ ?_
 .refine iT Hj (λq=>⟨[(0,.v (.c (.w 200 q.2.2.length))),(1,tI q.1),(5,tI q.2.1)],[(200,.row ty 2 (q.2.2.map ah) (.s 200) ζ)],210⟩) ?_
  rintro⟨v1,v2,v3⟩ o H
  refine ad ?_
  refine cC H ?_ ?_<;>intro H
  .obtain⟨x,hx,H⟩:=ob H
   obtain⟨⟨k,y⟩,HE,Hz⟩:=ob H
   obtain⟨x_Seq,x_Data⟩:=x
   have H:(abX (iS x_Data (WR (v1+1))) λ(r1,y1)=>ς (r1,(⟨v1,y1⟩:ab)))=ς (k,y):=HE
   refine Cu hx hx ?_
   obtain⟨⟨r1,y1⟩,q1,H⟩:=ob H
   refine Cw (uH q1) (ixS hx) hx ?_
   cases H
   cases Hz
   refine y6 ?_
   exact wo
  exact aE H
 cases H
 exact ea
theorem uO:Fn prog 96 [aL [],aI k] [.c (.d (.i .i64 k))]:=by
 have H:=Kj k
 refine fI func96 ntmps96 ?_
 refine iT H (λq=>⟨[(0,.v (.c (.d η (.l [])))),(1,tI q.1),(5,tI q.2)],[],0⟩) ?_
 rintro⟨v1,v2⟩ o H
 refine wI ?_
 refine cC H ?_ ?_<;>intro H
 .cases H
 cases H
 refine HY (λhq=>?_)
 cases hq
 refine wI ?_
 exact jK
theorem nJ{a0:List ab}{y:List ab}(H:d5 a0 a1=ς (k,y)):MkS prog 96 (a0.map ah) (y.map ah) a1 k:=
 Kx (sz:=2) (λ_=>rfl) (FM H) (λty=>uN H) (λe=>Uj (e▸H)▸uO)
theorem Al(h1:p)(h2:q)(w:g)(h:p->q->g->G:=by(intro h1 h2 w;refine nA (xwT h2) ?_;refine sA (stS (enc:=bT) (a':=(⟨_,_⟩:aA)) (hs:=by(dsimp only[lp,bT];(first|done|exact rfl))) h1) ?_;exact w)):G:=h h1 h2 w
def lj(x:aA)(v1:Int):Option (Int×aA):=
 match x with
 |⟨x_SessionID,x_Amount⟩=>ς ((WR ((WR (v1+1))+1)),(⟨v1,(WR (v1+1))⟩:aA))
def gI(a0:List aA)(a1:Int):Option (Int×List aA):=mX lj a0 a1
theorem yh{a0:List aA}{r:Int×List aA}(H:gI a0 a1=ς r):FnV prog 99 [(200,.row ty 2 (a0.map bT) (.s 200) ζ)] [.v (.c (.w 200 a0.length)),tI a1] [(200,.row ty 2 (r.2.map bT) (.s 200) ζ)] (tI r.1) []:=by
 refine fV func99 ntmps99 ?_
 obtain⟨⟨v5,v6⟩,Hj,H⟩:=ob H
 refine jB ⟨[(1,tI v5)],[(200,.row ty 2 (v6.map bT) (.s 200) ζ)],210⟩ ?_ ?_
 .refine iT Hj (λq=>⟨[(0,.v (.c (.w 200 q.2.2.length))),(1,tI q.1),(5,tI q.2.1)],[(200,.row ty 2 (q.2.2.map bT) (.s 200) ζ)],210⟩) ?_
  rintro⟨v1,v2,v3⟩ o H
  refine ad ?_
  refine cC H ?_ ?_<;>intro H
  .obtain⟨x,hx,H⟩:=ob H
   obtain⟨⟨k,y⟩,HE,Hz⟩:=ob H
   obtain⟨x_SessionID,x_Amount⟩:=x
   have H:(ς ((WR ((WR (v1+1))+1)),(⟨v1,(WR (v1+1))⟩:aA)))=ς (k,y):=HE
   refine Al hx hx ?_
   refine Al (ixS hx) hx ?_
   cases H
   cases Hz
   refine y6 ?_
   exact wo
  exact aE H
 cases H
 exact ea
theorem yi:Fn prog 99 [aL [],aI k] [.c (.d (.i .i64 k))]:=by
 have H:=Kj k
 refine fI func99 ntmps99 ?_
 refine iT H (λq=>⟨[(0,.v (.c (.d η (.l [])))),(1,tI q.1),(5,tI q.2)],[],0⟩) ?_
 rintro⟨v1,v2⟩ o H
 refine wI ?_
 refine cC H ?_ ?_<;>intro H
 .cases H
 cases H
 refine HY (λhq=>?_)
 cases hq
 refine wI ?_
 exact jK
theorem yk{a0:List aA}{y:List aA}(H:gI a0 a1=ς (k,y)):MkS prog 99 (a0.map bT) (y.map bT) a1 k:=
 Kx (sz:=2) (λ_=>rfl) (FM H) (λty=>yh H) (λe=>Uj (e▸H)▸yi)
theorem mCell(h1:p)(h2:q)(w:g)(h:p->q->g->G:=by(intro h1 h2 w;refine nA (xwT h2) ?_;refine sA (stS (enc:=cQ) (a':=(⟨_,_⟩:cA)) (hs:=by(dsimp only[lp,cQ];(first|done|exact rfl))) h1) ?_;exact w)):G:=h h1 h2 w
theorem nCell(h0:r)(h1:p)(h2:q)(w:g)(h:r->p->q->g->G:=by(intro h0 h1 h2 w;refine nA (xwT h2) ?_;refine mkA (enc:=cQ) (a':=(⟨_,_⟩:cA)) (hs':=by(dsimp only[ab3,cQ];(first|done|exact rfl))) h0 h1 ?_;exact w)):G:=h h0 h1 h2 w
def uK(x:cA)(v1:Int):Option (Int×cA):=
 match x with
 |⟨x_Area,x_Neighbors⟩=>abX (oN x_Neighbors (WR (v1+1))) λ(r1,y1)=>ς (r1,(⟨v1,y1⟩:cA))
def uJ(a0:List cA)(a1:Int):Option (Int×List cA):=mX uK a0 a1
theorem H7{a0:List cA}{r:Int×List cA}(H:uJ a0 a1=ς r):FnV prog 95 [(200,.row ty 2 (a0.map cQ) (.s 200) ζ)] [.v (.c (.w 200 a0.length)),tI a1] [(200,.row ty 2 (r.2.map cQ) (.s 200) ζ)] (tI r.1) []:=by
 refine fV func95 ntmps95 ?_
 obtain⟨⟨v5,v6⟩,Hj,H⟩:=ob H
 refine jB ⟨[(1,tI v5)],[(200,.row ty 2 (v6.map cQ) (.s 200) ζ)],210⟩ ?_ ?_
 .refine iT Hj (λq=>⟨[(0,.v (.c (.w 200 q.2.2.length))),(1,tI q.1),(5,tI q.2.1)],[(200,.row ty 2 (q.2.2.map cQ) (.s 200) ζ)],210⟩) ?_
  rintro⟨v1,v2,v3⟩ o H
  refine ad ?_
  refine cC H ?_ ?_<;>intro H
  .obtain⟨x,hx,H⟩:=ob H
   obtain⟨⟨k,y⟩,HE,Hz⟩:=ob H
   obtain⟨x_Area,x_Neighbors⟩:=x
   have H:(abX (oN x_Neighbors (WR (v1+1))) λ(r1,y1)=>ς (r1,(⟨v1,y1⟩:cA)))=ς (k,y):=HE
   refine mCell hx hx ?_
   obtain⟨⟨r1,y1⟩,q1,H⟩:=ob H
   refine nCell (B2 q1) (ixS hx) hx ?_
   cases H
   cases Hz
   refine y6 ?_
   exact wo
  exact aE H
 cases H
 exact ea
theorem lZ(h1:p)(h2:q)(w:g)(h:p->q->g->G:=by(intro h1 h2 w;refine nA (xwT h2) ?_;refine sA (stS (enc:=aZ) (a':=(⟨⟨⟨_,_⟩,_,_⟩,_,_,_,_,_,_,_,⟨_,_,_⟩⟩:av)) (hs:=by(dsimp only[lp,aZ];(first|done|exact rfl))) h1) ?_;exact w)):G:=h h1 h2 w
theorem O2(h0:r)(h1:p)(h2:q)(w:g)(h:r->p->q->g->G:=by(intro h0 h1 h2 w;refine nA (xwT h2) ?_;refine mkA (enc:=aZ) (a':=(⟨⟨⟨_,_⟩,_,_⟩,_,_,_,_,_,_,_,⟨_,_,_⟩⟩:av)) (hs':=by(dsimp only[ab3,aZ];(first|done|exact rfl))) h0 h1 ?_;exact w)):G:=h h0 h1 h2 w
def ri(x:av)(v1:Int):Option (Int×av):=
 match x with
 |⟨⟨⟨x_Card_ID_Network,x_Card_ID_Number⟩,x_Card_Key,x_Card_LastSeq⟩,x_State,x_Cell,x_Generation,x_RootKey,x_Epoch,x_PathConfirmed,x_Wait,⟨x_Receiver_Next,x_Receiver_Pending,x_Receiver_Delivered⟩⟩=>abX (d5 x_Receiver_Pending (WR ((WR ((WR ((WR ((WR ((WR ((WR ((WR ((WR ((WR ((WR ((WR (v1+1))+1))+1))+1))+1))+1))+1))+1))+1))+1))+1))+1))) λ(r1,y1)=>abX (gT x_Receiver_Delivered r1) λ(r2,y2)=>ς (r2,(⟨⟨⟨v1,(WR (v1+1))⟩,(WR ((WR (v1+1))+1)),(WR ((WR ((WR (v1+1))+1))+1))⟩,(WR ((WR ((WR ((WR (v1+1))+1))+1))+1)),(WR ((WR ((WR ((WR ((WR (v1+1))+1))+1))+1))+1)),(WR ((WR ((WR ((WR ((WR ((WR (v1+1))+1))+1))+1))+1))+1)),(WR ((WR ((WR ((WR ((WR ((WR ((WR (v1+1))+1))+1))+1))+1))+1))+1)),(WR ((WR ((WR ((WR ((WR ((WR ((WR ((WR (v1+1))+1))+1))+1))+1))+1))+1))+1)),(eqB (Int.tmod (WR ((WR ((WR ((WR ((WR ((WR ((WR ((WR ((WR (v1+1))+1))+1))+1))+1))+1))+1))+1))+1)) 3) 0),(WR ((WR ((WR ((WR ((WR ((WR ((WR ((WR ((WR ((WR (v1+1))+1))+1))+1))+1))+1))+1))+1))+1))+1)),⟨(WR ((WR ((WR ((WR ((WR ((WR ((WR ((WR ((WR ((WR ((WR (v1+1))+1))+1))+1))+1))+1))+1))+1))+1))+1))+1)),y1,y2⟩⟩:av))
def uL(a0:List av)(a1:Int):Option (Int×List av):=mX ri a0 a1
theorem Ej{a0:List av}{r:Int×List av}(H:uL a0 a1=ς r):FnV prog 46 [(200,.row ty 14 (a0.map aZ) (.s 200) ζ)] [.v (.c (.w 200 a0.length)),tI a1] [(200,.row ty 14 (r.2.map aZ) (.s 200) ζ)] (tI r.1) []:=by
 refine fV func46 ntmps46 ?_
 obtain⟨⟨v5,v6⟩,Hj,H⟩:=ob H
 refine jB ⟨[(1,tI v5)],[(200,.row ty 14 (v6.map aZ) (.s 200) ζ)],210⟩ ?_ ?_
 .refine iT Hj (λq=>⟨[(0,.v (.c (.w 200 q.2.2.length))),(1,tI q.1),(5,tI q.2.1)],[(200,.row ty 14 (q.2.2.map aZ) (.s 200) ζ)],210⟩) ?_
  rintro⟨v1,v2,v3⟩ o H
  refine ad ?_
  refine cC H ?_ ?_<;>intro H
  .obtain⟨x,hx,H⟩:=ob H
   obtain⟨⟨k,y⟩,HE,Hz⟩:=ob H
   obtain⟨⟨⟨x_Card_ID_Network,x_Card_ID_Number⟩,x_Card_Key,x_Card_LastSeq⟩,x_State,x_Cell,x_Generation,x_RootKey,x_Epoch,x_PathConfirmed,x_Wait,⟨x_Receiver_Next,x_Receiver_Pending,x_Receiver_Delivered⟩⟩:=x
   have H:(abX (d5 x_Receiver_Pending (WR ((WR ((WR ((WR ((WR ((WR ((WR ((WR ((WR ((WR ((WR ((WR (v1+1))+1))+1))+1))+1))+1))+1))+1))+1))+1))+1))+1))) λ(r1,y1)=>abX (gT x_Receiver_Delivered r1) λ(r2,y2)=>ς (r2,(⟨⟨⟨v1,(WR (v1+1))⟩,(WR ((WR (v1+1))+1)),(WR ((WR ((WR (v1+1))+1))+1))⟩,(WR ((WR ((WR ((WR (v1+1))+1))+1))+1)),(WR ((WR ((WR ((WR ((WR (v1+1))+1))+1))+1))+1)),(WR ((WR ((WR ((WR ((WR ((WR (v1+1))+1))+1))+1))+1))+1)),(WR ((WR ((WR ((WR ((WR ((WR ((WR (v1+1))+1))+1))+1))+1))+1))+1)),(WR ((WR ((WR ((WR ((WR ((WR ((WR ((WR (v1+1))+1))+1))+1))+1))+1))+1))+1)),(eqB (Int.tmod (WR ((WR ((WR ((WR ((WR ((WR ((WR ((WR ((WR (v1+1))+1))+1))+1))+1))+1))+1))+1))+1)) 3) 0),(WR ((WR ((WR ((WR ((WR ((WR ((WR ((WR ((WR ((WR (v1+1))+1))+1))+1))+1))+1))+1))+1))+1))+1)),⟨(WR ((WR ((WR ((WR ((WR ((WR ((WR ((WR ((WR ((WR ((WR (v1+1))+1))+1))+1))+1))+1))+1))+1))+1))+1))+1)),y1,y2⟩⟩:av)))=ς (k,y):=HE
   refine lZ hx hx ?_
   refine lZ (ixS hx) hx ?_
   refine lZ (ixS hx) hx ?_
   refine lZ (ixS hx) hx ?_
   refine lZ (ixS hx) hx ?_
   refine lZ (ixS hx) hx ?_
   refine lZ (ixS hx) hx ?_
   refine lZ (ixS hx) hx ?_
   refine lZ (ixS hx) hx ?_
   refine nA (ir rfl rfl rfl (by decide)) ?_
   refine lZ (ixS hx) hx ?_
   refine lZ (ixS hx) hx ?_
   refine lZ (ixS hx) hx ?_
   obtain⟨⟨r1,y1⟩,q1,H⟩:=ob H
   refine O2 (nJ q1) (ixS hx) hx ?_
   obtain⟨⟨r2,y2⟩,q2,H⟩:=ob H
   refine O2 (vm q2) (ixS hx) hx ?_
   cases H
   cases Hz
   refine y6 ?_
   exact wo
  exact aE H
 cases H
 exact ea
theorem dB(h1:p)(h2:q)(w:g)(h:p->q->g->G:=by(intro h1 h2 w;refine nA (xwT h2) ?_;refine sA (stS (enc:=aB) (a':=(⟨⟨⟨_,_⟩,_,_⟩,⟨_,_,_,_⟩,_,⟨_,_,_,_,_⟩,_,_,_,_,_,_,⟨_,_,_⟩,_,⟨_,_⟩,_,⟨_,_,_⟩⟩:ag)) (hs:=by(dsimp only[lp,aB];(first|done|exact rfl))) h1) ?_;exact w)):G:=h h1 h2 w
theorem Ez(h0:r)(h1:p)(h2:q)(w:g)(h:r->p->q->g->G:=by(intro h0 h1 h2 w;refine nA (xwT h2) ?_;refine mkA (enc:=aB) (a':=(⟨⟨⟨_,_⟩,_,_⟩,⟨_,_,_,_⟩,_,⟨_,_,_,_,_⟩,_,_,_,_,_,_,⟨_,_,_⟩,_,⟨_,_⟩,_,⟨_,_,_⟩⟩:ag)) (hs':=by(dsimp only[ab3,aB];(first|done|exact rfl))) h0 h1 ?_;exact w)):G:=h h0 h1 h2 w
def pR(x:ag)(v1:Int):Option (Int×ag):=
 match x with
 |⟨⟨⟨x_Record_ID_Network,x_Record_ID_Number⟩,x_Record_Key,x_Record_Seq⟩,⟨x_Plan_RateLimit,x_Plan_BestClass,x_Plan_GrantSize,x_Plan_RoamingNetworks⟩,x_State,⟨x_Pending_Rand,x_Pending_Autn,x_Pending_MAC,x_Pending_Res,x_Pending_Key⟩,x_PendingSeq,x_Generation,x_RootKey,x_Epoch,x_Cell,x_Quiet,⟨x_Page_Area,x_Page_Attempt,x_Page_Wait⟩,x_Submitted,⟨x_Window_Next,x_Window_Unacked⟩,x_Retry,⟨x_Usage_SessionID,x_Usage_Granted,x_Usage_Used⟩⟩=>abX (oN x_Plan_RoamingNetworks (WR ((WR ((WR ((WR ((WR ((WR ((WR (v1+1))+1))+1))+1))+1))+1))+1))) λ(r1,y1)=>abX (gT x_Submitted (WR ((WR ((WR ((WR ((WR ((WR ((WR ((WR ((WR ((WR ((WR ((WR ((WR ((WR ((WR (r1+1))+1))+1))+1))+1))+1))+1))+1))+1))+1))+1))+1))+1))+1))+1))) λ(r2,y2)=>abX (d5 x_Window_Unacked (WR (r2+1))) λ(r3,y3)=>ς ((WR ((WR ((WR ((WR (r3+1))+1))+1))+1)),(⟨⟨⟨v1,(WR (v1+1))⟩,(WR ((WR (v1+1))+1)),(WR ((WR ((WR (v1+1))+1))+1))⟩,⟨(WR ((WR ((WR ((WR (v1+1))+1))+1))+1)),(WR ((WR ((WR ((WR ((WR (v1+1))+1))+1))+1))+1)),(WR ((WR ((WR ((WR ((WR ((WR (v1+1))+1))+1))+1))+1))+1)),y1⟩,r1,⟨(WR (r1+1)),(WR ((WR (r1+1))+1)),(WR ((WR ((WR (r1+1))+1))+1)),(WR ((WR ((WR ((WR (r1+1))+1))+1))+1)),(WR ((WR ((WR ((WR ((WR (r1+1))+1))+1))+1))+1))⟩,(WR ((WR ((WR ((WR ((WR ((WR (r1+1))+1))+1))+1))+1))+1)),(WR ((WR ((WR ((WR ((WR ((WR ((WR (r1+1))+1))+1))+1))+1))+1))+1)),(WR ((WR ((WR ((WR ((WR ((WR ((WR ((WR (r1+1))+1))+1))+1))+1))+1))+1))+1)),(WR ((WR ((WR ((WR ((WR ((WR ((WR ((WR ((WR (r1+1))+1))+1))+1))+1))+1))+1))+1))+1)),(WR ((WR ((WR ((WR ((WR ((WR ((WR ((WR ((WR ((WR (r1+1))+1))+1))+1))+1))+1))+1))+1))+1))+1)),(WR ((WR ((WR ((WR ((WR ((WR ((WR ((WR ((WR ((WR ((WR (r1+1))+1))+1))+1))+1))+1))+1))+1))+1))+1))+1)),⟨(WR ((WR ((WR ((WR ((WR ((WR ((WR ((WR ((WR ((WR ((WR ((WR (r1+1))+1))+1))+1))+1))+1))+1))+1))+1))+1))+1))+1)),(WR ((WR ((WR ((WR ((WR ((WR ((WR ((WR ((WR ((WR ((WR ((WR ((WR (r1+1))+1))+1))+1))+1))+1))+1))+1))+1))+1))+1))+1))+1)),(WR ((WR ((WR ((WR ((WR ((WR ((WR ((WR ((WR ((WR ((WR ((WR ((WR ((WR (r1+1))+1))+1))+1))+1))+1))+1))+1))+1))+1))+1))+1))+1))+1))⟩,y2,⟨r2,y3⟩,r3,⟨(WR (r3+1)),(WR ((WR (r3+1))+1)),(WR ((WR ((WR (r3+1))+1))+1))⟩⟩:ag))
def tj(a0:List ag)(a1:Int):Option (Int×List ag):=mX pR a0 a1
theorem Ct{a0:List ag}{r:Int×List ag}(H:tj a0 a1=ς r):FnV prog 47 [(200,.row ty 30 (a0.map aB) (.s 200) ζ)] [.v (.c (.w 200 a0.length)),tI a1] [(200,.row ty 30 (r.2.map aB) (.s 200) ζ)] (tI r.1) []:=by
 refine fV func47 ntmps47 ?_
 obtain⟨⟨v5,v6⟩,Hj,H⟩:=ob H
 refine jB ⟨[(1,tI v5)],[(200,.row ty 30 (v6.map aB) (.s 200) ζ)],210⟩ ?_ ?_
 .refine iT Hj (λq=>⟨[(0,.v (.c (.w 200 q.2.2.length))),(1,tI q.1),(5,tI q.2.1)],[(200,.row ty 30 (q.2.2.map aB) (.s 200) ζ)],210⟩) ?_
  rintro⟨v1,v2,v3⟩ o H
  refine ad ?_
  refine cC H ?_ ?_<;>intro H
  .obtain⟨x,hx,H⟩:=ob H
   obtain⟨⟨k,y⟩,HE,Hz⟩:=ob H
   obtain⟨⟨⟨x_Record_ID_Network,x_Record_ID_Number⟩,x_Record_Key,x_Record_Seq⟩,⟨x_Plan_RateLimit,x_Plan_BestClass,x_Plan_GrantSize,x_Plan_RoamingNetworks⟩,x_State,⟨x_Pending_Rand,x_Pending_Autn,x_Pending_MAC,x_Pending_Res,x_Pending_Key⟩,x_PendingSeq,x_Generation,x_RootKey,x_Epoch,x_Cell,x_Quiet,⟨x_Page_Area,x_Page_Attempt,x_Page_Wait⟩,x_Submitted,⟨x_Window_Next,x_Window_Unacked⟩,x_Retry,⟨x_Usage_SessionID,x_Usage_Granted,x_Usage_Used⟩⟩:=x
   have H:(abX (oN x_Plan_RoamingNetworks (WR ((WR ((WR ((WR ((WR ((WR ((WR (v1+1))+1))+1))+1))+1))+1))+1))) λ(r1,y1)=>abX (gT x_Submitted (WR ((WR ((WR ((WR ((WR ((WR ((WR ((WR ((WR ((WR ((WR ((WR ((WR ((WR ((WR (r1+1))+1))+1))+1))+1))+1))+1))+1))+1))+1))+1))+1))+1))+1))+1))) λ(r2,y2)=>abX (d5 x_Window_Unacked (WR (r2+1))) λ(r3,y3)=>ς ((WR ((WR ((WR ((WR (r3+1))+1))+1))+1)),(⟨⟨⟨v1,(WR (v1+1))⟩,(WR ((WR (v1+1))+1)),(WR ((WR ((WR (v1+1))+1))+1))⟩,⟨(WR ((WR ((WR ((WR (v1+1))+1))+1))+1)),(WR ((WR ((WR ((WR ((WR (v1+1))+1))+1))+1))+1)),(WR ((WR ((WR ((WR ((WR ((WR (v1+1))+1))+1))+1))+1))+1)),y1⟩,r1,⟨(WR (r1+1)),(WR ((WR (r1+1))+1)),(WR ((WR ((WR (r1+1))+1))+1)),(WR ((WR ((WR ((WR (r1+1))+1))+1))+1)),(WR ((WR ((WR ((WR ((WR (r1+1))+1))+1))+1))+1))⟩,(WR ((WR ((WR ((WR ((WR ((WR (r1+1))+1))+1))+1))+1))+1)),(WR ((WR ((WR ((WR ((WR ((WR ((WR (r1+1))+1))+1))+1))+1))+1))+1)),(WR ((WR ((WR ((WR ((WR ((WR ((WR ((WR (r1+1))+1))+1))+1))+1))+1))+1))+1)),(WR ((WR ((WR ((WR ((WR ((WR ((WR ((WR ((WR (r1+1))+1))+1))+1))+1))+1))+1))+1))+1)),(WR ((WR ((WR ((WR ((WR ((WR ((WR ((WR ((WR ((WR (r1+1))+1))+1))+1))+1))+1))+1))+1))+1))+1)),(WR ((WR ((WR ((WR ((WR ((WR ((WR ((WR ((WR ((WR ((WR (r1+1))+1))+1))+1))+1))+1))+1))+1))+1))+1))+1)),⟨(WR ((WR ((WR ((WR ((WR ((WR ((WR ((WR ((WR ((WR ((WR ((WR (r1+1))+1))+1))+1))+1))+1))+1))+1))+1))+1))+1))+1)),(WR ((WR ((WR ((WR ((WR ((WR ((WR ((WR ((WR ((WR ((WR ((WR ((WR (r1+1))+1))+1))+1))+1))+1))+1))+1))+1))+1))+1))+1))+1)),(WR ((WR ((WR ((WR ((WR ((WR ((WR ((WR ((WR ((WR ((WR ((WR ((WR ((WR (r1+1))+1))+1))+1))+1))+1))+1))+1))+1))+1))+1))+1))+1))+1))⟩,y2,⟨r2,y3⟩,r3,⟨(WR (r3+1)),(WR ((WR (r3+1))+1)),(WR ((WR ((WR (r3+1))+1))+1))⟩⟩:ag)))=ς (k,y):=HE
   refine dB hx hx ?_
   refine dB (ixS hx) hx ?_
   refine dB (ixS hx) hx ?_
   refine dB (ixS hx) hx ?_
   refine dB (ixS hx) hx ?_
   refine dB (ixS hx) hx ?_
   refine dB (ixS hx) hx ?_
   obtain⟨⟨r1,y1⟩,q1,H⟩:=ob H
   refine Ez (B2 q1) (ixS hx) hx ?_
   refine dB (ixS hx) hx ?_
   refine dB (ixS hx) hx ?_
   refine dB (ixS hx) hx ?_
   refine dB (ixS hx) hx ?_
   refine dB (ixS hx) hx ?_
   refine dB (ixS hx) hx ?_
   refine dB (ixS hx) hx ?_
   refine dB (ixS hx) hx ?_
   refine dB (ixS hx) hx ?_
   refine dB (ixS hx) hx ?_
   refine dB (ixS hx) hx ?_
   refine dB (ixS hx) hx ?_
   refine dB (ixS hx) hx ?_
   refine dB (ixS hx) hx ?_
   refine dB (ixS hx) hx ?_
   obtain⟨⟨r2,y2⟩,q2,H⟩:=ob H
   refine Ez (vm q2) (ixS hx) hx ?_
   refine dB (ixS hx) hx ?_
   obtain⟨⟨r3,y3⟩,q3,H⟩:=ob H
   refine Ez (nJ q3) (ixS hx) hx ?_
   refine dB (ixS hx) hx ?_
   refine dB (ixS hx) hx ?_
   refine dB (ixS hx) hx ?_
   refine dB (ixS hx) hx ?_
   cases H
   cases Hz
   refine y6 ?_
   exact wo
  exact aE H
 cases H
 exact ea
theorem Ev(h1:p)(h2:q)(w:g)(h:p->q->g->G:=by(intro h1 h2 w;refine nA (xwT h2) ?_;refine sA (stS (enc:=bu) (a':=(⟨_,_,_,_⟩:an)) (hs:=by(dsimp only[lp,bu];(first|done|exact rfl))) h1) ?_;exact w)):G:=h h1 h2 w
theorem Up(h0:r)(h1:p)(h2:q)(w:g)(h:r->p->q->g->G:=by(intro h0 h1 h2 w;refine nA (xwT h2) ?_;refine mkA (enc:=bu) (a':=(⟨_,_,_,_⟩:an)) (hs':=by(dsimp only[ab3,bu];(first|done|exact rfl))) h0 h1 ?_;exact w)):G:=h h0 h1 h2 w
def pO(x:an)(v1:Int):Option (Int×an):=
 match x with
 |⟨x_Total,x_Available,x_Spent,x_Reservations⟩=>abX (gI x_Reservations (WR ((WR ((WR (v1+1))+1))+1))) λ(r1,y1)=>ς (r1,(⟨v1,(WR (v1+1)),(WR ((WR (v1+1))+1)),y1⟩:an))
def ti(a0:List an)(a1:Int):Option (Int×List an):=mX pO a0 a1
theorem Cl{a0:List an}{r:Int×List an}(H:ti a0 a1=ς r):FnV prog 48 [(200,.row ty 4 (a0.map bu) (.s 200) ζ)] [.v (.c (.w 200 a0.length)),tI a1] [(200,.row ty 4 (r.2.map bu) (.s 200) ζ)] (tI r.1) []:=by
 refine fV func48 ntmps48 ?_
 obtain⟨⟨v5,v6⟩,Hj,H⟩:=ob H
 refine jB ⟨[(1,tI v5)],[(200,.row ty 4 (v6.map bu) (.s 200) ζ)],210⟩ ?_ ?_
 .refine iT Hj (λq=>⟨[(0,.v (.c (.w 200 q.2.2.length))),(1,tI q.1),(5,tI q.2.1)],[(200,.row ty 4 (q.2.2.map bu) (.s 200) ζ)],210⟩) ?_
  rintro⟨v1,v2,v3⟩ o H
  refine ad ?_
  refine cC H ?_ ?_<;>intro H
  .obtain⟨x,hx,H⟩:=ob H
   obtain⟨⟨k,y⟩,HE,Hz⟩:=ob H
   obtain⟨x_Total,x_Available,x_Spent,x_Reservations⟩:=x
   have H:(abX (gI x_Reservations (WR ((WR ((WR (v1+1))+1))+1))) λ(r1,y1)=>ς (r1,(⟨v1,(WR (v1+1)),(WR ((WR (v1+1))+1)),y1⟩:an)))=ς (k,y):=HE
   refine Ev hx hx ?_
   refine Ev (ixS hx) hx ?_
   refine Ev (ixS hx) hx ?_
   obtain⟨⟨r1,y1⟩,q1,H⟩:=ob H
   refine Up (yk q1) (ixS hx) hx ?_
   cases H
   cases Hz
   refine y6 ?_
   exact wo
  exact aE H
 cases H
 exact ea
theorem fw(h1:p)(h2:q)(w:g)(h:p->q->g->G:=by(intro h1 h2 w;refine nA (xwT h2) ?_;refine sA (stS (enc:=aW) (a':=(⟨_,_,_,_,⟨_,_,_,_,_,⟨_,_,_,_,_⟩,_⟩,⟨_,_,⟨_,_,_,_⟩⟩⟩:aH)) (hs:=by(dsimp only[lp,aW];(first|done|exact rfl))) h1) ?_;exact w)):G:=h h1 h2 w
theorem Yc(h0:r)(h1:p)(h2:q)(w:g)(h:r->p->q->g->G:=by(intro h0 h1 h2 w;refine nA (xwT h2) ?_;refine mkA (enc:=aW) (a':=(⟨_,_,_,_,⟨_,_,_,_,_,⟨_,_,_,_,_⟩,_⟩,⟨_,_,⟨_,_,_,_⟩⟩⟩:aH)) (hs':=by(dsimp only[ab3,aW];(first|done|exact rfl))) h0 h1 ?_;exact w)):G:=h h0 h1 h2 w
def ro(x:aH)(v1:Int):Option (Int×aH):=
 match x with
 |⟨x_Device,x_Uplink,x_IsRadio,x_Cell,⟨x_Signal_Kind,x_Signal_Cell,x_Signal_Generation,x_Signal_Epoch,x_Signal_Number,⟨x_Signal_Vector_Rand,x_Signal_Vector_Autn,x_Signal_Vector_MAC,x_Signal_Vector_Res,x_Signal_Vector_Key⟩,x_Signal_MAC⟩,⟨x_Radio_Generation,x_Radio_Epoch,⟨x_Radio_Message_Direction,x_Radio_Message_Count,x_Radio_Message_Data,x_Radio_Message_MAC⟩⟩⟩=>abX (iS x_Radio_Message_Data (WR ((WR ((WR ((WR ((WR ((WR ((WR ((WR ((WR ((WR ((WR ((WR ((WR ((WR ((WR ((WR ((WR ((WR ((WR (v1+1))+1))+1))+1))+1))+1))+1))+1))+1))+1))+1))+1))+1))+1))+1))+1))+1))+1))+1))) λ(r1,y1)=>ς ((WR (r1+1)),(⟨v1,(eqB (Int.tmod (WR (v1+1)) 3) 0),(eqB (Int.tmod (WR ((WR (v1+1))+1)) 3) 0),(WR ((WR ((WR (v1+1))+1))+1)),⟨(WR ((WR ((WR ((WR (v1+1))+1))+1))+1)),(WR ((WR ((WR ((WR ((WR (v1+1))+1))+1))+1))+1)),(WR ((WR ((WR ((WR ((WR ((WR (v1+1))+1))+1))+1))+1))+1)),(WR ((WR ((WR ((WR ((WR ((WR ((WR (v1+1))+1))+1))+1))+1))+1))+1)),(WR ((WR ((WR ((WR ((WR ((WR ((WR ((WR (v1+1))+1))+1))+1))+1))+1))+1))+1)),⟨(WR ((WR ((WR ((WR ((WR ((WR ((WR ((WR ((WR (v1+1))+1))+1))+1))+1))+1))+1))+1))+1)),(WR ((WR ((WR ((WR ((WR ((WR ((WR ((WR ((WR ((WR (v1+1))+1))+1))+1))+1))+1))+1))+1))+1))+1)),(WR ((WR ((WR ((WR ((WR ((WR ((WR ((WR ((WR ((WR ((WR (v1+1))+1))+1))+1))+1))+1))+1))+1))+1))+1))+1)),(WR ((WR ((WR ((WR ((WR ((WR ((WR ((WR ((WR ((WR ((WR ((WR (v1+1))+1))+1))+1))+1))+1))+1))+1))+1))+1))+1))+1)),(WR ((WR ((WR ((WR ((WR ((WR ((WR ((WR ((WR ((WR ((WR ((WR ((WR (v1+1))+1))+1))+1))+1))+1))+1))+1))+1))+1))+1))+1))+1))⟩,(WR ((WR ((WR ((WR ((WR ((WR ((WR ((WR ((WR ((WR ((WR ((WR ((WR ((WR (v1+1))+1))+1))+1))+1))+1))+1))+1))+1))+1))+1))+1))+1))+1))⟩,⟨(WR ((WR ((WR ((WR ((WR ((WR ((WR ((WR ((WR ((WR ((WR ((WR ((WR ((WR ((WR (v1+1))+1))+1))+1))+1))+1))+1))+1))+1))+1))+1))+1))+1))+1))+1)),(WR ((WR ((WR ((WR ((WR ((WR ((WR ((WR ((WR ((WR ((WR ((WR ((WR ((WR ((WR ((WR (v1+1))+1))+1))+1))+1))+1))+1))+1))+1))+1))+1))+1))+1))+1))+1))+1)),⟨(WR ((WR ((WR ((WR ((WR ((WR ((WR ((WR ((WR ((WR ((WR ((WR ((WR ((WR ((WR ((WR ((WR (v1+1))+1))+1))+1))+1))+1))+1))+1))+1))+1))+1))+1))+1))+1))+1))+1))+1)),(WR ((WR ((WR ((WR ((WR ((WR ((WR ((WR ((WR ((WR ((WR ((WR ((WR ((WR ((WR ((WR ((WR ((WR (v1+1))+1))+1))+1))+1))+1))+1))+1))+1))+1))+1))+1))+1))+1))+1))+1))+1))+1)),y1,r1⟩⟩⟩:aH))
def uM(a0:List aH)(a1:Int):Option (Int×List aH):=mX ro a0 a1
theorem Ek{a0:List aH}{r:Int×List aH}(H:uM a0 a1=ς r):FnV prog 49 [(200,.row ty 21 (a0.map aW) (.s 200) ζ)] [.v (.c (.w 200 a0.length)),tI a1] [(200,.row ty 21 (r.2.map aW) (.s 200) ζ)] (tI r.1) []:=by
 refine fV func49 ntmps49 ?_
 obtain⟨⟨v5,v6⟩,Hj,H⟩:=ob H
 refine jB ⟨[(1,tI v5)],[(200,.row ty 21 (v6.map aW) (.s 200) ζ)],210⟩ ?_ ?_
 .refine iT Hj (λq=>⟨[(0,.v (.c (.w 200 q.2.2.length))),(1,tI q.1),(5,tI q.2.1)],[(200,.row ty 21 (q.2.2.map aW) (.s 200) ζ)],210⟩) ?_
  rintro⟨v1,v2,v3⟩ o H
  refine ad ?_
  refine cC H ?_ ?_<;>intro H
  .obtain⟨x,hx,H⟩:=ob H
   obtain⟨⟨k,y⟩,HE,Hz⟩:=ob H
   obtain⟨x_Device,x_Uplink,x_IsRadio,x_Cell,⟨x_Signal_Kind,x_Signal_Cell,x_Signal_Generation,x_Signal_Epoch,x_Signal_Number,⟨x_Signal_Vector_Rand,x_Signal_Vector_Autn,x_Signal_Vector_MAC,x_Signal_Vector_Res,x_Signal_Vector_Key⟩,x_Signal_MAC⟩,⟨x_Radio_Generation,x_Radio_Epoch,⟨x_Radio_Message_Direction,x_Radio_Message_Count,x_Radio_Message_Data,x_Radio_Message_MAC⟩⟩⟩:=x
   have H:(abX (iS x_Radio_Message_Data (WR ((WR ((WR ((WR ((WR ((WR ((WR ((WR ((WR ((WR ((WR ((WR ((WR ((WR ((WR ((WR ((WR ((WR ((WR (v1+1))+1))+1))+1))+1))+1))+1))+1))+1))+1))+1))+1))+1))+1))+1))+1))+1))+1))+1))) λ(r1,y1)=>ς ((WR (r1+1)),(⟨v1,(eqB (Int.tmod (WR (v1+1)) 3) 0),(eqB (Int.tmod (WR ((WR (v1+1))+1)) 3) 0),(WR ((WR ((WR (v1+1))+1))+1)),⟨(WR ((WR ((WR ((WR (v1+1))+1))+1))+1)),(WR ((WR ((WR ((WR ((WR (v1+1))+1))+1))+1))+1)),(WR ((WR ((WR ((WR ((WR ((WR (v1+1))+1))+1))+1))+1))+1)),(WR ((WR ((WR ((WR ((WR ((WR ((WR (v1+1))+1))+1))+1))+1))+1))+1)),(WR ((WR ((WR ((WR ((WR ((WR ((WR ((WR (v1+1))+1))+1))+1))+1))+1))+1))+1)),⟨(WR ((WR ((WR ((WR ((WR ((WR ((WR ((WR ((WR (v1+1))+1))+1))+1))+1))+1))+1))+1))+1)),(WR ((WR ((WR ((WR ((WR ((WR ((WR ((WR ((WR ((WR (v1+1))+1))+1))+1))+1))+1))+1))+1))+1))+1)),(WR ((WR ((WR ((WR ((WR ((WR ((WR ((WR ((WR ((WR ((WR (v1+1))+1))+1))+1))+1))+1))+1))+1))+1))+1))+1)),(WR ((WR ((WR ((WR ((WR ((WR ((WR ((WR ((WR ((WR ((WR ((WR (v1+1))+1))+1))+1))+1))+1))+1))+1))+1))+1))+1))+1)),(WR ((WR ((WR ((WR ((WR ((WR ((WR ((WR ((WR ((WR ((WR ((WR ((WR (v1+1))+1))+1))+1))+1))+1))+1))+1))+1))+1))+1))+1))+1))⟩,(WR ((WR ((WR ((WR ((WR ((WR ((WR ((WR ((WR ((WR ((WR ((WR ((WR ((WR (v1+1))+1))+1))+1))+1))+1))+1))+1))+1))+1))+1))+1))+1))+1))⟩,⟨(WR ((WR ((WR ((WR ((WR ((WR ((WR ((WR ((WR ((WR ((WR ((WR ((WR ((WR ((WR (v1+1))+1))+1))+1))+1))+1))+1))+1))+1))+1))+1))+1))+1))+1))+1)),(WR ((WR ((WR ((WR ((WR ((WR ((WR ((WR ((WR ((WR ((WR ((WR ((WR ((WR ((WR ((WR (v1+1))+1))+1))+1))+1))+1))+1))+1))+1))+1))+1))+1))+1))+1))+1))+1)),⟨(WR ((WR ((WR ((WR ((WR ((WR ((WR ((WR ((WR ((WR ((WR ((WR ((WR ((WR ((WR ((WR ((WR (v1+1))+1))+1))+1))+1))+1))+1))+1))+1))+1))+1))+1))+1))+1))+1))+1))+1)),(WR ((WR ((WR ((WR ((WR ((WR ((WR ((WR ((WR ((WR ((WR ((WR ((WR ((WR ((WR ((WR ((WR ((WR (v1+1))+1))+1))+1))+1))+1))+1))+1))+1))+1))+1))+1))+1))+1))+1))+1))+1))+1)),y1,r1⟩⟩⟩:aH)))=ς (k,y):=HE
   refine fw hx hx ?_
   refine nA (ir rfl rfl rfl (by decide)) ?_
   refine fw (ixS hx) hx ?_
   refine nA (ir rfl rfl rfl (by decide)) ?_
   refine fw (ixS hx) hx ?_
   refine fw (ixS hx) hx ?_
   refine fw (ixS hx) hx ?_
   refine fw (ixS hx) hx ?_
   refine fw (ixS hx) hx ?_
   refine fw (ixS hx) hx ?_
   refine fw (ixS hx) hx ?_
   refine fw (ixS hx) hx ?_
   refine fw (ixS hx) hx ?_
   refine fw (ixS hx) hx ?_
   refine fw (ixS hx) hx ?_
   refine fw (ixS hx) hx ?_
   refine fw (ixS hx) hx ?_
   refine fw (ixS hx) hx ?_
   refine fw (ixS hx) hx ?_
   refine fw (ixS hx) hx ?_
   refine fw (ixS hx) hx ?_
   obtain⟨⟨r1,y1⟩,q1,H⟩:=ob H
   refine Yc (uH q1) (ixS hx) hx ?_
   refine fw (ixS hx) hx ?_
   cases H
   cases Hz
   refine y6 ?_
   exact wo
  exact aE H
 cases H
 exact ea
end Go.AM
