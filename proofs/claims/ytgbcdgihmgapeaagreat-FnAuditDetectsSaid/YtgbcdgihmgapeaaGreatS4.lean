/- A part. -/
import Derived.Test.YtgbcdgihmgapeaaGreatG
set_option linter.unusedVariables false
open Option renaming some->ς,none->ξ
open Bool renaming true->ζ,false->η
open True renaming intro->θ
open Option renaming bind->abd
namespace Go.AM
open Go.Proofs
open Tryz
attribute [local irreducible] AWN NS AWO AWR AWC DR DZ cB eZ iter
set_option maxRecDepth 100000
set_option maxHeartbeats 40000000
variable{a0:Go.AM.aT}{r:Int×Go.AM.aT}{a1:Int}
def iM(a0:aV):(Int×List fk)->Option (ct (Int×List fk) (List fk))
 |(v1,v2)=>cond (ltB v1 (a0.bp.length:Int)) (abd (ix a0.bp v1) λx6=>abd (ix a0.bp v1) λx7=>cond (cW 8 (([]:List Int)++x7.cy).length) (cond (cW 32 (v2++[(⟨x6.gB,(([]:List Int)++x7.cy)⟩:fk)]).length) (ς (.next (WR (v1+1),(v2++[(⟨x6.gB,(([]:List Int)++x7.cy)⟩:fk)])))) ξ) ξ) (ς (.done v2))
def ox(a0:aV):Option aV:=
 abd (iter (iM a0) FU (0,([]:List fk))) λ(v5:List fk)=>ς (⟨v5⟩:aV)
instance YF{a0:aV}{r:aV}:FCV prog (ox a0=ς r) 25 [] [.v (.agg [.d η (.l (a0.bp.map fP))])] [] (.v (.agg [.wn 210 r.bp.length])) [(210,N9 r.bp)]:=⟨λH=>by
 refine fV func25 ntmps25 ?_
 refine aa H λv5 Hj H=>jB ⟨[(2,tP 211),(3,tP 212)],[(211,.var 26 [.nil]),(212,.var 26 [.wn 213 v5.length]),(213,N9 v5)],214⟩ ?_ ?_
 .refine iT Hj (λq=>⟨[(1,tP 210),(2,tP 211),(3,tP 212),(4,tI q.1)],[(210,.var 26 [.d η (.l (a0.bp.map fP))]),(211,.var 26 [.nil]),(212,.var 26 [.wn 213 q.2.length]),(213,N9 q.2)],214⟩) ?_ (by refine aK (dY (o:=212) (j:=0) 113 2 ζ) ?_;refine aK (wB 213 (([]:List fk).length)) ?_;exact wo)
  rintro⟨v1,v2⟩ o H
  refine ad ?_
  refine cC H ?_ ?_<;>intro H
  .refine zI (List.range 21) ?_
   refine aa H λx6 hx6 H=>zA (xdT (enc:=fP) hx6) ?_
   refine aa H λx7 hx7 H=>zA (xdT (enc:=fP) hx7) ?_
   obtain⟨h,H⟩:=rq H
   refine wA (Dx (enc:=eI) (ys:=([]:List Int)) (zs:=x7.cy) [214] h) ?_
   obtain⟨h,H⟩:=rq H
   refine oY (ds:=[214]) (by kernel_rfl) (by kernel_rfl) rfl (by kernel_rfl) cr (jP rfl (GU (enc:=fP) (ys:=v2) (zs:=[(⟨x6.gB,(([]:List Int)++x7.cy)⟩:fk)]) h (by first|exact List.cons_ne_nil _ _|simp) rfl (λ_=>rfl) (by first|rfl|simp) (.w rfl (by first|rfl|exact lm _|simp)) rfl rfl rfl rfl rfl rfl rfl rfl rfl rfl)) cr rfl ?_
   refine wI ?_
   refine wA (spx 100015) ?_
   cases H
   refine uU ?_
   refine aK (gA 213) ?_
   exact wo
  exact aE H
 cases H
 refine ci (wS 213 210) ?_
 exact dK⟩
instance KQ{a0:aV}{r:aV}:FCF prog (ox a0=ς r) 25 [.agg (js a0)] [.agg [.d (.l (r.bp.map fP))]]:=⟨λH=>by
 refine fI func25 ntmps25 ?_
 refine aa H λv5 Hj H=>jB ⟨[(2,tP 1),(3,tP 2)],[(1,.var 26 [.nil]),(2,.var 26 [.wn 3 v5.length]),(3,N9 v5)],4⟩ ?_ ?_
 .refine iT Hj (λq=>⟨[(1,tP 0),(2,tP 1),(3,tP 2),(4,tI q.1)],[(0,.var 26 [.d η (.l (a0.bp.map fP))]),(1,.var 26 [.nil]),(2,.var 26 [.wn 3 q.2.length]),(3,N9 q.2)],4⟩) ?_ (by refine aK (dY (o:=2) (j:=0) 113 2 ζ) ?_;refine aK (wB 3 (([]:List fk).length)) ?_;exact wo)
  rintro⟨v1,v2⟩ o H
  refine ad ?_
  refine cC H ?_ ?_<;>intro H
  .refine zI (List.range 21) ?_
   refine aa H λx6 hx6 H=>zA (xdT (enc:=fP) hx6) ?_
   refine aa H λx7 hx7 H=>zA (xdT (enc:=fP) hx7) ?_
   obtain⟨h,H⟩:=rq H
   refine wA (Dx (enc:=eI) (ys:=([]:List Int)) (zs:=x7.cy) [4] h) ?_
   obtain⟨h,H⟩:=rq H
   refine oY (ds:=[4]) (by kernel_rfl) (by kernel_rfl) rfl (by kernel_rfl) cr (jP rfl (GU (enc:=fP) (ys:=v2) (zs:=[(⟨x6.gB,(([]:List Int)++x7.cy)⟩:fk)]) h (by first|exact List.cons_ne_nil _ _|simp) rfl (λ_=>rfl) (by first|rfl|simp) (.w rfl (by first|rfl|exact lm _|simp)) rfl rfl rfl rfl rfl rfl rfl rfl rfl rfl)) cr rfl ?_
   refine wI ?_
   refine wA (spx 100025) ?_
   cases H
   refine uU ?_
   refine aK (gA 3) ?_
   exact wo
  exact aE H
 cases H
 refine G6 (ev 3) ?_
 exact kn⟩
def lc(a0:aC)(a1:aM):Option bj:=
 ς (⟨{a0 with gE:=3},[a1]⟩:bj)
instance YN{a0:aC}{a1:aM}{r:bj}:FCV prog (lc a0 a1=ς r) 121 [] [.v (.agg (kM [.f,.f] (qa a0))),.v (.agg (kM [] (iy a1)))] [] (.v (.agg (kM [.f,.f,.w 210] (eb r)))) [(210,w65 r.dF)]:=gV func121 ntmps121
def qE(a0:aC):Option aM:=
 ς {iJ with bk:=1,bv:=a0.bv}
instance V3{a0:aC}{r:aM}:FC prog (qE a0=ς r) 122 [.agg (di a0)] [.agg (qM [] (iy r))]:=gG func122 ntmps122
def Cw(a0:Int)(a1:Int):Option Int:=
 cond (ltB a0 a1) (ς a1) (ς a0)
instance Yw{a0:Int}{r:Int}:FC prog (Cw a0 a1=ς r) 76 [aI a0,aI a1] [.c (.d (.i .i64 r))]:=gG func76 ntmps76
def mI:Option jN:=
 ς (⟨[1,2]⟩:jN)
instance Jx{r:jN}:FC prog (mI=ς r) 215 [] [.agg [.own 3 1 (r.Steps.map eI) r.Steps.length]]:=gG func215 ntmps215
def Cy(a0:Int)(a1:Int):Option Int:=
 cond (ltB a1 a0) (ς a1) (ς a0)
instance Ge{a0:Int}{r:Int}:FC prog (Cy a0 a1=ς r) 78 [aI a0,aI a1] [.c (.d (.i .i64 r))]:=gG func78 ntmps78
def om(a0:List Int)(a1:List Int):Option Bool:=
 ς (strB (uz a0) (uz a1))
instance Ua{a0:List Int}{a1:List Int}{r:Bool}:FC prog (om a0 a1=ς r) 165 [aL (a0.map eU8),aL (a1.map eU8)] [.c (.d (.b r))]:=gG func165 ntmps165
def ue(a0:List ae):(Int×Int)->Option (ct (Int×Int) (Int))
 |(v1,v2)=>cond (ltB v2 (a0.length:Int)) (abd (ix a0 v2) λx5=>ς (.next (WR (v1+(x5.bb.length:Int)),WR (v2+1)))) (ς (.done v1))
def nC(a0:List ae):Option Int:=
 abd (iter (ue a0) FU (0,0)) λ(v4:Int)=>ς v4
instance W0{a0:List ae}{r:Int}:FC prog (nC a0=ς r) 166 [aL (a0.map aX)] [.c (.d (.i .i64 r))]:=gG func166 ntmps166 (hm 0 3 4) (he 0 3 4)
def A0(a0:List aJ)(a1:Int)(a2:Int):Option (List aJ):=
 cond (cW 16 (([]:List aJ)++a0).length) (abd (ix a0 a1) λx1=>cond (ltB a2 x1.dO) (abd (ix a0 a1) λx2=>abd (ix (([]:List aJ)++a0) a1) λx3=>ς ((([]:List aJ)++a0).set (a1).toNat (⟨x3.aA,WR (x2.dO-a2)⟩:aJ))) (cond (fH (([]:List aJ)++a0) 0 a1) (cond (fH a0 (WR (a1+1)) a0.length) (cond (cW 16 ((([]:List aJ)++a0).take (a1).toNat++(a0.drop (WR (a1+1)).toNat)).length) (ς ((([]:List aJ)++a0).take (a1).toNat++(a0.drop (WR (a1+1)).toNat))) ξ) ξ) ξ)) ξ
instance sl16Cut_c{a0:List aJ}{a2:Int}{r:List aJ}:FC prog (A0 a0 a1 a2=ς r) 200 [aL (a0.map b9),aI a1,aI a2] [.c (.own 170 2 (r.map b9) r.length)]:=⟨λH=>by
 refine fI func200 ntmps200 ?_
 obtain⟨h,H⟩:=rq H
 refine iu rfl (apT (enc:=b9) (ys:=([]:List aJ)) (zs:=a0) h) ?_
 refine aW (tC (enc:=b9) (o:=0)) ?_
 refine aa H λx1 hx1 H=>nA (xdT (enc:=b9) hx1) ?_
 refine cC H ?_ ?_<;>intro H
 .refine aa H λx2 hx2 H=>nA (xdT (enc:=b9) hx2) ?_
  refine aa H λx3 hx3 H=>nA (xwT hx3) ?_
  refine sA (soT (enc:=b9) (a':=(⟨x3.aA,WR (x2.dO-a2)⟩:aJ)) hx3) ?_
  exact ao H
 refine zI (List.range 9) ?_
 obtain⟨hs2,H⟩:=rq H
 refine zA (cwfT (enc:=b9) hs2 (by first|rfl|simp) rfl rfl rfl rfl) ?_
 obtain⟨h,H⟩:=rq H
 refine zA (UB (enc:=b9) h (λ_=>rfl) rfl rfl rfl) ?_
 obtain⟨h,H⟩:=rq H
 refine wA (apxPF (enc:=b9) (h:=a1) (ys:=(([]:List aJ)++a0)) (zs:=a0.drop (WR (a1+1)).toNat) [0] hs2 h rfl (λ_=>rfl) (λ_=>rfl) rfl .d rfl rfl rfl rfl rfl rfl) ?_
 refine oZ (ds:=[0]) (by kernel_rfl) (by kernel_rfl) rfl ?_
 refine wI ?_
 cases H
 exact kn⟩
def ji(a0:aV)(a1:Int):(Int×List Int)->Option (ct (Int×List Int) (List Int))
 |(v1,v2)=>cond (ltB v1 (a0.bp.length:Int)) (abd (ix a0.bp v1) λx6=>abd (cond (eqB x6.gB a1) (cond (cW 8 (v2++[v1]).length) (ς (v2++[v1])) ξ) (ς v2)) λ(v7:List Int)=>ς (.next (WR (v1+1),v7))) (ς (.done v2))
def pk(a0:aV)(a1:Int):Option (List Int):=
 abd (iter (ji a0 a1) FU (0,([]:List Int))) λ(v5:List Int)=>ς v5
instance SC{a0:aV}{r:List Int}:FC prog (pk a0 a1=ς r) 218 [.agg (js a0),aI a1] [.c (.own 3 1 (r.map eI) r.length)]:=gG func218 ntmps218 (hL 0 (λ(v:Int×List Int) sl ob nx=>⟨(5,.v (.c (.w 1 v.2.length)))::(6,tI v.1)::xS [1] sl,[(1,w3 v.2)]++ob,nx⟩)) (hB 0 (λ(v:List Int) sl ob nx=>⟨(5,.v (.c (.w 1 v.length)))::(6,.any)::xS [1] sl,[(1,w3 v)]++ob,nx⟩)) (hC 22 (λ(v:List Int) sl ob nx=>⟨(5,.v (.c (.w 1 v.length)))::xS [1] sl,[(1,w3 v)]++ob,nx⟩))
def jh(a0:List Int):(Int×List Int)->Option (ct (Int×List Int) (List Int))
 |(v1,v2)=>cond (ltB v1 (a0.length:Int)) (abd (ix a0 v1) λx5=>cond (cW 8 (v2++[WR (x5)]).length) (ς (.next (WR (v1+1),(v2++[WR (x5)])))) ξ) (ς (.done v2))
def pj(a0:List Int):Option (List Int):=
 abd (iter (jh a0) FU (0,[(a0.length:Int)])) λ(v4:List Int)=>ς v4
instance Cr{a0:List Int}{r:List Int}:FC prog (pj a0=ς r) 214 [aL (a0.map eU8)] [.c (.own 3 1 (r.map eI) r.length)]:=gG func214 ntmps214 (hL 0 (λ(v:Int×List Int) sl ob nx=>⟨(3,.v (.c (.w 0 v.2.length)))::(4,tI v.1)::xS [0] sl,[(0,w3 v.2)]++ob,nx⟩)) (hB 0 (λ(v:List Int) sl ob nx=>⟨(3,.v (.c (.w 0 v.length)))::(4,.any)::xS [0] sl,[(0,w3 v)]++ob,nx⟩))
def mB(a0:ah):Option Int:=
 abd (nC a0.ax.aG) λr1=>ς r1
instance Jv{a0:ah}{r:Int}:FC prog (mB a0=ς r) 203 [.agg (cO a0)] [.c (.d (.i .i64 r))]:=gG func203 ntmps203
def rI(a0:List ae)(a1:Int):Int->Option (ct (Int) (Int))
 |v1=>cond (ltB v1 (a0.length:Int)) (abd (ix a0 v1) λx2=>cond (eqB x2.cZ a1) (dn (ς v1)) (ς (.next (WR (v1+1))))) (dn (ς (-1)))
def CM(a0:List ae)(a1:Int):Option Int:=
 iter (rI a0 a1) FU 0
instance KV{a0:List ae}{r:Int}:FC prog (CM a0 a1=ς r) 211 [aL (a0.map aX),aI a1] [.c (.d (.i .i64 r))]:=gG func211 ntmps211 (hl 0 5)
def rH(a0:aT):Option (Int×aT):=
 abd (cond (ltB a0.fi (a0.fb.length:Int)) (abd (ix a0.fb a0.fi) λx3=>ς (zo .i64 (WR ((zo .i64 (GY .i64 (E9 .i64 (WR ((WR (a0.fh*6364136223846793005))+1442695040888963407)) 33) (E9 .i64 (WR ((WR (a0.fh*6364136223846793005))+1442695040888963407)) 47)) 255)+(WR (x3)))) 255,WR (a0.fi+1))) (ς (zo .i64 (GY .i64 (E9 .i64 (WR ((WR (a0.fh*6364136223846793005))+1442695040888963407)) 33) (E9 .i64 (WR ((WR (a0.fh*6364136223846793005))+1442695040888963407)) 47)) 255,a0.fi))) λ((v1,v2):Int×Int)=>ς (v1,(⟨a0.fb,v2,WR ((WR (a0.fh*6364136223846793005))+1442695040888963407)⟩:aT))
instance sl1Byte_c:FCW prog (rH a0=ς r) 75 (.var 92 (kM [.f] (bZ a0))) [tP 200] (.var 92 (kM [.f] (bZ r.2))) [.c (.d (.i .i64 r.1))]:=gW func75 ntmps75 (hC 34 (λ(v:Int×Int) sl ob nx=>⟨(3,tI v.1)::sl,[(200,.var 92 (kM [.f] (bZ (⟨a0.fb,v.2,WR ((WR (a0.fh*6364136223846793005))+1442695040888963407)⟩:aT))))]++ob,nx⟩))
def cj(a0:aT)(a1:Int):Option (Int×aT):=
 cond (leB a1 0) (ς (0,a0)) (cond (leB a1 256) (abd (rH a0) λr1=>cond (!eqB a1 0) (ς (Int.tmod r1.1 a1,r1.2)) ξ) (abd (rH a0) λr2=>abd (rH r2.2) λr3=>abd (rH r3.2) λr4=>cond (!eqB a1 0) (ς (Int.tmod (WR ((WR ((WR (r2.1*65536))+(WR (r3.1*256))))+r4.1)) a1,r4.2)) ξ))
instance dT:FCW prog (cj a0 a1=ς r) 42 (.var 92 (kM [.f] (bZ a0))) [tP 200,tI a1] (.var 92 (kM [.f] (bZ r.2))) [.c (.d (.i .i64 r.1))]:=gW func42 ntmps42
def gY(a0:aT)(a1:Int):Option (Bool×aT):=
 abd (cj a0 a1) λr1=>ς (eqB r1.1 0,r1.2)
instance pK{r:Bool×aT}:FCW prog (gY a0 a1=ς r) 73 (.var 92 (kM [.f] (bZ a0))) [tP 200,tI a1] (.var 92 (kM [.f] (bZ r.2))) [.c (.d (.b r.1))]:=gW func73 ntmps73
def As:(Int×List Int×aT)->Option (ct (Int×List Int×aT) (List Int×aT))
 |(v4,v8,v9)=>cond (ltB v4 4) (abd (gY v9 3) λr17=>abd (cond r17.1 (cond (cW 8 (v8++[v4]).length) (ς (v8++[v4])) ξ) (ς v8)) λ(v18:List Int)=>ς (.next (WR (v4+1),v18,r17.2))) (ς (.done (v8,v9)))
def yT(a0:aT):Option (bK×aT):=
 abd (cj a0 9) λr1=>abd (cj r1.2 4) λr2=>abd (cj r2.2 20) λr3=>abd (iter (As) FU (0,([]:List Int),r3.2)) λ((v15,v16):List Int×aT)=>ς ((⟨WR (1+r1.1),WR (1+r2.1),WR (1+r3.1),v15⟩:bK),v16)
instance KU{r:bK×aT}:FCV prog (yT a0=ς r) 67 [(200,.var 92 (kM [.f] (bZ a0)))] [tP 200] [(200,.var 92 (kM [.f] (bZ r.2)))] (.v (.agg (kM [.n 210] (qc r.1)))) [(210,n3 r.1.bJ)]:=gV func67 ntmps67 (hL 0 (λ(v:Int×List Int×aT) sl ob nx=>⟨(4,tI v.1)::xS [212] sl,[(200,.var 92 (kM [.f] (bZ v.2.2))),(212,n3 v.2.1)]++(uC 211 3 [.wn 212 v.2.1.length] ob),213⟩)) (hB 0 (λ(v:List Int×aT) sl ob nx=>⟨(4,.any)::xS [212] sl,[(200,.var 92 (kM [.f] (bZ v.2))),(212,n3 v.1)]++(uC 211 3 [.wn 212 v.1.length] ob),213⟩)) (hC 20 (λ(v:List Int) sl ob nx=>⟨xS [212] sl,[(212,n3 v)]++(uC 211 3 [.wn 212 v.length] ob),nx⟩))
def xz(a0:List Int)(a1:Int):Int->Option (ct (Int) (Bool))
 |v1=>cond (ltB v1 (a0.length:Int)) (abd (ix a0 v1) λx2=>cond (eqB x2 a1) (dn (ς ζ)) (ς (.next (WR (v1+1))))) (dn (ς η))
def yR(a0:List Int)(a1:Int):Option Bool:=
 iter (xz a0 a1) FU 0
instance O4{a0:List Int}{r:Bool}:FC prog (yR a0 a1=ς r) 80 [aL (a0.map eI),aI a1] [.c (.d (.b r))]:=gG func80 ntmps80 (hl 0 5)
def xD(a0:aT):Option (Int×aT):=
 abd (cj a0 6) λr1=>ς (WR (100+r1.1),r1.2)
instance sl5Key_c:FCW prog (xD a0=ς r) 118 (.var 92 (kM [.f] (bZ a0))) [tP 200] (.var 92 (kM [.f] (bZ r.2))) [.c (.d (.i .i64 r.1))]:=gW func118 ntmps118
def qK:(Int×List aF×aT)->Option (ct (Int×List aF×aT) (List aF×aT))
 |(v2,v6,v7)=>cond (ltB 0 v2) (abd (xD v7) λr15=>abd (cj r15.2 20) λr16=>cond (cW 32 (v6++[(⟨(⟨1,v2⟩:dt),r15.1,r16.1⟩:aF)]).length) (ς (.next (WR (v2-1),(v6++[(⟨(⟨1,v2⟩:dt),r15.1,r16.1⟩:aF)]),r16.2))) ξ) (ς (.done (v6,v7)))
def lq(a0:aT):Option (List aF×aT):=
 abd (cj a0 3) λr1=>abd (iter (qK) FU (WR (1+r1.1),([]:List aF),r1.2)) λ((v13,v14):List aF×aT)=>ς (v13,v14)
instance rP{r:List aF×aT}:FCW prog (lq a0=ς r) 70 (.var 92 (kM [.f] (bZ a0))) [tP 200] (.var 92 (kM [.f] (bZ r.2))) [.c (.own 76 4 (r.1.map dR) r.1.length)]:=gW func70 ntmps70 (hL 0 (λ(v:Int×List aF×aT) sl ob nx=>⟨(3,.v (.c (.w 210 v.2.1.length)))::(4,tI v.1)::xS [210] sl,[(200,.var 92 (kM [.f] (bZ v.2.2))),(210,w76 v.2.1)]++ob,nx⟩)) (hB 0 (λ(v:List aF×aT) sl ob nx=>⟨(3,.v (.c (.w 210 v.1.length)))::(4,.any)::xS [210] sl,[(200,.var 92 (kM [.f] (bZ v.2))),(210,w76 v.1)]++ob,nx⟩))
def Ar(a1:Int):(Int×List Int×aT)->Option (ct (Int×List Int×aT) (List Int×aT))
 |(v1,v5,v6)=>cond (ltB v1 a1) (abd (rH v6) λr13=>cond (cW 1 (v5++[IntKind.u8.wrap (r13.1)]).length) (ς (.next (WR (v1+1),(v5++[IntKind.u8.wrap (r13.1)]),r13.2))) ξ) (ς (.done (v5,v6)))
def vh(a0:aT)(a1:Int):Option (List Int×aT):=
 abd (iter (Ar a1) FU (0,([]:List Int),a0)) λ((v11,v12):List Int×aT)=>ς (v11,v12)
instance CL{r:List Int×aT}:FCW prog (vh a0 a1=ς r) 72 (.var 92 (kM [.f] (bZ a0))) [tP 200,tI a1] (.var 92 (kM [.f] (bZ r.2))) [.c (.own 5 1 (r.1.map eU8) r.1.length)]:=gW func72 ntmps72 (hL 0 (λ(v:Int×List Int×aT) sl ob nx=>⟨(5,.v (.c (.w 210 v.2.1.length)))::(6,tI v.1)::xS [210] sl,[(200,.var 92 (kM [.f] (bZ v.2.2))),(210,w5 v.2.1)]++ob,nx⟩)) (hB 0 (λ(v:List Int×aT) sl ob nx=>⟨(5,.v (.c (.w 210 v.1.length)))::(6,.any)::xS [210] sl,[(200,.var 92 (kM [.f] (bZ v.2))),(210,w5 v.1)]++ob,nx⟩))
def xA(a0:aT)(a1:List Int):Option (Int×aT):=
 abd (cj a0 (a1.length:Int)) λr1=>abd (ix a1 r1.1) λx2=>ς (x2,r1.2)
instance sl1Int_c{a1:List Int} :FCW prog (xA a0 a1=ς r) 194 (.var 92 (kM [.f] (bZ a0))) [tP 200,.v (.c (.d η (.l (a1.map eI))))] (.var 92 (kM [.f] (bZ r.2))) [.c (.d (.i .i64 r.1))]:=gW func194 ntmps194
def wd(a0:aT):Option (Int×aT):=
 abd (gY a0 10) λr1=>cond r1.1 (abd (xA r1.2 [-1,2147483647,2147483648]) λr2=>ς (r2.1,r2.2)) (abd (gY r1.2 4) λr3=>cond r3.1 (abd (xA r3.2 [0,1,2147483646]) λr4=>ς (r4.1,r4.2)) (abd (cj r3.2 1000000) λr5=>abd (cj r5.2 2000) λr6=>ς (WR (r5.1*r6.1),r6.2)))
instance sl3Word_c:FCW prog (wd a0=ς r) 158 (.var 92 (kM [.f] (bZ a0))) [tP 200] (.var 92 (kM [.f] (bZ r.2))) [.c (.d (.i .i64 r.1))]:=gW func158 ntmps158
def Gt(a0:aT):Option (Int×aT):=
 abd (gY a0 6) λr1=>cond r1.1 (abd (xA r1.2 [0,999999,1000000,-1,998999]) λr2=>ς (r2.1,r2.2)) (abd (cj r1.2 40) λr3=>ς (r3.1,r3.2))
instance sl5Seq_c:FCW prog (Gt a0=ς r) 193 (.var 92 (kM [.f] (bZ a0))) [tP 200] (.var 92 (kM [.f] (bZ r.2))) [.c (.d (.i .i64 r.1))]:=gW func193 ntmps193
def sN(a0:bR)(a1:bR):Option Bool:=
 abd (cond (eqB a0.dE a1.dE) (cond (eqB a0.ga a1.ga) (cond (eqB a0.jD a1.jD) (abd (om a0.bb a1.bb) λr2=>ς r2) (ς η)) (ς η)) (ς η)) λ(v1:Bool)=>ς v1
instance Pq{a0:bR}{a1:bR}{r:Bool}:FC prog (sN a0 a1=ς r) 216 [.agg (f9 a0),.agg (f9 a1)] [.c (.d (.b r))]:=gG func216 ntmps216 (hb 10 4)
def rp(a0:aD)(a1:aD):Option Bool:=
 abd (cond (eqB a0.ag a1.ag) (cond (eqB a0.bi a1.bi) (abd (sN a0.bz a1.bz) λr2=>ς r2) (ς η)) (ς η)) λ(v1:Bool)=>ς v1
instance Ub{a0:aD}{a1:aD}{r:Bool}:FC prog (rp a0 a1=ς r) 196 [.agg (d4 a0),.agg (d4 a1)] [.c (.d (.b r))]:=gG func196 ntmps196 (hb 10 4)
def mR(a0:bT)(a1:bT):Option Bool:=
 abd (cond (eqB a0.bA a1.bA) (cond (booB a0.eH a1.eH) (cond (booB a0.dL a1.dL) (cond (eqB a0.bv a1.bv) (bif(eqB a0.bw.bk a1.bw.bk&&(eqB a0.bw.bv a1.bw.bv&&(eqB a0.bw.ag a1.bw.ag&&(eqB a0.bw.bi a1.bw.bi&&(eqB a0.bw.bX a1.bw.bX&&(eqB a0.bw.bY.eQ a1.bw.bY.eQ&&(eqB a0.bw.bY.ie a1.bw.bY.ie&&(eqB a0.bw.bY.jD a1.bw.bY.jD&&(eqB a0.bw.bY.wy a1.bw.bY.wy&&(eqB a0.bw.bY.eV a1.bw.bY.eV&&(eqB a0.bw.jD a1.bw.jD&&ζ))))))))))) then(abd (rp a0.cz a1.cz) λr2=>ς r2) else(ς η)) (ς η)) (ς η)) (ς η)) (ς η)) λ(v1:Bool)=>ς v1
instance O7{a0:bT}{a1:bT}{r:Bool}:FC prog (mR a0 a1=ς r) 159 [.agg (eU a0),.agg (eU a1)] [.c (.d (.b r))]:=gG func159 ntmps159 (hb 10 4)
end Go.AM
