/- A part. -/
import Derived.Test.YtcnfbcpgepbnkaaGreatG
set_option linter.unusedVariables false
open Option renaming some->ς,none->ξ
open Bool renaming true->ζ,false->η
open True renaming intro->θ
open Option renaming bind->abX
open List renaming replicate->aae
namespace Go.AM
open Go.Proofs
open Tryz
attribute [local irreducible] AWN NS AWO AWR AWC DR DZ cp ec iter
set_option maxRecDepth 100000
set_option maxHeartbeats 40000000
variable{r:Bool}{a1:Int}
def qD(a0:List Int):Option (List Int):=
 cond (iG 8 (a0.length:Int) (a0.length:Int)) (ς (cpL (aae ((a0.length:Int)).toNat (0:Int)) a0)) ξ
instance B0{a0:List Int}{r:List Int}:FC prog (qD a0=ς r) 150 [aL (a0.map eI)] [.c (.own 3 1 (r.map eI) r.length)]:=gG func150 ntmps150
def vX(a0:bz):(Int×List cA)->Option (bN (Int×List cA) (List cA))
 |(v1,v2)=>cond (ltB v1 (a0.bD.length:Int)) (abX (ix a0.bD v1) λx7=>abX (qD x7.bI) λr8=>abX (ix v2 v1) λx9=>ς (.next (WR (v1+1),(v2.set (v1).toNat (⟨x7.mG,r8⟩:cA))))) (ς (.done v2))
def vW(a0:bz):Option bz:=
 cond (iG 32 (a0.bD.length:Int) (a0.bD.length:Int)) (abX (iter (vX a0) FU (0,(aae ((a0.bD.length:Int)).toNat Fl))) λ(v6:List cA)=>ς (⟨v6⟩:bz)) ξ
instance icopyMap_c{a0:bz}{r:bz}:FC prog (vW a0=ς r) 76 [.agg (gm a0)] [.agg [.own 198 2 (r.bD.map cQ) r.bD.length]]:=gG func76 ntmps76 (hL 0 (λ(v:Int×List cA) sl ob nx=>⟨(3,.v (.c (.w 2 v.2.length)))::(13,tI v.1)::xS [2] sl,[(2,YY v.2)]++ob,nx⟩)) (hB 0 (λ(v:List cA) sl ob nx=>⟨(3,.v (.c (.w 2 v.length)))::(13,.any)::xS [2] sl,[(2,YY v)]++ob,nx⟩)) (hz 5)
def gA(a0:bh):Option bh:=
 abX (qD a0.aV) λr1=>ς {a0 with aV:=r1}
instance LV{a0:bh}{r:bh}:FC prog (gA a0=ς r) 152 [.agg (eB a0)] [.agg (qM [.o] (mM r))]:=gG func152 ntmps152
def ew(a0:List aA):Option (List aA):=
 cond (iG 16 (a0.length:Int) (a0.length:Int)) (ς (cpL (aae ((a0.length:Int)).toNat tx) a0)) ξ
instance py{a0:List aA}{r:List aA}:FC prog (ew a0=ς r) 155 [aL (a0.map bT)] [.c (.own 232 2 (r.map bT) r.length)]:=gG func155 ntmps155
def m0(a0:an):Option an:=
 abX (ew a0.aG) λr1=>ς {a0 with aG:=r1}
instance TT{a0:an}{r:an}:FC prog (m0 a0=ς r) 82 [.agg (bu a0)] [.agg (qM [.o] (xo r))]:=gG func82 ntmps82
def eS(a0:List an):(Int×List an)->Option (bN (Int×List an) (List an))
 |(v1,v2)=>cond (ltB v1 (a0.length:Int)) (abX (ix a0 v1) λx7=>abX (m0 x7) λr8=>abX (ix v2 v1) λx9=>ς (.next (WR (v1+1),(v2.set (v1).toNat r8)))) (ς (.done v2))
def du(a0:List an):Option (List an):=
 cond (iG 48 (a0.length:Int) (a0.length:Int)) (abX (iter (eS a0) FU (0,(aae ((a0.length:Int)).toNat xV))) λ(v6:List an)=>ς v6) ξ
instance vU{a0:List an}{r:List an}:FCV prog (du a0=ς r) 81 [] [.v (.c (.d η (.l (a0.map bu)))),.v (.c (.fn 82))] [] (.v (.c (.w 210 r.length))) [(210,Wc r)]:=gV func81 ntmps81 (hL 0 (λ(v:Int×List an) sl ob nx=>⟨(5,.v (.c (.w 210 v.2.length)))::(13,tI v.1)::xS [210] sl,[(210,Wc v.2)]++ob,nx⟩)) (hB 0 (λ(v:List an) sl ob nx=>⟨(5,.v (.c (.w 210 v.length)))::(13,.any)::xS [210] sl,[(210,Wc v)]++ob,nx⟩))
def jo(a0:List Int):Int->Option (bN (Int) (Bool))
 |v1=>cond (ltB v1 (a0.length:Int)) (abX (ix a0 (WR (v1-1))) λx2=>abX (ix a0 v1) λx3=>cond (leB x3 x2) (dn (ς η)) (ς (.next (WR (v1+1))))) (dn (ς ζ))
def ni(a0:List Int):Option Bool:=
 iter (jo a0) FU 1
instance T3{a0:List Int} :FC prog (ni a0=ς r) 157 [aL (a0.map eI)] [.c (.d (.b r))]:=gG func157 ntmps157 (hl 0 3)
def qY(a0:List aC):Int->Option (bN (Int) (Bool))
 |v1=>cond (ltB v1 (a0.length:Int)) (abX (ix a0 v1) λx2=>cond (ltB 60 (x2.bk.length:Int)) (dn (ς η)) (ς (.next (WR (v1+1))))) (dn (ς ζ))
def sB(a0:List aC):Option Bool:=
 iter (qY a0) FU 0
instance Wy{a0:List aC} :FC prog (sB a0=ς r) 241 [aL (a0.map bQ)] [.c (.d (.b r))]:=gG func241 ntmps241 (hl 0 7)
def gP(a0:cU):Option Bool:=
 abX (cond (leB 0 a0.bi) (cond (leB 0 a0.gO) (cond (leB a0.gO a0.dg) (ς (leB a0.dg 100000)) (ς η)) (ς η)) (ς η)) λ(v1:Bool)=>ς v1
instance RR{a0:cU} :FC prog (gP a0=ς r) 240 [.agg (mJ a0)] [.c (.d (.b r))]:=gG func240 ntmps240 (hb 6 2)
def vQ(a0:List Int)(a1:List Int):Option Bool:=
 abX (z0 a0 a1) λr1=>ς r1
instance Wt{a0:List Int}{a1:List Int} :FC prog (vQ a0 a1=ς r) 242 [aL (a0.map eU8),aL (a1.map eU8)] [.c (.d (.b r))]:=gG func242 ntmps242
def nk(a0:List ab):(Int×Int)->Option (bN (Int×Int) (Int))
 |(v1,v2)=>cond (ltB v2 (a0.length:Int)) (abX (ix a0 v2) λx5=>ς (.next (WR (v1+(x5.bk.length:Int)),WR (v2+1)))) (ς (.done v1))
def nj(a0:List ab):Option Int:=
 abX (iter (nk a0) FU (0,0)) λ(v4:Int)=>ς v4
instance Qt{a0:List ab}{r:Int}:FC prog (nj a0=ς r) 306 [aL (a0.map ah)] [.c (.d (.i .i64 r))]:=gG func306 ntmps306 (hm 0 3 8) (he 0 3 8)
def mU(a0:ag):Option Int:=
 abX (nj a0.aY.aJ) λr1=>ς r1
instance LT{a0:ag}{r:Int}:FC prog (mU a0=ς r) 243 [.agg (aB a0)] [.c (.d (.i .i64 r))]:=gG func243 ntmps243
def lO(a0:cU):Option Int:=
 abX (gP a0) λr1=>cond (!r1) (ς 0) (ς (WR (a0.dg-a0.gO)))
instance OA{a0:cU}{r:Int}:FC prog (lO a0=ς r) 244 [.agg (mJ a0)] [.c (.d (.i .i64 r))]:=gG func244 ntmps244
def mZ(a0:an):(Int×Int)->Option (bN (Int×Int) (Int))
 |(v1,v2)=>cond (ltB v2 (a0.aG.length:Int)) (abX (ix a0.aG v2) λx5=>ς (.next (WR (v1+x5.dX),WR (v2+1)))) (ς (.done v1))
def mY(a0:an):Option Int:=
 abX (iter (mZ a0) FU (0,0)) λ(v4:Int)=>ς v4
instance Qp{a0:an}{r:Int}:FC prog (mY a0=ς r) 245 [.agg (bu a0)] [.c (.d (.i .i64 r))]:=gG func245 ntmps245 (hm 0 3 9) (he 0 3 9)
def gB(a0:an)(a1:Int):Int->Option (bN (Int) (Int))
 |v1=>cond (ltB v1 (a0.aG.length:Int)) (abX (ix a0.aG v1) λx2=>cond (eqB x2.bi a1) (dn (ς v1)) (ς (.next (WR (v1+1))))) (dn (ς (-1)))
def nm(a0:an)(a1:Int):Option Int:=
 iter (gB a0 a1) FU 0
instance LW{a0:an}{r:Int}:FC prog (nm a0 a1=ς r) 307 [.agg (bu a0),aI a1] [.c (.d (.i .i64 r))]:=gG func307 ntmps307 (hl 0 10)
def qg(a0:an)(a1:Int):Option Int:=
 abX (nm a0 a1) λr1=>cond (ltB r1 0) (ς 0) (abX (ix a0.aG r1) λx2=>ς x2.dX)
instance TR{a0:an}{r:Int}:FC prog (qg a0 a1=ς r) 246 [.agg (bu a0),aI a1] [.c (.d (.i .i64 r))]:=gG func246 ntmps246
def kt(a0:ae)(a1:Int):Option (aH×ae):=
 abX (ix a0.ax a1) λx1=>cond (iG 176 0 (a0.ax.length:Int)) (cond (fD a0.ax 0 a1) (cond (dH 176 ((aae ((0:Int)).toNat iF)++(a0.ax.take (a1).toNat)).length) (cond (fD a0.ax (WR (a1+1)) a0.ax.length) (cond (dH 176 (((aae ((0:Int)).toNat iF)++(a0.ax.take (a1).toNat))++(a0.ax.drop (WR (a1+1)).toNat)).length) (ς (x1,{a0 with ax:=(((aae ((0:Int)).toNat iF)++(a0.ax.take (a1).toNat))++(a0.ax.drop (WR (a1+1)).toNat))})) ξ) ξ) ξ) ξ) ξ
instance WA{a0:ae}{r:aH×ae}:FCV prog (kt a0 a1=ς r) 163 (nI a0) [tP 200,tI a1] (nI r.2) (.v (.agg (kM [.t] (jh r.1)))) []:=gV func163 ntmps163
def oH(a0:bL)(a1:Int):Option Bool:=
 ς (eqB a1 a0.A2)
instance yW{a0:bL} :FC prog (oH a0 a1=ς r) 310 [.agg (fM a0),aI a1] [.c (.d (.b r))]:=gG func310 ntmps310
def mW:Option eu:=
 ς (⟨[1,2]⟩:eu)
instance LU{r:eu}:FC prog (mW=ς r) 353 [] [.agg [.own 3 1 (r.Steps.map eI) r.Steps.length]]:=gG func353 ntmps353
def ta(a0:Int):Option eu:=
 ς (⟨[1,3,a0]⟩:eu)
instance RS{a0:Int}{r:eu}:FC prog (ta a0=ς r) 352 [aI a0] [.agg [.own 3 1 (r.Steps.map eI) r.Steps.length]]:=gG func352 ntmps352
def ji(a0:List Int):(Int×List Int)->Option (bN (Int×List Int) (List Int))
 |(v1,v2)=>cond (ltB v1 (a0.length:Int)) (abX (ix a0 v1) λx5=>cond (dH 8 (v2++[WR (x5)]).length) (ς (.next (WR (v1+1),(v2++[WR (x5)])))) ξ) (ς (.done v2))
def qd(a0:List Int):Option (List Int):=
 cond (iG 8 0 (WR ((a0.length:Int)+1))) (cond (dH 8 ((aae ((0:Int)).toNat (0:Int))++[(a0.length:Int)]).length) (abX (iter (ji a0) FU (0,((aae ((0:Int)).toNat (0:Int))++[(a0.length:Int)]))) λ(v4:List Int)=>ς v4) ξ) ξ
instance TO{a0:List Int}{r:List Int}:FC prog (qd a0=ς r) 378 [aL (a0.map eU8)] [.c (.own 3 1 (r.map eI) r.length)]:=gG func378 ntmps378 (hL 0 (λ(v:Int×List Int) sl ob nx=>⟨(3,.v (.c (.w 0 v.2.length)))::(17,tI v.1)::xS [0] sl,[(0,w3 v.2)]++ob,nx⟩)) (hB 0 (λ(v:List Int) sl ob nx=>⟨(3,.v (.c (.w 0 v.length)))::(17,.any)::xS [0] sl,[(0,w3 v)]++ob,nx⟩))
def o4(a0:aj)(a1:Int):Int->Option (bN (Int) (Bool))
 |v1=>cond (ltB v1 (a0.am.length:Int)) (abX (ix a0.am v1) λx2=>cond (eqB x2.cP a1) (dn (ς ζ)) (ς (.next (WR (v1+1))))) (dn (ς η))
def yY(a0:aj)(a1:Int):Option Bool:=
 iter (o4 a0 a1) FU 0
instance Xw{a0:aj} :FC prog (yY a0 a1=ς r) 317 [.agg (dw a0),aI a1] [.c (.d (.b r))]:=gG func317 ntmps317 (hl 0 10)
end Go.AM
