/- A part. -/
import Derived.Test.YtgbcdgihmgapeaaGreatG
set_option linter.unusedVariables false
open Option renaming some->ς,none->ξ
open Bool renaming true->ζ,false->η
open True renaming intro->θ
open Option renaming bind->abd
open Int renaming tmod->abe
namespace Go.AM
open Go.Proofs
open Tryz
attribute [local irreducible] AWN NS AWO AWR AWC DR DZ cB eZ iter
set_option maxRecDepth 100000
set_option maxHeartbeats 40000000
variable{a0 a1:Int}{r:Bool}
def lb(a0:am):Option am:=
 cond (cW 16 (([]:List aJ)++a0.aH).length) (ς {a0 with aH:=(([]:List aJ)++a0.aH)}) ξ
instance KS{a0:am}{r:am}:FC prog (lb a0=ς r) 28 [.agg (cS a0)] [.agg (qM [.o] (eO r))]:=gG func28 ntmps28
def cQ(a0:Int)(a1:Int)(a2:Int):Option Bool:=
 abd (cond (leB a1 a0) (ς (leB a0 a2)) (ς η)) λ(v1:Bool)=>ς v1
instance V2{a2:Int} :FC prog (cQ a0 a1 a2=ς r) 52 [aI a0,aI a1,aI a2] [.c (.d (.b r))]:=gG func52 ntmps52 (hb 10 6)
def Dm(a0:Int)(a1:Int):Option Int:=
 abd (cQ a1 1 1000000000000) λr1=>cond (!r1) (ς 0) (cond (!eqB a1 0) (cond (!eqB a1 0) (ς (abe (WR ((abe a0 a1)+a1)) a1)) ξ) ξ)
instance sMod_c{r:Int}:FC prog (Dm a0 a1=ς r) 191 [aI a0,aI a1] [.c (.d (.i .i64 r))]:=gG func191 ntmps191
def vb(a0:List Int):(Int×Int)->Option (ct (Int×Int) (Int))
 |(v1,v2)=>cond (ltB v2 (a0.length:Int)) (abd (ix a0 v2) λx6=>abd (Dm x6 2147483647) λr7=>ς (.next (abe (WR ((WR ((WR (v1*1000003))+r7))+13)) 2147483647,WR (v2+1)))) (ς (.done v1))
def MU(a0:List Int):Option Int:=
 abd (iter (vb a0) FU (11,0)) λ(v5:Int)=>ς v5
instance sHash_c{a0:List Int}{r:Int}:FC prog (MU a0=ς r) 213 [aL (a0.map eI)] [.c (.d (.i .i64 r))]:=gG func213 ntmps213 (hm 0 3 4) (he 0 3 4)
def ed(a0:Int)(a1:List Int):Option Int:=
 cond (cW 8 ([a0]++a1).length) (cond (cW 8 (([a0]++a1)++[a0]).length) (abd (MU (([a0]++a1)++[a0])) λr1=>ς r1) ξ) ξ
instance Gd{a1:List Int}{r:Int}:FC prog (ed a0 a1=ς r) 185 [aI a0,aL (a1.map eI)] [.c (.d (.i .i64 r))]:=gG func185 ntmps185
def fM(a0:bK):Int->Option (ct (Int) (Bool))
 |v1=>cond (ltB v1 (a0.bJ.length:Int)) (abd (ix a0.bJ v1) λx2=>abd (cQ x2 0 3) λr3=>abd (cond (!r3) (ς ζ) (cond (ltB 0 v1) (abd (ix a0.bJ (WR (v1-1))) λx5=>abd (ix a0.bJ v1) λx6=>ς (leB x6 x5)) (ς η))) λ(v4:Bool)=>cond v4 (dn (ς η)) (ς (.next (WR (v1+1))))) (dn (abd (cQ a0.kj 1 1000) λr7=>abd (cond r7 (abd (cQ a0.ki 1 4) λr9=>cond r9 (abd (cQ a0.er 1 100000) λr10=>ς r10) (ς η)) (ς η)) λ(v8:Bool)=>ς v8))
def fB(a0:bK):Option Bool:=
 iter (fM a0) FU 0
instance Gc{a0:bK} :FC prog (fB a0=ς r) 112 [.agg (lQ a0)] [.c (.d (.b r))]:=gG func112 ntmps112 (hl 0 3) (hb 18 35) (hb 39 2)
def f5(a0:Int):Option Bool:=
 abd (cQ a0 1 2147483646) λr1=>ς r1
instance Ue:FC prog (f5 a0=ς r) 127 [aI a0] [.c (.d (.b r))]:=gG func127 ntmps127
def fA(a0:dt):Option Bool:=
 abd (cQ a0.dQ 0 3) λr1=>abd (cond r1 (abd (cQ a0.bX 0 99) λr3=>ς r3) (ς η)) λ(v2:Bool)=>ς v2
instance Gb{a0:dt} :FC prog (fA a0=ς r) 163 [.agg (p8 a0)] [.c (.d (.b r))]:=gG func163 ntmps163 (hb 6 2)
def d5(a0:aF):Option Bool:=
 abd (fA a0.ID) λr1=>abd (cond r1 (abd (f5 a0.eV) λr3=>cond r3 (abd (cQ a0.cZ 0 999999) λr4=>ς r4) (ς η)) (ς η)) λ(v2:Bool)=>ς v2
instance Cv{a0:aF} :FC prog (d5 a0=ς r) 130 [.agg (dR a0)] [.c (.d (.b r))]:=gG func130 ntmps130 (hb 6 2)
def my(a0:cP):Option Bool:=
 abd (cQ a0.gB 0 2) λr1=>abd (cond r1 (abd (cQ a0.eS 0 4) λr3=>cond r3 (abd (cQ a0.gE 0 3) λr4=>ς r4) (ς η)) (ς η)) λ(v2:Bool)=>ς v2
instance OR{a0:cP} :FC prog (my a0=ς r) 131 [.agg (sC a0)] [.c (.d (.b r))]:=gG func131 ntmps131 (hb 6 2)
def f6(a0:cU):Option Bool:=
 abd (cond (leB 0 a0.aA) (abd (cQ a0.cT 0 100000) λr2=>cond r2 (abd (cQ a0.dW 0 a0.cT) λr3=>ς r3) (ς η)) (ς η)) λ(v1:Bool)=>ς v1
instance Pr{a0:cU} :FC prog (f6 a0=ς r) 132 [.agg (o8 a0)] [.c (.d (.b r))]:=gG func132 ntmps132 (hb 6 2)
def jJ(a0:bu):Int->Option (ct (Int) (Bool))
 |v1=>cond (ltB v1 (a0.aG.length:Int)) (abd (ix a0.aG v1) λx2=>abd (cond (!eqB x2.cZ (WR ((WR (a0.bC-(a0.aG.length:Int)))+v1))) (ς ζ) (abd (ix a0.aG v1) λx4=>ς (ltB 60 (x4.bb.length:Int)))) λ(v3:Bool)=>cond v3 (dn (ς η)) (ς (.next (WR (v1+1))))) (dn (abd (cQ a0.bC 1 100000) λr5=>abd (cond r5 (cond (leB (a0.aG.length:Int) 8) (ς (leB 1 (WR (a0.bC-(a0.aG.length:Int))))) (ς η)) (ς η)) λ(v6:Bool)=>ς v6))
def jW(a0:bu):Option Bool:=
 iter (jJ a0) FU 0
instance ti{a0:bu} :FC prog (jW a0=ς r) 164 [.agg (km a0)] [.c (.d (.b r))]:=gG func164 ntmps164 (hl 0 3) (hb 26 35) (hb 39 2)
def jn(a0:cU):Option Int:=
 abd (f6 a0) λr1=>cond (!r1) (ς 0) (ς (WR (a0.cT-a0.dW)))
instance M2{a0:cU}{r:Int}:FC prog (jn a0=ς r) 167 [.agg (o8 a0)] [.c (.d (.i .i64 r))]:=gG func167 ntmps167
def rG(a0:am)(a1:Int):Int->Option (ct (Int) (Int))
 |v1=>cond (ltB v1 (a0.aH.length:Int)) (abd (ix a0.aH v1) λx2=>cond (eqB x2.aA a1) (dn (ς v1)) (ς (.next (WR (v1+1))))) (dn (ς (-1)))
def oy(a0:am)(a1:Int):Option Int:=
 iter (rG a0 a1) FU 0
instance YG{a0:am}{r:Int}:FC prog (oy a0 a1=ς r) 168 [.agg (cS a0),aI a1] [.c (.d (.i .i64 r))]:=gG func168 ntmps168 (hl 0 5)
def mH(a0:am)(a1:Int):Option Int:=
 abd (oy a0 a1) λr1=>cond (ltB r1 0) (ς 0) (abd (ix a0.aH r1) λx2=>ς x2.dO)
instance SM{a0:am}{r:Int}:FC prog (mH a0 a1=ς r) 135 [.agg (cS a0),aI a1] [.c (.d (.i .i64 r))]:=gG func135 ntmps135
def va(a0:Int)(a1:List Int):(Int×List Int)->Option (ct (Int×List Int) (List Int))
 |(v1,v2)=>cond (ltB v1 (a1.length:Int)) (abd (ix a1 v1) λx6=>abd (ed a0 [v1]) λr7=>cond (cW 1 (v2++[IntKind.u8.wrap (abe (WR ((WR (x6))+(abe r7 256))) 256)]).length) (ς (.next (WR (v1+1),(v2++[IntKind.u8.wrap (abe (WR ((WR (x6))+(abe r7 256))) 256)])))) ξ) (ς (.done v2))
def yK(a0:Int)(a1:List Int):Option (List Int):=
 abd (iter (va a0 a1) FU (0,([]:List Int))) λ(v5:List Int)=>ς v5
instance Yv{a1:List Int}{r:List Int}:FC prog (yK a0 a1=ς r) 186 [aI a0,aL (a1.map eU8)] [.c (.own 5 1 (r.map eU8) r.length)]:=gG func186 ntmps186 (hL 0 (λ(v:Int×List Int) sl ob nx=>⟨(5,.v (.c (.w 0 v.2.length)))::(6,tI v.1)::xS [0] sl,[(0,w5 v.2)]++ob,nx⟩)) (hB 0 (λ(v:List Int) sl ob nx=>⟨(5,.v (.c (.w 0 v.length)))::(6,.any)::xS [0] sl,[(0,w5 v)]++ob,nx⟩)) (hz 5)
def jX(a0:aM):Option Bool:=
 abd (cQ a0.bk 1 8) λr1=>abd (cond r1 (abd (cQ a0.bv 0 5) λr3=>cond r3 (abd (cQ a0.ag 0 999999) λr4=>cond r4 (abd (cQ a0.bi 0 999999) λr5=>cond r5 (abd (cQ a0.bX 0 1000000000000) λr6=>ς r6) (ς η)) (ς η)) (ς η)) (ς η)) λ(v2:Bool)=>ς v2
instance OS{a0:aM} :FC prog (jX a0=ς r) 175 [.agg (eB a0)] [.c (.d (.b r))]:=gG func175 ntmps175 (hb 6 2)
def jV(a0:dt)(a1:Int):Option Int:=
 abd (ed 29 [a0.dQ,a0.bX,a1]) λr1=>ς r1
instance OP{a0:dt}{r:Int}:FC prog (jV a0 a1=ς r) 155 [.agg (p8 a0),aI a1] [.c (.d (.i .i64 r))]:=gG func155 ntmps155
def kX(a0:Int)(a1:Int):Option Int:=
 abd (ed a0 [1,a1]) λr1=>abd (Dm r1 1000000) λr2=>ς r2
instance Pw{r:Int}:FC prog (kX a0 a1=ς r) 192 [aI a0,aI a1] [.c (.d (.i .i64 r))]:=gG func192 ntmps192
def nO(a0:cU)(a1:Int):Option (cU×Bool):=
 abd (f6 a0) λr1=>abd (cond (!r1) (ς ζ) (abd (cQ a1 0 (WR (a0.cT-a0.dW))) λr3=>ς (!r3))) λ(v2:Bool)=>cond v2 (ς (a0,η)) (ς ({a0 with dW:=WR (a0.dW+a1)},ζ))
instance Pp{a0:cU}{r:cU×Bool}:FC prog (nO a0 a1=ς r) 209 [.agg (o8 a0),aI a1] [.agg (qM [] (Fj r.1)),.c (.d (.b r.2))]:=gG func209 ntmps209 (hb 10 19)
def jl(a0:bR):Option Bool:=
 abd (cQ a0.dE 0 1) λr1=>abd (cond r1 (abd (cQ a0.ga 1 100000) λr3=>cond r3 (cond (leB (a0.bb.length:Int) 60) (abd (cQ a0.jD 0 2147483646) λr4=>ς r4) (ς η)) (ς η)) (ς η)) λ(v2:Bool)=>ς v2
instance MX{a0:bR} :FC prog (jl a0=ς r) 197 [.agg (f9 a0)] [.c (.d (.b r))]:=gG func197 ntmps197 (hb 6 2)
def u9(a0:Int)(a1:List Int):(Int×List Int)->Option (ct (Int×List Int) (List Int))
 |(v1,v2)=>cond (ltB v1 (a1.length:Int)) (abd (ix a1 v1) λx7=>abd (ed a0 [v1]) λr8=>abd (Dm (WR ((WR (x7))-(abe r8 256))) 256) λr9=>cond (cW 1 (v2++[IntKind.u8.wrap (r9)]).length) (ς (.next (WR (v1+1),(v2++[IntKind.u8.wrap (r9)])))) ξ) (ς (.done v2))
def yJ(a0:Int)(a1:List Int):Option (List Int):=
 abd (iter (u9 a0 a1) FU (0,([]:List Int))) λ(v6:List Int)=>ς v6
instance Yu{a1:List Int}{r:List Int}:FC prog (yJ a0 a1=ς r) 220 [aI a0,aL (a1.map eU8)] [.c (.own 5 1 (r.map eU8) r.length)]:=gG func220 ntmps220 (hL 0 (λ(v:Int×List Int) sl ob nx=>⟨(5,.v (.c (.w 0 v.2.length)))::(6,tI v.1)::xS [0] sl,[(0,w5 v.2)]++ob,nx⟩)) (hB 0 (λ(v:List Int) sl ob nx=>⟨(5,.v (.c (.w 0 v.length)))::(6,.any)::xS [0] sl,[(0,w5 v)]++ob,nx⟩)) (hz 5)
def fU(a0:be):Int->Option (ct (Int) (Bool))
 |v9=>cond (ltB v9 (a0.aP.length:Int)) (abd (ix a0.aP v9) λx10=>cond (ltB 60 (x10.bb.length:Int)) (dn (ς η)) (ς (.next (WR (v9+1))))) (dn (abd (cond (eqB a0.bC (WR ((a0.aP.length:Int)+1))) (cond (leB (a0.aP.length:Int) 24) (ς (leB (a0.aO.length:Int) 8)) (ς η)) (ς η)) λ(v11:Bool)=>ς v11))
def ij(a0:be):Int->Option (ct (Int) (Bool))
 |v1=>cond (ltB v1 (a0.aO.length:Int)) (abd (ix a0.aO v1) λx2=>abd (cQ x2.cZ (WR (a0.bC+1)) (WR ((WR (a0.bC+8))-1))) λr3=>abd (cond (!r3) (ς ζ) (cond (ltB 0 v1) (abd (ix a0.aO (WR (v1-1))) λx5=>abd (ix a0.aO v1) λx6=>cond (leB x6.cZ x5.cZ) (ς ζ) (abd (ix a0.aO v1) λx7=>ς (ltB 60 (x7.bb.length:Int)))) (abd (ix a0.aO v1) λx8=>ς (ltB 60 (x8.bb.length:Int))))) λ(v4:Bool)=>cond v4 (dn (ς η)) (ς (.next (WR (v1+1))))) (dn (iter (fU a0) FU 0))
def iC(a0:be):Option Bool:=
 iter (ij a0) FU 0
instance xq{a0:be} :FC prog (iC a0=ς r) 129 [.agg (i9 a0)] [.c (.d (.b r))]:=gG func129 ntmps129 (hl 0 3) (hb 27 56) (hl 2 4) (hb 79 2)
def mz(a0:lN):Option Bool:=
 abd (fA a0.ID) λr1=>abd (cond r1 (abd (f5 a0.eV) λr3=>cond r3 (abd (cQ a0.dJ 0 999999) λr4=>ς r4) (ς η)) (ς η)) λ(v2:Bool)=>ς v2
instance SH{a0:lN} :FC prog (mz a0=ς r) 128 [.agg (Fg a0)] [.c (.d (.b r))]:=gG func128 ntmps128 (hb 6 2)
def jo(a0:Int)(a1:Int)(a2:Int):Option Int:=
 abd (Dm a2 1000000) λr1=>abd (kX a0 a1) λr2=>abd (Dm (WR (r1-r2)) 1000000) λr3=>ς r3
instance M4{a2:Int}{r:Int}:FC prog (jo a0 a1 a2=ς r) 217 [aI a0,aI a1,aI a2] [.c (.d (.i .i64 r))]:=gG func217 ntmps217
def kZ(a0:Int)(a1:Int)(a2:cM):Option Int:=
 abd (jo a0 a2.eQ a2.ie) λr1=>abd (ed a0 [2,a2.eQ,r1]) λr2=>cond (!eqB a2.jD r2) (ς 1) (cond (leB r1 a1) (ς 2) (cond (ltB a1 (WR (r1-1000))) (ς 3) (ς 0)))
instance Py{a2:cM}{r:Int}:FC prog (kZ a0 a1 a2=ς r) 199 [aI a0,aI a1,.agg (tM a2)] [.c (.d (.i .i64 r))]:=gG func199 ntmps199
def pw(a0:Int)(a1:Int)(a2:Int):Option Int:=
 abd (cQ a2 0 999999) λr1=>cond (!r1) (ς (-1)) (abd (ed a0 [5,a1,a2]) λr2=>abd (Dm r2 1000) λr3=>ς (WR ((WR (1000000*r3))+a2)))
instance SO{a2:Int}{r:Int}:FC prog (pw a0 a1 a2=ς r) 221 [aI a0,aI a1,aI a2] [.c (.d (.i .i64 r))]:=gG func221 ntmps221
def kv(a0:bW):Option Bool:=
 abd (cQ a0.fD 1 6) λr1=>abd (cond r1 (cond (leB 0 a0.fD) (abd (cQ a0.eG 0 (WR ((lO .i64 1 a0.fD)-1))) λr3=>ς r3) ξ) (ς η)) λ(v2:Bool)=>ς v2
instance SF{a0:bW} :FC prog (kv a0=ς r) 50 [.agg (lP a0)] [.c (.d (.b r))]:=gG func50 ntmps50 (hb 6 2)
def px(a0:bW)(a1:Int)(a2:Bool):Option bW:=
 abd (kv a0) λr1=>abd (cond (!r1) (ς ζ) (abd (cQ a1 0 (WR (a0.fD-1))) λr3=>ς (!r3))) λ(v2:Bool)=>cond v2 (ς a0) (abd (cond a2 (cond (leB 0 a1) (ς (bOr .i64 a0.eG (lO .i64 1 a1))) ξ) (cond (leB 0 a1) (ς (vB .i64 a0.eG (lO .i64 1 a1))) ξ)) λ(v4:Int)=>ς (⟨a0.fD,v4⟩:bW))
instance SQ{a0:bW}{a2:Bool}{r:bW}:FC prog (px a0 a1 a2=ς r) 94 [.agg (lP a0),aI a1,aB a2] [.agg (qM [] (yd r))]:=gG func94 ntmps94 (hb 11 18) (hC 21 (λ(v:Int) sl ob nx=>⟨sl,[(2,.var 32 (kM [] (yd (⟨a0.fD,v⟩:bW))))]++ob,nx⟩)) (hz 5) (hz 6)
def oo(a0:bW)(a1:Int):Option Bool:=
 abd (kv a0) λr1=>abd (cond r1 (abd (cQ a1 0 (WR (a0.fD-1))) λr3=>cond r3 (cond (leB 0 a1) (ς (eqB (zo .i64 (E9 .i64 a0.eG a1) 1) 1)) ξ) (ς η)) (ς η)) λ(v2:Bool)=>ς v2
instance Ud{a0:bW} :FC prog (oo a0 a1=ς r) 95 [.agg (lP a0),aI a1] [.c (.d (.b r))]:=gG func95 ntmps95 (hb 7 4)
def gU(a0:Int)(a1:Int):Option Int:=
 abd (ed 17 [a0,a1]) λr1=>ς (abe (WR (r1*r1)) 2147483647)
instance Jw{r:Int}:FC prog (gU a0 a1=ς r) 147 [aI a0,aI a1] [.c (.d (.i .i64 r))]:=gG func147 ntmps147
def kx(a0:bW)(a1:Int):(Int×Int)->Option (ct (Int×Int) (Int))
 |(v1,v2)=>abd (cond (ltB v2 a0.fD) (ς (ltB v2 6)) (ς η)) λ(v10:Bool)=>cond v10 (abd (oo a0 v2) λr11=>abd (cond r11 (cond (ltB v1 0) (ς ζ) (abd (gU v2 a1) λr13=>abd (gU v1 a1) λr14=>ς (ltB r14 r13))) (ς η)) λ(v12:Bool)=>abd (cond v12 (ς v2) (ς v1)) λ(v15:Int)=>ς (.next (v15,WR (v2+1)))) (ς (.done v1))
def kW(a0:bW)(a1:Int):Option Int:=
 abd (iter (kx a0 a1) FU (-1,0)) λ(v9:Int)=>ς v9
instance Pv{a0:bW}{r:Int}:FC prog (kW a0 a1=ς r) 96 [.agg (lP a0),aI a1] [.c (.d (.i .i64 r))]:=gG func96 ntmps96 (hm 0 5 6) (he 0 5 6) (hb 11 14) (hb 20 32) (hi 32 5)
def iY(a0:ab)(a1:bT):Option Bool:=
 abd (cond (ltB (a0.aZ.length:Int) 200) (abd (cQ a1.bA 0 (WR ((a0.aj.length:Int)-1))) λr2=>cond r2 (abd (cQ a1.bv 0 (WR ((a0.dV.bp.length:Int)-1))) λr3=>ς r3) (ς η)) (ς η)) λ(v1:Bool)=>ς v1
instance Te{a0:ab}{a1:bT} :FC prog (iY a0 a1=ς r) 58 [.agg (fK a0),.agg (eU a1)] [.c (.d (.b r))]:=gG func58 ntmps58 (hb 9 4)
def mQ(a0:List aF)(v1:Int):Int->Option (ct (Int) (ct (Int) (Bool)))
 |v4=>cond (ltB v4 v1) (abd (ix a0 v4) λx5=>abd (ix a0 v1) λx6=>bif(eqB x5.ID.dQ x6.ID.dQ&&(eqB x5.ID.bX x6.ID.bX&&ζ)) then(dn (dn (ς η))) else(ς (.next (WR (v4+1))))) (dn (ς (.next (WR (v1+1)))))
def mP(a0:List aF):Int->Option (ct (Int) (Bool))
 |v1=>cond (ltB v1 (a0.length:Int)) (abd (ix a0 v1) λx2=>abd (d5 x2) λr3=>cond (!r3) (dn (ς η)) (iter (mQ a0 v1) FU 0)) (dn (ς (leB (a0.length:Int) 4)))
def rO(a0:List aF):Option Bool:=
 iter (mP a0) FU 0
instance Un{a0:List aF} :FC prog (rO a0=ς r) 113 [aL (a0.map dR)] [.c (.d (.b r))]:=gG func113 ntmps113 (hl 0 3) (hl 2 4)
def rx(a0:Int):Option am:=
 abd (cQ a0 0 100000) λr1=>abd (cond (!r1) (ς 0) (ς a0)) λ(v2:Int)=>ς {EK with fJ:=v2,bm:=v2}
instance Ui{r:am}:FC prog (rx a0=ς r) 116 [aI a0] [.agg (qM [.z] (eO r))]:=gG func116 ntmps116 (hi 5 0)
def mt(a0:aC):Option Bool:=
 abd (cQ a0.bB 2 3) λr1=>abd (cond r1 (abd (f5 a0.aY) λr3=>ς (!r3)) (ς η)) λ(v2:Bool)=>cond v2 (ς η) (abd (mz a0.dx) λr4=>abd (cond r4 (abd (cQ a0.bB 0 3) λr6=>cond r6 (abd (cQ a0.bv 0 5) λr7=>cond r7 (abd (cQ a0.ag 0 999999) λr8=>cond r8 (abd (cQ a0.bi 0 999999) λr9=>cond r9 (abd (cQ a0.aY 0 2147483646) λr10=>cond r10 (abd (cQ a0.gE 0 3) λr11=>cond r11 (abd (iC a0.bg) λr12=>ς r12) (ς η)) (ς η)) (ς η)) (ς η)) (ς η)) (ς η)) (ς η)) λ(v5:Bool)=>ς v5)
instance OQ{a0:aC} :FC prog (mt a0=ς r) 81 [.agg (di a0)] [.c (.d (.b r))]:=gG func81 ntmps81 (hb 6 11) (hb 15 2)
end Go.AM
