/- A part. -/
import Derived.Test.YtfbpfflnhfcmaaaGreatG
set_option linter.unusedVariables false
open Option renaming some->ς,none->ξ
open Bool renaming true->ζ,false->η
open True renaming intro->θ
open Option renaming bind->acE
namespace Go.AM
open Go.Proofs
open Tryz
attribute [local irreducible] AWN NS AWO AWR AWC DR DZ du gr iter
set_option maxRecDepth 100000
set_option maxHeartbeats 40000000
variable{a0:Go.AM.av}{r a1:Int}
def uZ(a0:av):Option (Int×av):=
 acE (cond (ltB a0.fi (a0.fb.length:Int)) (acE (ix a0.fb a0.fi) λx3=>ς (AC .i64 (WR ((AC .i64 (Jv .i64 (Eb .i64 (WR ((WR (a0.fh*6364136223846793005))+1442695040888963407)) 33) (Eb .i64 (WR ((WR (a0.fh*6364136223846793005))+1442695040888963407)) 47)) 255)+(WR (x3)))) 255,WR (a0.fi+1))) (ς (AC .i64 (Jv .i64 (Eb .i64 (WR ((WR (a0.fh*6364136223846793005))+1442695040888963407)) 33) (Eb .i64 (WR ((WR (a0.fh*6364136223846793005))+1442695040888963407)) 47)) 255,a0.fi))) λ((v1,v2):Int×Int)=>ς (v1,(⟨a0.fb,v2,WR ((WR (a0.fh*6364136223846793005))+1442695040888963407)⟩:av))
instance sl1Byte_c{r:Int×av}:FCW prog (uZ a0=ς r) 145 (.var 124 (kM [.f] (be a0))) [tP 200] (.var 124 (kM [.f] (be r.2))) [.c (.d (.i .i64 r.1))]:=gW func145 ntmps145 (hC 34 (λ(v:Int×Int) sl ob nx=>⟨(3,tI v.1)::sl,[(200,.var 124 (kM [.f] (be (⟨a0.fb,v.2,WR ((WR (a0.fh*6364136223846793005))+1442695040888963407)⟩:av))))]++ob,nx⟩))
def bC(a0:av)(a1:Int):Option (Int×av):=
 cond (leB a1 0) (ς (0,a0)) (cond (leB a1 256) (acE (uZ a0) λr1=>cond (!eqB a1 0) (ς (Int.tmod r1.1 a1,r1.2)) ξ) (acE (uZ a0) λr2=>acE (uZ r2.2) λr3=>acE (uZ r3.2) λr4=>cond (!eqB a1 0) (ς (Int.tmod (WR ((WR ((WR (r2.1*65536))+(WR (r3.1*256))))+r4.1)) a1,r4.2)) ξ))
instance cr{r:Int×av}:FCW prog (bC a0 a1=ς r) 74 (.var 124 (kM [.f] (be a0))) [tP 200,tI a1] (.var 124 (kM [.f] (be r.2))) [.c (.d (.i .i64 r.1))]:=gW func74 ntmps74
def gq(a0:av)(a1:Int):Option (Bool×av):=
 acE (bC a0 a1) λr1=>ς (eqB r1.1 0,r1.2)
instance ko{r:Bool×av}:FCW prog (gq a0 a1=ς r) 137 (.var 124 (kM [.f] (be a0))) [tP 200,tI a1] (.var 124 (kM [.f] (be r.2))) [.c (.d (.b r.1))]:=gW func137 ntmps137
def D5:(Int×List Int×av)->Option (ci (Int×List Int×av) (List Int×av))
 |(v4,v8,v9)=>cond (ltB v4 4) (acE (gq v9 3) λr17=>acE (cond r17.1 (cond (cW 8 (v8++[v4]).length) (ς (v8++[v4])) ξ) (ς v8)) λ(v18:List Int)=>ς (.next (WR (v4+1),v18,r17.2))) (ς (.done (v8,v9)))
def zx(a0:av):Option (bO×av):=
 acE (bC a0 9) λr1=>acE (bC r1.2 4) λr2=>acE (bC r2.2 20) λr3=>acE (iter (D5) FU (0,([]:List Int),r3.2)) λ((v15,v16):List Int×av)=>ς ((⟨WR (1+r1.1),WR (1+r2.1),WR (1+r3.1),v15⟩:bO),v16)
instance OH{r:bO×av}:FCV prog (zx a0=ς r) 131 [(200,.var 124 (kM [.f] (be a0)))] [tP 200] [(200,.var 124 (kM [.f] (be r.2)))] (.v (.agg (kM [.n 210] (oO r.1)))) [(210,n3 r.1.bQ)]:=gV func131 ntmps131 (hL 0 (λ(v:Int×List Int×av) sl ob nx=>⟨(4,tI v.1)::xS [212] sl,[(200,.var 124 (kM [.f] (be v.2.2))),(212,n3 v.2.1)]++(uC 211 3 [.wn 212 v.2.1.length] ob),213⟩)) (hB 0 (λ(v:List Int×av) sl ob nx=>⟨(4,.any)::xS [212] sl,[(200,.var 124 (kM [.f] (be v.2))),(212,n3 v.1)]++(uC 211 3 [.wn 212 v.1.length] ob),213⟩)) (hC 20 (λ(v:List Int) sl ob nx=>⟨xS [212] sl,[(212,n3 v)]++(uC 211 3 [.wn 212 v.length] ob),nx⟩))
def xC(a0:jG)(a1:Int):Option aC:=
 ς {Ht with dO:=a0,bh:=a1,bW:={cS with bB:=1}}
instance aaa{a0:jG}{r:aC}:FC prog (xC a0 a1=ς r) 226 [.agg (FB a0),aI a1] [.agg (qM [.z,.z] (eW r))]:=gG func226 ntmps226
def wL(a0:bO):Option bO:=
 cond (cW 8 (([]:List Int)++a0.bQ).length) (ς {a0 with bQ:=(([]:List Int)++a0.bQ)}) ξ
instance sl30Plan_c{a0:bO}{r:bO}:FC prog (wL a0=ς r) 236 [.agg (iJ a0)] [.agg (qM [.o] (oO r))]:=gG func236 ntmps236
def rr(a0:aU)(a1:bO)(a2:Int):Option ag:=
 acE (wL a1) λr1=>ς {AB with bT:=a0,gB:=r1,aK:=(⟨1,[]⟩:aV),bX:={Rm with aO:=a2}}
instance YF{a0:aU}{a1:bO}{a2:Int}{r:ag}:FC prog (rr a0 a1 a2=ς r) 227 [.agg (er a0),.agg (iJ a1),aI a2] [.agg (qM [.o,.z,.z] (cU r))]:=gG func227 ntmps227 (hz 1)
def vL(a0:av):Option (Int×av):=
 acE (bC a0 6) λr1=>ς (WR (100+r1.1),r1.2)
instance sl5Key_c{r:Int×av}:FCW prog (vL a0=ς r) 230 (.var 124 (kM [.f] (be a0))) [tP 200] (.var 124 (kM [.f] (be r.2))) [.c (.d (.i .i64 r.1))]:=gW func230 ntmps230
def t9:(Int×List aU×av)->Option (ci (Int×List aU×av) (List aU×av))
 |(v2,v6,v7)=>cond (ltB 0 v2) (acE (vL v7) λr15=>acE (bC r15.2 20) λr16=>cond (cW 32 (v6++[(⟨(⟨1,v2⟩:dq),r15.1,r16.1⟩:aU)]).length) (ς (.next (WR (v2-1),(v6++[(⟨(⟨1,v2⟩:dq),r15.1,r16.1⟩:aU)]),r16.2))) ξ) (ς (.done (v6,v7)))
def nP(a0:av):Option (List aU×av):=
 acE (bC a0 3) λr1=>acE (iter (t9) FU (WR (1+r1.1),([]:List aU),r1.2)) λ((v13,v14):List aU×av)=>ς (v13,v14)
instance ve{r:List aU×av}:FCW prog (nP a0=ς r) 134 (.var 124 (kM [.f] (be a0))) [tP 200] (.var 124 (kM [.f] (be r.2))) [.c (.own 82 4 (r.1.map er) r.1.length)]:=gW func134 ntmps134 (hL 0 (λ(v:Int×List aU×av) sl ob nx=>⟨(3,.v (.c (.w 210 v.2.1.length)))::(4,tI v.1)::xS [210] sl,[(200,.var 124 (kM [.f] (be v.2.2))),(210,w82 v.2.1)]++ob,nx⟩)) (hB 0 (λ(v:List aU×av) sl ob nx=>⟨(3,.v (.c (.w 210 v.1.length)))::(4,.any)::xS [210] sl,[(200,.var 124 (kM [.f] (be v.2))),(210,w82 v.1)]++ob,nx⟩))
def G4(a0:List Int):Option bI:=
 cond (cW 1 (([]:List Int)++a0).length) (ς (⟨(([]:List Int)++a0)⟩:bI)) ξ
instance sl25Body_c{a0:List Int}{r:bI}:FC prog (G4 a0=ς r) 231 [aL (a0.map eU8)] [.agg [.own 5 1 (r.bk.map eU8) r.bk.length]]:=gG func231 ntmps231
def D4(a1:Int):(Int×List Int×av)->Option (ci (Int×List Int×av) (List Int×av))
 |(v1,v5,v6)=>cond (ltB v1 a1) (acE (uZ v6) λr13=>cond (cW 1 (v5++[IntKind.u8.wrap (r13.1)]).length) (ς (.next (WR (v1+1),(v5++[IntKind.u8.wrap (r13.1)]),r13.2))) ξ) (ς (.done (v5,v6)))
def tX(a0:av)(a1:Int):Option (List Int×av):=
 acE (iter (D4 a1) FU (0,([]:List Int),a0)) λ((v11,v12):List Int×av)=>ς (v11,v12)
instance BC{r:List Int×av}:FCW prog (tX a0 a1=ς r) 136 (.var 124 (kM [.f] (be a0))) [tP 200,tI a1] (.var 124 (kM [.f] (be r.2))) [.c (.own 5 1 (r.1.map eU8) r.1.length)]:=gW func136 ntmps136 (hL 0 (λ(v:Int×List Int×av) sl ob nx=>⟨(5,.v (.c (.w 210 v.2.1.length)))::(6,tI v.1)::xS [210] sl,[(200,.var 124 (kM [.f] (be v.2.2))),(210,w5 v.2.1)]++ob,nx⟩)) (hB 0 (λ(v:List Int×av) sl ob nx=>⟨(5,.v (.c (.w 210 v.1.length)))::(6,.any)::xS [210] sl,[(200,.var 124 (kM [.f] (be v.2))),(210,w5 v.1)]++ob,nx⟩))
def nD(a0:aC)(a1:aG):Option a9:=
 ς (⟨{a0 with eU:=3},[a1]⟩:a9)
instance sl29Send_c{a0:aC}{a1:aG}{r:a9}:FCV prog (nD a0 a1=ς r) 233 [] [.v (.agg (kM [.f,.f] (eW a0))),.v (.agg (kM [] (gL a1)))] [] (.v (.agg (kM [.f,.f,.w 210] (dx r)))) [(210,w42 r.c9)]:=gV func233 ntmps233
def CN(a0:aD):Option aD:=
 cond (cW 1 (([]:List Int)++a0.bL.bk).length) (ς {a0 with bL:={a0.bL with bk:=(([]:List Int)++a0.bL.bk)}}) ξ
instance sl27Copy_c{a0:aD}{r:aD}:FC prog (CN a0=ς r) 239 [.agg (dr a0)] [.agg (qM [.o] (jy r))]:=gG func239 ntmps239
def t7(a0:bA):Option bA:=
 acE (CN a0.ct) λr1=>ς {a0 with ct:=r1}
instance KQ{a0:bA}{r:bA}:FC prog (t7 a0=ς r) 144 [.agg (eP a0)] [.agg (qM [.o] (oN r))]:=gG func144 ntmps144
def iU(a0:ae)(a1:bA):Option ae:=
 cond (leB 200 (a0.aT.length:Int)) (ς {a0 with Lost:=WR (a0.Lost+1)}) (acE (t7 a1) λr1=>cond (cW 176 (a0.aT++[r1]).length) (ς {a0 with aT:=(a0.aT++[r1])}) ξ)
instance OK{a0:ae}{a1:bA}{r:ae}:FCV prog (iU a0 a1=ς r) 139 (nS a0) [tP 200,.v (.agg (kM [.t] (oN a1)))] (nS r) (.tup []) []:=⟨λH=>by
 refine fV func139 ntmps139 ?_
 refine cC H ?_ ?_<;>intro H
 .cases H
  exact dy
 refine Pa 0 18 0 [1,2,3,4,5,6,7,8,9,10,11] Try.follows (by kernel_rfl) (by kernel_rfl) rfl (by kernel_rfl) rfl rfl ?_
 refine wI ?_
 refine aa H λr1 q1 H=>zA (ca (hF:=(KQ.h q1).frzs (by repeat (first|exact θ|refine⟨?_,?_⟩|exact lm _|rfl)))) ?_
 obtain⟨h,H⟩:=rq H
 refine zB cA (kz rfl (Jp (enc:=eP) (ys:=a0.aT) (zs:=[r1]) h (by first|exact List.cons_ne_nil _ _|simp) rfl (λ_=>rfl) (by first|rfl|simp) (.w rfl (by first|rfl|exact lm _|simp)) rfl rfl rfl rfl rfl rfl rfl rfl rfl rfl)) cA ?_
 refine wA (spx 100084) ?_
 cases H
 refine bM ((fZ 193)) ?_
 exact B3⟩
def GM(a0:Int)(a1:Int):Option Int:=
 cond (ltB a1 a0) (ς a1) (ς a0)
instance KC{a0:Int} :FC prog (GM a0 a1=ς r) 104 [aI a0,aI a1] [.c (.d (.i .i64 r))]:=gG func104 ntmps104
def GL(a0:Int)(a1:Int):Option Int:=
 cond (ltB a0 a1) (ς a1) (ς a0)
instance sMax_c{a0:Int} :FC prog (GL a0 a1=ς r) 146 [aI a0,aI a1] [.c (.d (.i .i64 r))]:=gG func146 ntmps146
def rf(a0:List Int)(a1:List Int):Option Bool:=
 ς (strB (rD a0) (rD a1))
instance Yx{a0:List Int}{a1:List Int}{r:Bool}:FC prog (rf a0 a1=ς r) 255 [aL (a0.map eU8),aL (a1.map eU8)] [.c (.d (.b r))]:=gG func255 ntmps255
def xL(a0:List ab):(Int×Int)->Option (ci (Int×Int) (Int))
 |(v1,v2)=>cond (ltB v2 (a0.length:Int)) (acE (ix a0 v2) λx5=>ς (.next (WR (v1+(x5.bk.length:Int)),WR (v2+1)))) (ς (.done v1))
def oC(a0:List ab):Option Int:=
 acE (iter (xL a0) FU (0,0)) λ(v4:Int)=>ς v4
instance abr{a0:List ab} :FC prog (oC a0=ς r) 280 [aL (a0.map aX)] [.c (.d (.i .i64 r))]:=gG func280 ntmps280 (hm 0 3 4) (he 0 3 4)
def pL(a0:aj):(Int×Int)->Option (ci (Int×Int) (Int))
 |(v1,v2)=>cond (ltB v2 (a0.an.length:Int)) (acE (ix a0.an v2) λx5=>ς (.next (WR (v1+x5.ea),WR (v2+1)))) (ς (.done v1))
def pK(a0:aj):Option Int:=
 acE (iter (pL a0) FU (0,0)) λ(v4:Int)=>ς v4
instance Tc{a0:aj} :FC prog (pK a0=ς r) 198 [.agg (dh a0)] [.c (.d (.i .i64 r))]:=gG func198 ntmps198 (hm 0 3 4) (he 0 3 4)
def uY(a0:aj)(a1:Int):Int->Option (ci (Int) (Int))
 |v1=>cond (ltB v1 (a0.an.length:Int)) (acE (ix a0.an v1) λx2=>cond (eqB x2.aO a1) (dn (ς v1)) (ς (.next (WR (v1+1))))) (dn (ς (-1)))
def my(a0:aj)(a1:Int):Option Int:=
 iter (uY a0 a1) FU 0
instance sl16Find_c{a0:aj} :FC prog (my a0 a1=ς r) 281 [.agg (dh a0),aI a1] [.c (.d (.i .i64 r))]:=gG func281 ntmps281 (hl 0 5)
def iy(a0:aj)(a1:Int):Option Int:=
 acE (my a0 a1) λr1=>cond (ltB r1 0) (ς 0) (acE (ix a0.an r1) λx2=>ς x2.ea)
instance Xi{a0:aj} :FC prog (iy a0 a1=ς r) 199 [.agg (dh a0),aI a1] [.c (.d (.i .i64 r))]:=gG func199 ntmps199
def vI(a0:bw)(a1:bw):Option Bool:=
 acE (cond (eqB a0.dt a1.dt) (cond (eqB a0.gk a1.gk) (cond (eqB a0.i7 a1.i7) (acE (rf a0.bk a1.bk) λr2=>ς r2) (ς η)) (ς η)) (ς η)) λ(v1:Bool)=>ς v1
instance TZ{a0:bw}{a1:bw}{r:Bool}:FC prog (vI a0 a1=ς r) 153 [.agg (eg a0),.agg (eg a1)] [.c (.d (.b r))]:=gG func153 ntmps153 (hb 10 4)
def uP(a0:aD)(a1:aD):Option Bool:=
 acE (cond (eqB a0.ah a1.ah) (cond (eqB a0.aY a1.aY) (acE (vI a0.bL a1.bL) λr2=>ς r2) (ς η)) (ς η)) λ(v1:Bool)=>ς v1
instance Yy{a0:aD}{a1:aD}{r:Bool}:FC prog (uP a0 a1=ς r) 77 [.agg (dr a0),.agg (dr a1)] [.c (.d (.b r))]:=gG func77 ntmps77 (hb 10 4)
def pT(a0:bA)(a1:bA):Option Bool:=
 acE (cond (eqB a0.bj a1.bj) (cond (booB a0.ey a1.ey) (cond (booB a0.dB a1.dB) (cond (eqB a0.bh a1.bh) (bif(eqB a0.a8.bu a1.a8.bu&&(eqB a0.a8.bh a1.a8.bh&&(eqB a0.a8.ah a1.a8.ah&&(eqB a0.a8.aY a1.a8.aY&&(eqB a0.a8.bZ a1.a8.bZ&&(eqB a0.a8.b8.ez a1.a8.b8.ez&&(eqB a0.a8.b8.f7 a1.a8.b8.f7&&(eqB a0.a8.b8.i7 a1.a8.b8.i7&&(eqB a0.a8.b8.vP a1.a8.b8.vP&&(eqB a0.a8.b8.fA a1.a8.b8.fA&&(eqB a0.a8.i7 a1.a8.i7&&ζ))))))))))) then(acE (uP a0.ct a1.ct) λr2=>ς r2) else(ς η)) (ς η)) (ς η)) (ς η)) (ς η)) λ(v1:Bool)=>ς v1
instance Tq{a0:bA}{a1:bA}{r:Bool}:FC prog (pT a0 a1=ς r) 31 [.agg (eP a0),.agg (eP a1)] [.c (.d (.b r))]:=gG func31 ntmps31 (hb 10 4)
def vJ(a0:Int):Option fB:=
 ς (⟨[1,3,a0]⟩:fB)
instance T1{a0:Int}{r:fB}:FC prog (vJ a0=ς r) 156 [aI a0] [.agg [.own 3 1 (r.Steps.map eI) r.Steps.length]]:=gG func156 ntmps156
def pJ:Option fB:=
 ς (⟨[1,2]⟩:fB)
instance Np{r:fB}:FC prog (pJ=ς r) 258 [] [.agg [.own 3 1 (r.Steps.map eI) r.Steps.length]]:=gG func258 ntmps258
def g4(a0:av)(a1:List Int):Option (Int×av):=
 acE (bC a0 (a1.length:Int)) λr1=>acE (ix a1 r1.1) λx2=>ς (x2,r1.2)
instance wC{a1:List Int}{r:Int×av}:FCW prog (g4 a0 a1=ς r) 187 (.var 124 (kM [.f] (be a0))) [tP 200,.v (.c (.d η (.l (a1.map eI))))] (.var 124 (kM [.f] (be r.2))) [.c (.d (.i .i64 r.1))]:=gW func187 ntmps187
def Au(a0:av):Option (Int×av):=
 acE (gq a0 10) λr1=>cond r1.1 (acE (g4 r1.2 [-1,2147483647,2147483648]) λr2=>ς (r2.1,r2.2)) (acE (gq r1.2 4) λr3=>cond r3.1 (acE (g4 r3.2 [0,1,2147483646]) λr4=>ς (r4.1,r4.2)) (acE (bC r3.2 1000000) λr5=>acE (bC r5.2 2000) λr6=>ς (WR (r5.1*r6.1),r6.2)))
instance sl3Word_c{r:Int×av}:FCW prog (Au a0=ς r) 310 (.var 124 (kM [.f] (be a0))) [tP 200] (.var 124 (kM [.f] (be r.2))) [.c (.d (.i .i64 r.1))]:=gW func310 ntmps310
def KR(a0:av):Option (Int×av):=
 acE (gq a0 6) λr1=>cond r1.1 (acE (g4 r1.2 [0,999999,1000000,-1,998999]) λr2=>ς (r2.1,r2.2)) (acE (bC r1.2 40) λr3=>ς (r3.1,r3.2))
instance sl5Seq_c{r:Int×av}:FCW prog (KR a0=ς r) 351 (.var 124 (kM [.f] (be a0))) [tP 200] (.var 124 (kM [.f] (be r.2))) [.c (.d (.i .i64 r.1))]:=gW func351 ntmps351
def mA(a1:Int)(a2:Bool)(a3:List aG):(Int×ae)->Option (ci (Int×ae) (ae))
 |(v1,v12)=>cond (ltB v1 (a3.length:Int)) (acE (ix a3 v1) λx27=>acE (ix a3 v1) λx28=>acE (iU v12 (⟨a1,a2,η,x27.bh,x28,fg⟩:bA)) λr29=>ς (.next (WR (v1+1),r29))) (ς (.done v12))
def mz(a0:ae)(a1:Int)(a2:Bool)(a3:List aG):Option ae:=
 acE (iter (mA a1 a2 a3) FU (0,a0)) λ(v26:ae)=>ς v26
instance YM{a0:ae}{a2:Bool}{a3:List aG}{r:ae}:FCV prog (mz a0 a1 a2 a3=ς r) 246 (nS a0) [tP 200,tI a1,tB a2,.v (.c (.d ζ (.l (a3.map dM))))] (nS r) (.tup []) []:=gV func246 ntmps246 (hL 0 (λ(v:Int×ae) sl ob nx=>⟨(8,tI v.1)::xS [193,192,191,190] sl,nS v.2++ob,nx⟩)) (hB 0 (λ(v:ae) sl ob nx=>⟨(8,.any)::xS [193,192,191,190] sl,nS v++ob,nx⟩)) (hz 3)
def jF(a0:ae)(a1:Int)(a2:a9):Option ae:=
 acE (ix a0.ax a1) λx1=>acE (mz {a0 with ax:=(a0.ax.set (a1).toNat a2.bj)} a1 ζ a2.c9) λr2=>ς r2
instance aap{a0:ae}{a2:a9}{r:ae}:FCV prog (jF a0 a1 a2=ς r) 243 (nS a0) [tP 200,tI a1,.v (.agg (kM [.t,.t,.t] (dx a2)))] (nS r) (.tup []) []:=gV func243 ntmps243 (hz 1)
def pF(a0:ag):Option Int:=
 acE (oC a0.aK.aF) λr1=>ς r1
instance Nn{a0:ag} :FC prog (pF a0=ς r) 382 [.agg (cp a0)] [.c (.d (.i .i64 r))]:=gG func382 ntmps382
def zK(a0:ae)(a1:Int):Option (bA×ae):=
 acE (ix a0.aT a1) λx1=>cond (em a0.aT 0 a1) (cond (em a0.aT (WR (a1+1)) a0.aT.length) (cond (cW 176 (([]:List bA)++(a0.aT.take (a1).toNat)).length) (cond (cW 176 ((([]:List bA)++(a0.aT.take (a1).toNat))++(a0.aT.drop (WR (a1+1)).toNat)).length) (ς (x1,{a0 with aT:=((([]:List bA)++(a0.aT.take (a1).toNat))++(a0.aT.drop (WR (a1+1)).toNat))})) ξ) ξ) ξ) ξ
instance sl33Take_c{a0:ae}{r:bA×ae}:FCV prog (zK a0 a1=ς r) 248 (nS a0) [tP 200,tI a1] (nS r.2) (.v (.agg (kM [.t] (oN r.1)))) []:=⟨λH=>by
 refine fV func248 ntmps248 ?_
 refine aa H λx1 hx1 H=>dW (lv 193 (hne:=yd (enc:=eP) hx1)) ?_
 refine nA (xwT hx1) ?_
 refine nA (oea (he:=kK _ hx1)) ?_
 refine zI [0,1,2,3,4,5,6,7,9,10,11,12,13,14,15,8,16,17,18,19] ?_
 obtain⟨hs5,H⟩:=rq H
 refine zA (YZ (enc:=eP) hs5 (by first|rfl|simp) rfl rfl rfl rfl) ?_
 obtain⟨hs6,H⟩:=rq H
 refine zA (Y0 (enc:=eP) hs6 (by first|rfl|simp) rfl rfl rfl rfl) ?_
 obtain⟨h,H⟩:=rq H
 refine wA (apx (enc:=eP) (ys:=([]:List bA)) (zs:=a0.aT.take (a1).toNat) [212,193] h (hs:=MV (enc:=eP) hs5 rfl)) ?_
 obtain⟨h,H⟩:=rq H
 refine wA (apx (enc:=eP) (ys:=(([]:List bA)++(a0.aT.take (a1).toNat))) (zs:=a0.aT.drop (WR (a1+1)).toNat) [213,193] h (hs:=IZ (enc:=eP) hs6 (by first|rfl|simp) rfl)) ?_
 refine wA (spx 100408) ?_
 refine oK (ds:=[212,213]) (by kernel_rfl) (by kernel_rfl) rfl ?_
 refine wI ?_
 cases H
 refine bM (Nb 193 214) ?_
 refine bM ((fZ 193)) ?_
 exact dy⟩
def qp(a0:cy)(a1:Int):Option Bool:=
 ς (eqB a1 a0.vP)
instance Oz{a0:cy}{r:Bool}:FC prog (qp a0 a1=ς r) 367 [.agg (mE a0),aI a1] [.c (.d (.b r))]:=gG func367 ntmps367
def GY(a0:av):Option (bE×av):=
 acE (bC a0 6) λr1=>cond (leB 0 (WR (1+r1.1))) (acE (bC r1.2 (mD .i64 1 (WR (1+r1.1)))) λr2=>ς ((⟨WR (1+r1.1),r2.1⟩:bE),r2.2)) ξ
instance sl22Draw_c{r:bE×av}:FCW prog (GY a0=ς r) 272 (.var 124 (kM [.f] (be a0))) [tP 200] (.var 124 (kM [.f] (be r.2))) [.agg (qM [] (kB r.1))]:=gW func272 ntmps272
def EN(a0:av):Option (bE×av):=
 acE (GY a0) λr1=>acE (bC r1.2 8) λr2=>acE (cond (eqB r2.1 0) (acE (g4 r2.2 [0,1,6,7,-1]) λr10=>ς (r10.2,(⟨r10.1,r1.1.fj⟩:bE))) (acE (cond (eqB r2.1 1) (acE (g4 r2.2 [-1,63,64]) λr16=>ς (r16.1,r16.2)) (ς (r1.1.fj,r2.2))) λ((v14,v15):Int×av)=>ς (v15,(⟨r1.1.fy,v14⟩:bE)))) λ((v8,v9):av×bE)=>ς (v9,v8)
instance Tk{r:bE×av}:FCW prog (EN a0=ς r) 186 (.var 124 (kM [.f] (be a0))) [tP 200] (.var 124 (kM [.f] (be r.2))) [.agg (qM [] (kB r.1))]:=gW func186 ntmps186 (hC 8 (λ(v:av×bE) sl ob nx=>⟨sl,[(200,.var 124 (kM [.f] (be v.1))),(211,.var 32 (kM [] (kB v.2)))]++ob,nx⟩)) (hC 14 (λ(v:Int×av) sl ob nx=>⟨sl,[(200,.var 124 (kM [.f] (be v.2)))]++(uC 211 1 [.d η (.i .i64 v.1)] ob),nx⟩))
def ON(a0:av):Option (dq×av):=
 acE (bC a0 3) λr1=>acE (bC r1.2 5) λr2=>ς ((⟨r1.1,r2.1⟩:dq),r2.2)
instance sl4Who_c{r:dq×av}:FCW prog (ON a0=ς r) 364 (.var 124 (kM [.f] (be a0))) [tP 200] (.var 124 (kM [.f] (be r.2))) [.agg (qM [] (FH r.1))]:=gW func364 ntmps364
def CT(a0:av):Option (jG×av):=
 acE (ON a0) λr1=>acE (vL r1.2) λr2=>acE (bC r2.2 40) λr3=>ς ((⟨r1.1,r2.1,r3.1⟩:jG),r3.2)
instance sl6Card_c{r:jG×av}:FCW prog (CT a0=ς r) 326 (.var 124 (kM [.f] (be a0))) [tP 200] (.var 124 (kM [.f] (be r.2))) [.agg (qM [] (FJ r.1))]:=gW func326 ntmps326
def EW(a0:av):Option (jG×aU×av):=
 acE (CT a0) λr1=>acE (bC r1.2 4) λr2=>acE (bC r2.2 8) λr3=>acE (cond (eqB r3.1 0) (acE (g4 r3.2 [0,WR (r1.1.c8+1500),999998]) λr10=>ς (r10.1,r1.1.c8,r10.2)) (acE (cond (eqB r3.1 1) (acE (g4 r3.2 [0,5000,999990]) λr16=>ς (r16.1,r16.2)) (ς (r1.1.c8,r3.2))) λ((v14,v15):Int×av)=>ς (WR (r1.1.c8+r2.1),v14,v15))) λ((v7,v8,v9):Int×Int×av)=>ς ({r1.1 with c8:=v8},(⟨r1.1.ID,r1.1.fA,v7⟩:aU),v9)
instance sl6Pair_c{r:jG×aU×av}:FCW prog (EW a0=ς r) 329 (.var 124 (kM [.f] (be a0))) [tP 200] (.var 124 (kM [.f] (be r.2.2))) [.agg (qM [] (FJ r.1)),.agg (qM [] (nT r.2.1))]:=gW func329 ntmps329 (hC 20 (λ(v:Int×Int×av) sl ob nx=>⟨sl,[(200,.var 124 (kM [.f] (be v.2.2)))]++(uC 213 3 [.d η (.i .i64 v.1)] (uC 212 3 [.d η (.i .i64 v.2.1)] ob)),nx⟩)) (hC 29 (λ(v:Int×av) sl ob nx=>⟨sl,[(200,.var 124 (kM [.f] (be v.2)))]++(uC 212 3 [.d η (.i .i64 v.1)] ob),nx⟩)) (hz 8) (hz 2)
end Go.AM
