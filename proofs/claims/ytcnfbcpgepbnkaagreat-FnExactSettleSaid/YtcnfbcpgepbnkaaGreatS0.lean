/- A part. -/
import Derived.Test.YtcnfbcpgepbnkaaGreatG
set_option linter.unusedVariables false
open Option renaming some->ς,none->ξ
open Bool renaming true->ζ,false->η
open True renaming intro->θ
open Option renaming bind->aeP
namespace Go.AM
open Go.Proofs
open Tryz
attribute [local irreducible] AWN NS AWO AWR AWC DR DZ cO eB iter
set_option maxRecDepth 100000
set_option maxHeartbeats 40000000
variable{r a1:Int}
def sS(a0:List ab):(Int×List ab)->Option (bJ (Int×List ab) (List ab))
 |(v1,v2)=>cond (ltB v1 (a0.length:Int)) (aeP (ix a0 v1) λx6=>aeP (ix a0 v1) λx7=>cond (c8 1 (([]:List Int)++x7.be).length) (cond (c8 32 (v2++[(⟨x6.df,(([]:List Int)++x7.be)⟩:ab)]).length) (ς (.next (WR (v1+1),(v2++[(⟨x6.df,(([]:List Int)++x7.be)⟩:ab)])))) ξ) ξ) (ς (.done v2))
def wF(a0:List ab):Option (List ab):=
 aeP (iter (sS a0) FU (0,([]:List ab))) λ(v5:List ab)=>ς v5
instance adV{a0:List ab}{r:List ab}:FC prog (wF a0=ς r) 196 [aL (a0.map an)] [.c (.own 249 2 (r.map an) r.length)]:=⟨λH=>by
 refine fI func196 ntmps196 ?_
 refine aa H λv5 Hj H=>jB ⟨[(3,.v (.c (.w 0 v5.length)))],[(0,M6 v5)],1⟩ ?_ ?_
 .refine iT Hj (λq=>⟨[(0,.v (.c (.d η (.l (a0.map an))))),(3,.v (.c (.w 0 q.2.length))),(4,tI q.1)],[(0,M6 q.2)],1⟩) ?_
  rintro⟨v1,v2⟩ o H
  refine ad ?_
  refine cC H ?_ ?_<;>intro H
  .refine zI (List.range 17) ?_
   refine aa H λx6 hx6 H=>zA (xdT (enc:=an) hx6) ?_
   refine aa H λx7 hx7 H=>zA (xdT (enc:=an) hx7) ?_
   obtain⟨h,H⟩:=rq H
   refine wA (Kb (enc:=eU8) (ys:=([]:List Int)) (zs:=x7.be) [1] h) ?_
   obtain⟨h,H⟩:=rq H
   refine wA (apx (enc:=an) (ys:=v2) (zs:=[(⟨x6.df,(([]:List Int)++x7.be)⟩:ab)]) [0,3] h) ?_
   refine sb (ds:=[1,0]) (by kernel_rfl) (by kernel_rfl) rfl ?_
   refine wI ?_
   cases H
   refine yH ?_
   refine aK (wS 0 4) ?_
   exact wo
  exact aE H
 cases H
 exact iw⟩
def nN(a0:aG):Option aG:=
 aeP (wF a0.ar) λr1=>ς (⟨a0.bw,r1⟩:aG)
instance pB{a0:aG}{r:aG}:FC prog (nN a0=ς r) 123 [.agg (ec a0)] [.agg (qM [.o] (dF r))]:=gG func123 ntmps123 (hz 1)
def Cl(a0:List Int)(a1:Int):Int->Option (bJ (Int) (Bool))
 |v1=>cond (ltB v1 (a0.length:Int)) (aeP (ix a0 v1) λx2=>cond (eqB x2 a1) (dn (ς ζ)) (ς (.next (WR (v1+1))))) (dn (ς η))
def GL(a0:List Int)(a1:Int):Option Bool:=
 iter (Cl a0 a1) FU 0
instance sl10Has_c{a0:List Int}{r:Bool}:FC prog (GL a0 a1=ς r) 125 [aL (a0.map eI),aI a1] [.c (.d (.b r))]:=gG func125 ntmps125 (hl 0 5)
def z6(a0:List Int)(a1:List Int):Option Bool:=
 ς (strB (G3 a0) (G3 a1))
instance aaM{a0:List Int}{a1:List Int}{r:Bool}:FC prog (z6 a0 a1=ς r) 284 [aL (a0.map eU8),aL (a1.map eU8)] [.c (.d (.b r))]:=gG func284 ntmps284
def ye(a0:List ab):(Int×Int)->Option (bJ (Int×Int) (Int))
 |(v1,v2)=>cond (ltB v2 (a0.length:Int)) (aeP (ix a0 v2) λx5=>ς (.next (WR (v1+(x5.be.length:Int)),WR (v2+1)))) (ς (.done v1))
def qc(a0:List ab):Option Int:=
 aeP (iter (ye a0) FU (0,0)) λ(v4:Int)=>ς v4
instance adX{a0:List ab} :FC prog (qc a0=ς r) 285 [aL (a0.map an)] [.c (.d (.i .i64 r))]:=gG func285 ntmps285 (hm 0 3 4) (he 0 3 4)
def vh(a0:aj)(a1:Int):Int->Option (bJ (Int) (Int))
 |v1=>cond (ltB v1 (a0.ak.length:Int)) (aeP (ix a0.ak v1) λx2=>cond (eqB x2.ax a1) (dn (ς v1)) (ς (.next (WR (v1+1))))) (dn (ς (-1)))
def re(a0:aj)(a1:Int):Option Int:=
 iter (vh a0 a1) FU 0
instance sl16Find_c{a0:aj} :FC prog (re a0 a1=ς r) 287 [.agg (bj a0),aI a1] [.c (.d (.i .i64 r))]:=gG func287 ntmps287 (hl 0 5)
def px(a0:aj)(a1:Int):Option Int:=
 aeP (re a0 a1) λr1=>cond (ltB r1 0) (ς 0) (aeP (ix a0.ak r1) λx2=>ς x2.dq)
instance Zz{a0:aj} :FC prog (px a0 a1=ς r) 206 [.agg (bj a0),aI a1] [.c (.d (.i .i64 r))]:=gG func206 ntmps206
def DN(a0:ae)(a1:Int):Option (a9×ae):=
 aeP (ix a0.aJ a1) λx1=>cond (d6 a0.aJ 0 a1) (cond (d6 a0.aJ (WR (a1+1)) a0.aJ.length) (cond (c8 176 (([]:List a9)++(a0.aJ.take (a1).toNat)).length) (cond (c8 176 ((([]:List a9)++(a0.aJ.take (a1).toNat))++(a0.aJ.drop (WR (a1+1)).toNat)).length) (ς (x1,{a0 with aJ:=((([]:List a9)++(a0.aJ.take (a1).toNat))++(a0.aJ.drop (WR (a1+1)).toNat))})) ξ) ξ) ξ) ξ
instance sl33Take_c{a0:ae}{r:a9×ae}:FCV prog (DN a0 a1=ς r) 130 (nS a0) [tP 200,tI a1] (nS r.2) (.v (.agg (kM [.t] (ox r.1)))) []:=⟨λH=>by
 refine fV func130 ntmps130 ?_
 refine aa H λx1 hx1 H=>cd (Jp 193 (hne:=Ya (enc:=bA) hx1)) ?_
 refine nA (xwT hx1) ?_
 refine nA (oea (he:=fK _ hx1)) ?_
 refine zI [0,1,2,3,4,5,6,7,9,10,11,12,13,14,15,8,16,17,18,19] ?_
 obtain⟨hs3,H⟩:=rq H
 refine zA (cwhT (enc:=bA) hs3 (by first|rfl|simp) rfl rfl rfl rfl) ?_
 obtain⟨hs4,H⟩:=rq H
 refine zA (Ux (enc:=bA) hs4 (by first|rfl|simp) rfl rfl rfl rfl) ?_
 obtain⟨h,H⟩:=rq H
 refine wA (apx (enc:=bA) (ys:=([]:List a9)) (zs:=a0.aJ.take (a1).toNat) [212,193] h (hs:=PF (enc:=bA) hs3 rfl)) ?_
 obtain⟨h,H⟩:=rq H
 refine wA (apx (enc:=bA) (ys:=(([]:List a9)++(a0.aJ.take (a1).toNat))) (zs:=a0.aJ.drop (WR (a1+1)).toNat) [213,193] h (hs:=Jf (enc:=bA) hs4 (by first|rfl|simp) rfl)) ?_
 refine wA (spx 100094) ?_
 refine sb (ds:=[212,213]) (by kernel_rfl) (by kernel_rfl) rfl ?_
 refine wI ?_
 cases H
 refine Kh (Jo 193 214) ?_
 refine Kh ((ez 193)) ?_
 exact eo⟩
def Pw(a0:Int)(a1:Int):Option Int:=
 cond (ltB a1 a0) (ς a1) (ς a0)
instance Zw{a0:Int} :FC prog (Pw a0 a1=ς r) 207 [aI a0,aI a1] [.c (.d (.i .i64 r))]:=gG func207 ntmps207
def ML(a0:Int)(a1:Int):Option Int:=
 cond (ltB a0 a1) (ς a1) (ς a0)
instance sMax_c{a0:Int} :FC prog (ML a0 a1=ς r) 361 [aI a0,aI a1] [.c (.d (.i .i64 r))]:=gG func361 ntmps361
def p9(a0:cb)(a1:Int):Option Bool:=
 ς (eqB a1 a0.D0)
instance Rq{a0:cb}{r:Bool}:FC prog (p9 a0 a1=ς r) 290 [.agg (gR a0),aI a1] [.c (.d (.b r))]:=gG func290 ntmps290
def iV(a0:aG)(a1:Int):(Int×List ab)->Option (bJ (Int×List ab) (List ab))
 |(v2,v3)=>cond (ltB v2 (a0.ar.length:Int)) (aeP (ix a0.ar v2) λx9=>aeP (cond (leB a1 x9.df) (aeP (ix a0.ar v2) λx11=>aeP (ix a0.ar v2) λx12=>cond (c8 1 (([]:List Int)++x12.be).length) (cond (c8 32 (v3++[(⟨x11.df,(([]:List Int)++x12.be)⟩:ab)]).length) (ς (v3++[(⟨x11.df,(([]:List Int)++x12.be)⟩:ab)])) ξ) ξ) (ς v3)) λ(v10:List ab)=>ς (.next (WR (v2+1),v10))) (ς (.done v3))
def lq(a0:aG)(a1:Int):Option aG:=
 aeP (nN a0) λr1=>cond (ltB a0.bw a1) (ς r1) (aeP (iter (iV a0 a1) FU (0,([]:List ab))) λ(v8:List ab)=>ς (⟨r1.bw,v8⟩:aG))
instance Qa{a0:aG}{r:aG}:FC prog (lq a0 a1=ς r) 293 [.agg (ec a0),aI a1] [.agg (qM [.o] (dF r))]:=⟨λH=>by
 refine fI func293 ntmps293 ?_
 refine aa H λr1 q1 H=>nA (ca (hF:=pB.h q1)) ?_
 refine cC H ?_ ?_<;>intro H
 .exact ao H
 refine aa H λv8 Hj H=>jB ⟨[(4,tP 1),(5,tP 3)],(oM [.w 4] 3 137 (dF (⟨r1.bw,v8⟩:aG))++[(1,.var 137 (kM [.z] (dF sX)))]),5⟩ ?_ ?_
 .refine iT Hj (λq=>⟨[(1,tI a1),(2,tP 0),(4,tP 1),(5,tP 3),(6,tI q.1)],(oM [.w 4] 3 137 (dF (⟨r1.bw,q.2⟩:aG))++[(0,.var 137 (kM [.f] (dF a0))),(1,.var 137 (kM [.z] (dF sX)))]),5⟩) ?_ (by refine aK (wB 4 (([]:List ab).length)) ?_;exact wo)
  rintro⟨v2,v3⟩ o H
  refine ad ?_
  refine cC H ?_ ?_<;>intro H
  .refine aa H λx9 hx9 H=>nA (xdT (enc:=an) hx9) ?_
   refine aa H λv10 Hj H=>jA ⟨[(1,tI a1),(2,tP 0),(4,tP 1),(5,tP 3),(6,tI v2)],(oM [.w 4] 3 137 (dF (⟨r1.bw,v10⟩:aG))++[(0,.var 137 (kM [.f] (dF a0))),(1,.var 137 (kM [.z] (dF sX)))]),5⟩ ?_ ?_
   .refine cC Hj ?_ ?_<;>intro H
    .refine zI (List.range 21) ?_
     refine aa H λx11 hx11 H=>zA (xdT (enc:=an) hx11) ?_
     refine aa H λx12 hx12 H=>zA (xdT (enc:=an) hx12) ?_
     obtain⟨h,H⟩:=rq H
     refine wA (Kb (enc:=eU8) (ys:=([]:List Int)) (zs:=x12.be) [5] h) ?_
     obtain⟨h,H⟩:=rq H
     refine uE (ds:=[5]) (by kernel_rfl) (by kernel_rfl) rfl (by kernel_rfl) dH (tj rfl (apT (enc:=an) (ys:=v3) (zs:=[(⟨x11.df,(([]:List Int)++x12.be)⟩:ab)]) h)) dH rfl ?_
     refine wI ?_
     refine wA (spx 100120) ?_
     exact ai H
    exact ai H
   exact aN H
  exact aE H
 cases H
 exact iw⟩
def vP(a0:Int):Option fj:=
 ς (⟨[1,3,a0]⟩:fj)
instance Wu{a0:Int}{r:fj}:FC prog (vP a0=ς r) 340 [aI a0] [.agg [.own 3 1 (r.Steps.map eI) r.Steps.length]]:=gG func340 ntmps340
def kD(a0:List Int):(Int×List Int)->Option (bJ (Int×List Int) (List Int))
 |(v1,v2)=>cond (ltB v1 (a0.length:Int)) (aeP (ix a0 v1) λx5=>cond (c8 8 (v2++[WR (x5)]).length) (ς (.next (WR (v1+1),(v2++[WR (x5)])))) ξ) (ς (.done v2))
def sI(a0:List Int):Option (List Int):=
 aeP (iter (kD a0) FU (0,[(a0.length:Int)])) λ(v4:List Int)=>ς v4
instance IO{a0:List Int}{r:List Int}:FC prog (sI a0=ς r) 379 [aL (a0.map eU8)] [.c (.own 3 1 (r.map eI) r.length)]:=gG func379 ntmps379 (hL 0 (λ(v:Int×List Int) sl ob nx=>⟨(3,.v (.c (.w 0 v.2.length)))::(4,tI v.1)::xS [0] sl,[(0,w3 v.2)]++ob,nx⟩)) (hB 0 (λ(v:List Int) sl ob nx=>⟨(3,.v (.c (.w 0 v.length)))::(4,.any)::xS [0] sl,[(0,w3 v)]++ob,nx⟩))
def GN(a0:List ah)(a1:Int)(a2:Int):Option (List ah):=
 cond (c8 16 (([]:List ah)++a0).length) (aeP (ix a0 a1) λx1=>cond (ltB a2 x1.dq) (aeP (ix a0 a1) λx2=>aeP (ix (([]:List ah)++a0) a1) λx3=>ς ((([]:List ah)++a0).set (a1).toNat (⟨x3.ax,WR (x2.dq-a2)⟩:ah))) (cond (d6 (([]:List ah)++a0) 0 a1) (cond (d6 a0 (WR (a1+1)) a0.length) (cond (c8 16 ((([]:List ah)++a0).take (a1).toNat++(a0.drop (WR (a1+1)).toNat)).length) (ς ((([]:List ah)++a0).take (a1).toNat++(a0.drop (WR (a1+1)).toNat))) ξ) ξ) ξ)) ξ
instance sl16Cut_c{a0:List ah}{a2:Int}{r:List ah}:FC prog (GN a0 a1 a2=ς r) 357 [aL (a0.map aO),aI a1,aI a2] [.c (.own 232 2 (r.map aO) r.length)]:=⟨λH=>by
 refine fI func357 ntmps357 ?_
 obtain⟨h,H⟩:=rq H
 refine qK rfl (apT (enc:=aO) (ys:=([]:List ah)) (zs:=a0) h) ?_
 refine aW (wM (enc:=aO) (o:=0)) ?_
 refine aa H λx1 hx1 H=>nA (xdT (enc:=aO) hx1) ?_
 refine cC H ?_ ?_<;>intro H
 .refine aa H λx2 hx2 H=>nA (xdT (enc:=aO) hx2) ?_
  refine aa H λx3 hx3 H=>nA (xwT hx3) ?_
  refine sA (soT (enc:=aO) (a':=(⟨x3.ax,WR (x2.dq-a2)⟩:ah)) hx3) ?_
  exact ao H
 refine zI (List.range 9) ?_
 obtain⟨hs22,H⟩:=rq H
 refine zA (cwfT (enc:=aO) hs22 (by first|rfl|simp) rfl rfl rfl rfl) ?_
 obtain⟨h,H⟩:=rq H
 refine zA (cdlT (enc:=aO) h (λ_=>rfl) rfl rfl rfl) ?_
 obtain⟨h,H⟩:=rq H
 refine wA (apxPF (enc:=aO) (h:=a1) (ys:=(([]:List ah)++a0)) (zs:=a0.drop (WR (a1+1)).toNat) [0] hs22 h rfl (λ_=>rfl) (λ_=>rfl) rfl .d rfl rfl rfl rfl rfl rfl) ?_
 refine sb (ds:=[0]) (by kernel_rfl) (by kernel_rfl) rfl ?_
 refine wI ?_
 cases H
 exact iw⟩
def pp(a0:ag):Option Int:=
 aeP (qc a0.aC.ar) λr1=>ς r1
instance Qb{a0:ag} :FC prog (pp a0=ς r) 362 [.agg (aM a0)] [.c (.d (.i .i64 r))]:=gG func362 ntmps362
end Go.AM
