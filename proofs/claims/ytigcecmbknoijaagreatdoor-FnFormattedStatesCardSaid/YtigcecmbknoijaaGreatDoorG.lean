/- A part. -/
import Derived.Test.YtigcecmbknoijaaGreatDoorT
import Derived.Test.YtigcecmbknoijaaGreatDoorH
import Derived.Lib.AppendIntMem
set_option linter.unusedVariables false
set_option linter.unusedSimpArgs false
open Option renaming some->ς,none->ξ
open Bool renaming true->ζ,false->η
open True renaming intro->θ
namespace Go.AM
open Go.Proofs Go.RowKit
open Tryz
theorem UD{w w':World}(h:Below w.heap.size w w'):Da w w' (λ_=>False):=⟨h.os,h.tape,h.output,h.size,λb hb _=>h.block b hb⟩
theorem P5{P:Program}{f:FuncId}{fn:Func}{c:Code}{args:List AV}{s:ByteArray}(hf:P.funcs[f]?=ς fn)(hb:fn.body=ς c)(hnm:(fn.name== "runtime.NumGoroutine")=η)(h:∀(F:Nat->Prop) (w:World) (vals:Array Value),(∀b,F b->b<w.heap.size)->TabsIn w->AR w F args vals.toList->Calls P f vals w λe w'=>e= .returned (.string s)/\Below w.heap.size w w'):Fn P f args [.c (.d (.str s))]:=by
 refine⟨λvs w=>by simp[callFunc,hf,hb];simpa using hnm,λF w vals hF hT hA=>(h F w vals hF hT hA).mono ?_⟩
 rintro e w' ⟨rfl,hw⟩
 exact⟨.string s,λ_=>False,[],rfl,UD hw,λ_ h=>h.elim,⟨rfl,by simp[rdD]⟩,by simp⟩
def Lg(n:Int):Option ByteArray:=bif leB (-9223372036854775808) n&&leB n 9223372036854775807 then ς ⟨(Lib.itoa n).toArray⟩ else ξ
theorem Ud{n:Int}{r:ByteArray}(H:Lg n=ς r):Fn prog 51 [aI n] [.c (.d (.str r))]:=by
 unfold Lg at H
 cases hb:leB (-9223372036854775808) n&&leB n 9223372036854775807 with
 |false=>rw[hb] at H;cases H
 |true=>
  rw[hb] at H
  simp only[cond_true,Option.some.injEq] at H
  subst H
  simp only[Bool.and_eq_true,leB,decide_eq_true_eq] at hb
  refine P5 func51 rfl (by kernel_rfl) λF w vals hF hT hA=>?_
  obtain⟨u,rfl,hu⟩:∃u,vals= #[u]/\rdD w F (.i .i64 n) u:=by
   obtain⟨l⟩:=vals
   match l,hA with
   |[u],hA=>exact⟨u,rfl,hA.1⟩
   |[],hA=>exact hA.elim
   |_::_::_,hA=>exact hA.2.elim
  simp only[rdD] at hu
  subst hu
  refine(Tryz.strconv_Itoa n hb.1 hb.2 w ?_).mono ?_
  .obtain⟨ty,fr,hh⟩:=hT
   unfold Lib.TabIs World.var?
   rw[show Program.globalNamed _ _=ς 1 from by kernel_rfl]
   simp only[Option.bind_some,hh]
   rfl
  rintro e w' ⟨he,k,os,rfl⟩
  exact⟨he,Lib.below_grow _ _ (Nat.le_refl _) _ _⟩
def gZ(xs:List ByteArray)(sep:ByteArray):ByteArray:=⟨(Lib.join (xs.map (·.data.toList)) sep.data.toList).toArray⟩
def w8(xs:List ByteArray)(sep:ByteArray):Option ByteArray:=bif Nat.ble xs.length 140737488355328&&Nat.ble (gZ xs sep).size 140737488355328 then ς (gZ xs sep) else ξ
theorem UL{w:World}{F:Nat->Prop}{xs:List ByteArray}{b off:Nat}(h:rdLL w F (xs.map eS) b off)(j:Nat)(x:ByteArray)(hx:xs[j]?=ς x):w.cell? ⟨b,off+j,ξ⟩=ς (.string x):=by
 have:=oi (sz:=1) (i:=j) h (by simp[eS]) (by simp[hx];rfl:(xs.map eS)[j]?=ς [.str x])
 simp only[rdL,rdD,Nat.mul_one] at this
 obtain⟨⟨u,h1,h2⟩,_⟩:=this
 rw[h1,h2]
theorem Fp{xs:List ByteArray}{sep r:ByteArray}(H:w8 xs sep=ς r):Fn prog 33 [aL (xs.map eS),aS sep] [.c (.d (.str r))]:=by
 unfold w8 at H
 cases hb:Nat.ble xs.length 140737488355328&&Nat.ble (gZ xs sep).size 140737488355328 with
 |false=>rw[hb] at H;cases H
 |true=>
  rw[hb] at H
  simp only[cond_true,Option.some.injEq] at H
  subst H
  simp only[Bool.and_eq_true,Nat.ble_eq] at hb
  refine P5 func33 rfl (by kernel_rfl) λF w vals hF hT hA=>?_
  obtain⟨u,v,rfl,hu,hv⟩:∃u v,vals= #[u,v]/\rdD w F (.l (xs.map eS)) u/\rdD w F (.str sep) v:=by
   obtain⟨l⟩:=vals
   match l,hA with
   |[u,v],hA=>exact⟨u,v,rfl,hA.1,hA.2.1⟩
   |[],hA=>exact hA.elim
   |[_],hA=>exact hA.2.elim
   |_::_::_::_,hA=>exact hA.2.2.elim
  simp only[rdD] at hu hv
  subst hv
  obtain⟨A,c,rfl,hlc,hr⟩:=hu
  rw[List.length_map] at hlc ⊢
  rcases hr with hr|⟨b,off,rfl,hFb,hr⟩
  .have hx:xs=[]:=by simpa using hr
   subst hx
   refine(Tryz.strings_Join_none A c sep w).mono ?_
   rintro e w' ⟨he,rfl⟩
   exact⟨he,Below.refl _ _⟩
  exact Tryz.strings_Join b off c xs sep w (λj x hx=>UL hr j x hx) (hF b hFb) hb.1 hlc (by have:=hb.2;simpa [gZ,ByteArray.size] using this)
open Go.Proofs
open Tryz
attribute [local irreducible] AWN NS AWO AWR AWC DR DZ cM eN iter
set_option maxRecDepth 100000
set_option maxHeartbeats 40000000
def w3(a:List Int)(g m:Bool:=ζ):Ob:=.row 3 1 (a.map eI) g m
def n3(a:List Int)(g:Bool:=ζ):Ob:=.rown 3 1 (a.map eI) g
def w5(a:List Int)(g m:Bool:=ζ):Ob:=.row 5 1 (a.map eU8) g m
def n5(a:List Int)(g:Bool:=ζ):Ob:=.rown 5 1 (a.map eU8) g
def w9(a:List ByteArray)(g m:Bool:=ζ):Ob:=.row 9 1 (a.map eS) g m
def n26(a:List an)(g:Bool:=ζ):Ob:=.rown 26 4 (a.map dX) g
def w32(a:List bV)(g m:Bool:=ζ):Ob:=.row 32 3 (a.map fH) g m
def n60(a:List ax)(g:Bool:=ζ):Ob:=.rown 60 14 (a.map eh) g
def w64(a:List aP)(g m:Bool:=ζ):Ob:=.row 64 4 (a.map eD) g m
def n76(a:List ah)(g:Bool:=ζ):Ob:=.rown 76 30 (a.map cQ) g
def w79(a:List aT)(g m:Bool:=ζ):Ob:=.row 79 11 (a.map eM) g m
def w83(a:List aF)(g m:Bool:=ζ):Ob:=.row 83 6 (a.map ev) g m
def n85(a:List bJ)(g:Bool:=ζ):Ob:=.rown 85 21 (a.map eW) g
def n99(a:List aG)(g:Bool:=ζ):Ob:=.rown 99 2 (a.map bT) g
def I3(a:List ab)(g m:Bool:=ζ):Ob:=.row 163 2 (a.map aY) g m
def WK(a:List ab)(g:Bool:=ζ):Ob:=.rown 163 2 (a.map aY) g
def SM(a:List b8)(g m:Bool:=ζ):Ob:=.row 176 1 (a.map er) g m
def XU(a:List dF)(g m:Bool:=ζ):Ob:=.row 182 25 (a.map AF) g m
def Ny(a:List d6)(g:Bool:=ζ):Ob:=.rown 190 2 (a.map fw) g
def nS(a:ae):Laa:=oM [.t,.n 190,.n 191,.n 192,.n 193] 200 43 (bw a)
instance en3:EnT prog 3 Int eI:=⟨⟩
instance en5:EnT prog 5 Int eU8:=⟨⟩
instance en9:EnT prog 9 ByteArray eS:=⟨⟩
instance en26:EnT prog 26 an dX:=⟨⟩
instance en32:EnT prog 32 bV fH:=⟨⟩
instance en60:EnT prog 60 ax eh:=⟨⟩
instance en64:EnT prog 64 aP eD:=⟨⟩
instance en76:EnT prog 76 ah cQ:=⟨⟩
instance en79:EnT prog 79 aT eM:=⟨⟩
instance en83:EnT prog 83 aF ev:=⟨⟩
instance en85:EnT prog 85 bJ eW:=⟨⟩
instance en99:EnT prog 99 aG bT:=⟨⟩
instance en163:EnT prog 163 ab aY:=⟨⟩
instance en176:EnT prog 176 b8 er:=⟨⟩
instance en182:EnT prog 182 dF AF:=⟨⟩
instance en190:EnT prog 190 d6 fw:=⟨⟩
instance mk9:ElT prog 9 ByteArray eS (⟨#[]⟩:ByteArray):=⟨⟩
instance mk5:ElT prog 5 Int eU8 (0:Int):=⟨⟩
end Go.AM
