/- A part. -/
import Derived.Test.YtgbcdgihmgapeaaGreatE4
import Derived.Test.YtgbcdgihmgapeaaGreatProg
set_option linter.unusedVariables false
set_option linter.unusedSimpArgs false
open Option renaming some->ς,none->ξ
open Bool renaming true->ζ,false->η
open True renaming intro->θ
namespace Go.AM
open Go.Proofs
open Tryz
variable{P:Program}{t:TypeId}{n:Nat}
theorem J5(h:(P.info? t).map (·.size)=ς n):∃i,P.info? t=ς i/\i.size=n:=by
 cases hi:P.info? t with
 |none=>simp[hi] at h
 |some i=>simp[hi] at h;exact⟨i,rfl,h⟩
theorem Rh{z:Value}(h:(P.info? t).map (·.zero)=ς (ς z)):∃i,P.info? t=ς i/\i.zero=ς z:=by
 cases hi:P.info? t with
 |none=>simp[hi] at h
 |some i=>simp[hi] at h;exact⟨i,rfl,h⟩
theorem info_s{z:Value}{b:Nat}(h:(P.info? t).map (λi=>(i.size,i.bytes,i.zero))=ς (n,b,ς z))(hz:z.cells.size=n):∃i z,P.info? t=ς i/\i.size=n/\i.bytes=b/\i.zero=ς z/\z.cells.size=n:=by
 cases hi:P.info? t with
 |none=>simp[hi] at h
 |some i=>simp[hi] at h;exact⟨i,z,rfl,h.1,h.2.1,h.2.2,hz⟩
theorem XJ(h:(P.info? t).map (·.size)=ς n)(hn:n≠0):∃i,P.info? t=ς i/\i.size≠0:=by
 cases hi:P.info? t with
 |none=>simp[hi] at h
 |some i=>simp[hi] at h;exact⟨i,rfl,by omega⟩
theorem du{z:Value}{Q:Value->Prop}(h:(P.info? t).map (·.zero)=ς (ς z))(q:Q z:=by exact rfl):∃i z,P.info? t=ς i/\i.zero=ς z/\Q z:=by
 obtain⟨i,h1,h2⟩:=Rh h
 exact⟨i,_,h1,h2,q⟩
theorem tynn(h:(P.info? t).map (·.size)=ς n:=by kernel_rfl):∃i,P.info? t=ς i/\i.size=n:=J5 h
theorem tyff(n:Nat)(h:(P.info? t).map (·.size)=ς n:=by kernel_rfl)(hn:n≠0:=by decide):∃i,P.info? t=ς i/\i.size≠0:=XJ h hn
theorem y8{z:Value}{b:Nat}(h1:(P.info? t).map (·.zero)=ς (ς z))(h:(P.info? t).map (λi=>(i.size,i.bytes))=ς (n,b):=by kernel_rfl)(hz:z.cells.size=n:=by exact rfl):∃i z,P.info? t=ς i/\i.size=n/\i.bytes=b/\i.zero=ς z/\z.cells.size=n:=by
 obtain⟨i,h2,h3⟩:=Rh h1
 simp[h2] at h
 exact⟨i,z,h2,h.1,h.2,h3,hz⟩
theorem tyf{t f off ft:Nat}{fs:Array Field}{fd:Field}(n:Nat)(hu:P.underlying t=ς (.struct fs))(h1:fs[f]?=ς fd:=by exact rfl)(h2:fd.offset=off:=by exact rfl)(h3:fd.type=ft:=by exact rfl)(h4:(P.info? ft).map (·.size)=ς n:=by kernel_rfl)(hn:n≠0:=by decide):TyF P t f off ft:=⟨_,_,hu,h1,h2,h3,tyff n h4 hn⟩
theorem lM{t:Nat}(h:∀w,(isAgg t).run P w= .ok ζ w:=by intro w;kernel_rfl)(hn:(P.info? t).map (·.size)=ς n:=by kernel_rfl):fm P t n:=⟨h,J5 hn⟩
theorem uH{t:Nat}(h:∀w,(isAgg t).run P w= .ok η w:=by intro w;kernel_rfl)(hn:(P.info? t).map (·.size)=ς 1:=by kernel_rfl):g8 P t:=⟨h,J5 hn⟩
instance {P:Program} {t n:Nat} [h:fm P t n]:TyN P t n:=⟨h.n⟩
instance {P:Program} {t:Nat} [h:g8 P t]:TyN P t 1:=⟨h.n⟩
abbrev zvI:Value:=.int .i64 0
abbrev zvB:Value:=.bool η
abbrev zvN:Value:=.slice ξ 0 0
abbrev zcI:C:=.d η (.i .i64 0)
abbrev zcB:C:=.d η (.b η)
abbrev zdI:D:=.i .i64 0
abbrev zdB:D:=.b η
abbrev zdL:D:=.l []
abbrev edI(n:Int):D:=.i .i64 n
abbrev esI(n:Int):F:=.s (.i .i64 n)
instance:g8 prog 3:=uH
instance:TyU prog 3 (.int .i64):=⟨underlying3⟩
theorem Tryz.z3:(prog.info? 3).map (·.zero)=ς (ς zvI):=by kernel_rfl
instance:TyZ prog 3 [zcI]:=⟨du Tryz.z3⟩
instance:TyE prog 3 [zdI]:=⟨du Tryz.z3⟩
instance:g8 prog 4:=uH
instance:TyU prog 4 (.bool):=⟨underlying4⟩
theorem Tryz.z4:(prog.info? 4).map (·.zero)=ς (ς zvB):=by kernel_rfl
instance:TyZ prog 4 [zcB]:=⟨du Tryz.z4⟩
instance:TyE prog 4 [zdB]:=⟨du Tryz.z4⟩
instance:g8 prog 5:=uH
instance:TyU prog 5 (.int .u8):=⟨underlying5⟩
theorem Tryz.z5:(prog.info? 5).map (·.zero)=ς (ς (.int .u8 0)):=by kernel_rfl
instance:TyZ prog 5 [.d η (.i .u8 0)]:=⟨du Tryz.z5⟩
instance:TyE prog 5 [.i .u8 0]:=⟨du Tryz.z5⟩
instance:g8 prog 9:=uH
instance:TyU prog 9 (.string):=⟨underlying9⟩
theorem Tryz.z9:(prog.info? 9).map (·.zero)=ς (ς (.string ⟨#[]⟩)):=by kernel_rfl
instance:TyZ prog 9 [.d η (.str ⟨#[]⟩)]:=⟨du Tryz.z9⟩
instance:TyE prog 9 [.str ⟨#[]⟩]:=⟨du Tryz.z9⟩
instance:g8 prog 22:=uH
theorem Tryz.z22:(prog.info? 22).map (·.zero)=ς (ς zvN):=by kernel_rfl
instance:TyZ prog 22 [.nil]:=⟨du Tryz.z22⟩
instance:TyE prog 22 [zdL]:=⟨du Tryz.z22⟩
instance:g8 prog 24:=uH
theorem Tryz.z24:(prog.info? 24).map (·.zero)=ς (ς zvN):=by kernel_rfl
instance:TyZ prog 24 [.nil]:=⟨du Tryz.z24⟩
instance:TyE prog 24 [zdL]:=⟨du Tryz.z24⟩
instance:fm prog 26 1:=lM
theorem Tryz.z26:(prog.info? 26).map (·.zero)=ς (ς (.agg #[zvN])):=by kernel_rfl
instance:TyZ prog 26 [.nil]:=⟨du Tryz.z26⟩
instance:TyE prog 26 [zdL]:=⟨du Tryz.z26⟩
instance:TyB prog 26 [(0,1)]:=⟨_,underlying26,λw=>by kernel_rfl⟩
instance:TyF prog 26 0 0 24:=tyf 1 underlying26
instance:g8 prog 27:=uH
theorem Tryz.z27:(prog.info? 27).map (·.zero)=ς (ς zvN):=by kernel_rfl
instance:TyZ prog 27 [.nil]:=⟨du Tryz.z27⟩
instance:TyE prog 27 [zdL]:=⟨du Tryz.z27⟩
instance:g8 prog 28:=uH
theorem Tryz.z28:(prog.info? 28).map (·.zero)=ς (ς zvN):=by kernel_rfl
instance:TyZ prog 28 [.nil]:=⟨du Tryz.z28⟩
instance:TyE prog 28 [zdL]:=⟨du Tryz.z28⟩
instance:g8 prog 29:=uH
theorem Tryz.z29:(prog.info? 29).map (·.zero)=ς (ς zvN):=by kernel_rfl
instance:TyZ prog 29 [.nil]:=⟨du Tryz.z29⟩
instance:TyE prog 29 [zdL]:=⟨du Tryz.z29⟩
instance:g8 prog 30:=uH
theorem Tryz.z30:(prog.info? 30).map (·.zero)=ς (ς zvN):=by kernel_rfl
instance:TyZ prog 30 [.nil]:=⟨du Tryz.z30⟩
instance:TyE prog 30 [zdL]:=⟨du Tryz.z30⟩
instance:fm prog 32 2:=lM
theorem Tryz.z32:(prog.info? 32).map (·.zero)=ς (ς (.agg #[zvI,zvI])):=by kernel_rfl
instance:TyZ prog 32 [zcI,zcI]:=⟨du Tryz.z32⟩
instance:TyE prog 32 [zdI,zdI]:=⟨du Tryz.z32⟩
instance:TyB prog 32 [(0,1),(1,1)]:=⟨_,underlying32,λw=>by kernel_rfl⟩
instance:TyF prog 32 0 0 3:=tyf 1 underlying32
instance:TyF prog 32 1 1 3:=tyf 1 underlying32
instance:fm prog 34 10:=lM
theorem Tryz.z34:(prog.info? 34).map (·.zero)=ς (ς (.agg #[zvN,zvN,zvN,zvN,zvN,zvI,zvI,zvI,zvI,zvI])):=by kernel_rfl
instance:TyZ prog 34 [.nil,.nil,.nil,.nil,.nil,zcI,zcI,zcI,zcI,zcI]:=⟨du Tryz.z34⟩
instance:TyE prog 34 [zdL,zdL,zdL,zdL,zdL,zdI,zdI,zdI,zdI,zdI]:=⟨du Tryz.z34⟩
instance:TyB prog 34 [(0,1),(1,1),(2,1),(3,1),(4,1),(5,1),(6,2),(8,1),(9,1)]:=⟨_,underlying34,λw=>by kernel_rfl⟩
instance:TyF prog 34 0 0 26:=tyf 1 underlying34
instance:TyF prog 34 1 1 27:=tyf 1 underlying34
instance:TyF prog 34 2 2 28:=tyf 1 underlying34
instance:TyF prog 34 3 3 29:=tyf 1 underlying34
instance:TyF prog 34 4 4 30:=tyf 1 underlying34
instance:TyF prog 34 5 5 3:=tyf 1 underlying34
instance:TyF prog 34 6 6 32:=tyf 2 underlying34
instance:TyF prog 34 7 8 3:=tyf 1 underlying34
instance:TyF prog 34 8 9 3:=tyf 1 underlying34
instance:fm prog 37 2:=lM
theorem Tryz.z37:(prog.info? 37).map (·.zero)=ς (ς (.agg #[zvI,zvI])):=by kernel_rfl
instance:TyZ prog 37 [zcI,zcI]:=⟨du Tryz.z37⟩
instance:TyE prog 37 [zdI,zdI]:=⟨du Tryz.z37⟩
instance:TyB prog 37 [(0,1),(1,1)]:=⟨_,underlying37,λw=>by kernel_rfl⟩
instance:TyF prog 37 0 0 3:=tyf 1 underlying37
instance:TyF prog 37 1 1 3:=tyf 1 underlying37
instance:fm prog 39 4:=lM
theorem Tryz.z39:(prog.info? 39).map (·.zero)=ς (ς (.agg #[zvI,zvI,zvI,zvI])):=by kernel_rfl
instance:TyZ prog 39 [zcI,zcI,zcI,zcI]:=⟨du Tryz.z39⟩
instance:TyE prog 39 [zdI,zdI,zdI,zdI]:=⟨du Tryz.z39⟩
instance:TyB prog 39 [(0,2),(2,1),(3,1)]:=⟨_,underlying39,λw=>by kernel_rfl⟩
instance:TyF prog 39 0 0 37:=tyf 2 underlying39
instance:TyF prog 39 1 2 3:=tyf 1 underlying39
instance:TyF prog 39 2 3 3:=tyf 1 underlying39
instance:g8 prog 40:=uH
theorem Tryz.z40:(prog.info? 40).map (·.zero)=ς (ς zvN):=by kernel_rfl
instance:TyZ prog 40 [.nil]:=⟨du Tryz.z40⟩
instance:TyE prog 40 [zdL]:=⟨du Tryz.z40⟩
instance:g8 prog 41:=uH
theorem Tryz.z41:(prog.info? 41).map (·.zero)=ς (ς zvN):=by kernel_rfl
instance:TyZ prog 41 [.nil]:=⟨du Tryz.z41⟩
instance:TyE prog 41 [zdL]:=⟨du Tryz.z41⟩
instance:fm prog 43 3:=lM
theorem Tryz.z43:(prog.info? 43).map (·.zero)=ς (ς (.agg #[zvI,zvN,zvN])):=by kernel_rfl
instance:TyZ prog 43 [zcI,.nil,.nil]:=⟨du Tryz.z43⟩
instance:TyE prog 43 [zdI,zdL,zdL]:=⟨du Tryz.z43⟩
instance:TyB prog 43 [(0,1),(1,1),(2,1)]:=⟨_,underlying43,λw=>by kernel_rfl⟩
instance:TyF prog 43 0 0 3:=tyf 1 underlying43
instance:TyF prog 43 1 1 40:=tyf 1 underlying43
instance:TyF prog 43 2 2 41:=tyf 1 underlying43
instance:fm prog 45 14:=lM
theorem Tryz.z45:(prog.info? 45).map (·.zero)=ς (ς (.agg #[zvI,zvI,zvI,zvI,zvI,zvI,zvI,zvI,zvI,zvB,zvI,zvI,zvN,zvN])):=by kernel_rfl
instance:TyZ prog 45 [zcI,zcI,zcI,zcI,zcI,zcI,zcI,zcI,zcI,zcB,zcI,zcI,.nil,.nil]:=⟨du Tryz.z45⟩
instance:TyE prog 45 [zdI,zdI,zdI,zdI,zdI,zdI,zdI,zdI,zdI,zdB,zdI,zdI,zdL,zdL]:=⟨du Tryz.z45⟩
instance:TyB prog 45 [(0,4),(4,1),(5,1),(6,1),(7,1),(8,1),(9,1),(10,1),(11,3)]:=⟨_,underlying45,λw=>by kernel_rfl⟩
instance:TyF prog 45 0 0 39:=tyf 4 underlying45
instance:TyF prog 45 1 4 3:=tyf 1 underlying45
instance:TyF prog 45 2 5 3:=tyf 1 underlying45
instance:TyF prog 45 3 6 3:=tyf 1 underlying45
instance:TyF prog 45 4 7 3:=tyf 1 underlying45
instance:TyF prog 45 5 8 3:=tyf 1 underlying45
instance:TyF prog 45 6 9 4:=tyf 1 underlying45
instance:TyF prog 45 7 10 3:=tyf 1 underlying45
instance:TyF prog 45 8 11 43:=tyf 3 underlying45
instance:g8 prog 47:=uH
theorem Tryz.z47:(prog.info? 47).map (·.zero)=ς (ς zvN):=by kernel_rfl
instance:TyZ prog 47 [.nil]:=⟨du Tryz.z47⟩
instance:TyE prog 47 [zdL]:=⟨du Tryz.z47⟩
instance:fm prog 50 1:=lM
theorem Tryz.z50:(prog.info? 50).map (·.zero)=ς (ς (.agg #[zvN])):=by kernel_rfl
instance:TyZ prog 50 [.nil]:=⟨du Tryz.z50⟩
instance:TyE prog 50 [zdL]:=⟨du Tryz.z50⟩
instance:TyB prog 50 [(0,1)]:=⟨_,underlying50,λw=>by kernel_rfl⟩
instance:TyF prog 50 0 0 22:=tyf 1 underlying50
instance:g8 prog 53:=uH
theorem Tryz.z53:(prog.info? 53).map (·.zero)=ς (ς zvN):=by kernel_rfl
instance:TyZ prog 53 [.nil]:=⟨du Tryz.z53⟩
instance:TyE prog 53 [zdL]:=⟨du Tryz.z53⟩
instance:fm prog 55 4:=lM
theorem Tryz.z55:(prog.info? 55).map (·.zero)=ς (ς (.agg #[zvI,zvI,zvI,zvN])):=by kernel_rfl
instance:TyZ prog 55 [zcI,zcI,zcI,.nil]:=⟨du Tryz.z55⟩
instance:TyE prog 55 [zdI,zdI,zdI,zdL]:=⟨du Tryz.z55⟩
instance:TyB prog 55 [(0,1),(1,1),(2,1),(3,1)]:=⟨_,underlying55,λw=>by kernel_rfl⟩
instance:TyF prog 55 0 0 3:=tyf 1 underlying55
instance:TyF prog 55 1 1 3:=tyf 1 underlying55
instance:TyF prog 55 2 2 3:=tyf 1 underlying55
instance:TyF prog 55 3 3 53:=tyf 1 underlying55
instance:fm prog 63 5:=lM
theorem Tryz.z63:(prog.info? 63).map (·.zero)=ς (ς (.agg #[zvI,zvI,zvI,zvI,zvI])):=by kernel_rfl
instance:TyZ prog 63 [zcI,zcI,zcI,zcI,zcI]:=⟨du Tryz.z63⟩
instance:TyE prog 63 [zdI,zdI,zdI,zdI,zdI]:=⟨du Tryz.z63⟩
instance:TyB prog 63 [(0,1),(1,1),(2,1),(3,1),(4,1)]:=⟨_,underlying63,λw=>by kernel_rfl⟩
instance:TyF prog 63 0 0 3:=tyf 1 underlying63
instance:TyF prog 63 1 1 3:=tyf 1 underlying63
instance:TyF prog 63 2 2 3:=tyf 1 underlying63
instance:TyF prog 63 3 3 3:=tyf 1 underlying63
instance:TyF prog 63 4 4 3:=tyf 1 underlying63
instance:fm prog 65 11:=lM
theorem Tryz.z65:(prog.info? 65).map (·.zero)=ς (ς (.agg #[zvI,zvI,zvI,zvI,zvI,zvI,zvI,zvI,zvI,zvI,zvI])):=by kernel_rfl
instance:TyZ prog 65 [zcI,zcI,zcI,zcI,zcI,zcI,zcI,zcI,zcI,zcI,zcI]:=⟨du Tryz.z65⟩
instance:TyE prog 65 [zdI,zdI,zdI,zdI,zdI,zdI,zdI,zdI,zdI,zdI,zdI]:=⟨du Tryz.z65⟩
instance:TyB prog 65 [(0,1),(1,1),(2,1),(3,1),(4,1),(5,5),(10,1)]:=⟨_,underlying65,λw=>by kernel_rfl⟩
instance:TyF prog 65 0 0 3:=tyf 1 underlying65
instance:TyF prog 65 1 1 3:=tyf 1 underlying65
instance:TyF prog 65 2 2 3:=tyf 1 underlying65
instance:TyF prog 65 3 3 3:=tyf 1 underlying65
instance:TyF prog 65 4 4 3:=tyf 1 underlying65
instance:TyF prog 65 5 5 63:=tyf 5 underlying65
instance:TyF prog 65 6 10 3:=tyf 1 underlying65
instance:fm prog 67 4:=lM
theorem Tryz.z67:(prog.info? 67).map (·.zero)=ς (ς (.agg #[zvI,zvI,zvN,zvI])):=by kernel_rfl
instance:TyZ prog 67 [zcI,zcI,.nil,zcI]:=⟨du Tryz.z67⟩
instance:TyE prog 67 [zdI,zdI,zdL,zdI]:=⟨du Tryz.z67⟩
instance:TyB prog 67 [(0,1),(1,1),(2,1),(3,1)]:=⟨_,underlying67,λw=>by kernel_rfl⟩
instance:TyF prog 67 0 0 3:=tyf 1 underlying67
instance:TyF prog 67 1 1 3:=tyf 1 underlying67
instance:TyF prog 67 2 2 22:=tyf 1 underlying67
instance:TyF prog 67 3 3 3:=tyf 1 underlying67
instance:fm prog 69 6:=lM
theorem Tryz.z69:(prog.info? 69).map (·.zero)=ς (ς (.agg #[zvI,zvI,zvI,zvI,zvN,zvI])):=by kernel_rfl
instance:TyZ prog 69 [zcI,zcI,zcI,zcI,.nil,zcI]:=⟨du Tryz.z69⟩
instance:TyE prog 69 [zdI,zdI,zdI,zdI,zdL,zdI]:=⟨du Tryz.z69⟩
instance:TyB prog 69 [(0,1),(1,1),(2,4)]:=⟨_,underlying69,λw=>by kernel_rfl⟩
instance:TyF prog 69 0 0 3:=tyf 1 underlying69
instance:TyF prog 69 1 1 3:=tyf 1 underlying69
instance:TyF prog 69 2 2 67:=tyf 4 underlying69
instance:fm prog 71 21:=lM
theorem Tryz.z71:(prog.info? 71).map (·.zero)=ς (ς (.agg #[zvI,zvB,zvB,zvI,zvI,zvI,zvI,zvI,zvI,zvI,zvI,zvI,zvI,zvI,zvI,zvI,zvI,zvI,zvI,zvN,zvI])):=by kernel_rfl
instance:TyZ prog 71 [zcI,zcB,zcB,zcI,zcI,zcI,zcI,zcI,zcI,zcI,zcI,zcI,zcI,zcI,zcI,zcI,zcI,zcI,zcI,.nil,zcI]:=⟨du Tryz.z71⟩
instance:TyE prog 71 [zdI,zdB,zdB,zdI,zdI,zdI,zdI,zdI,zdI,zdI,zdI,zdI,zdI,zdI,zdI,zdI,zdI,zdI,zdI,zdL,zdI]:=⟨du Tryz.z71⟩
instance:TyB prog 71 [(0,1),(1,1),(2,1),(3,1),(4,11),(15,6)]:=⟨_,underlying71,λw=>by kernel_rfl⟩
instance:TyF prog 71 0 0 3:=tyf 1 underlying71
instance:TyF prog 71 1 1 4:=tyf 1 underlying71
instance:TyF prog 71 2 2 4:=tyf 1 underlying71
instance:TyF prog 71 3 3 3:=tyf 1 underlying71
instance:TyF prog 71 4 4 65:=tyf 11 underlying71
instance:TyF prog 71 5 15 69:=tyf 6 underlying71
instance:fm prog 73 25:=lM
theorem Tryz.z73:(prog.info? 73).map (·.zero)=ς (ς (.agg #[zvI,zvI,zvI,zvN,zvI,zvB,zvB,zvI,zvI,zvI,zvI,zvI,zvI,zvI,zvI,zvI,zvI,zvI,zvI,zvI,zvI,zvI,zvI,zvN,zvI])):=by kernel_rfl
instance:TyZ prog 73 [zcI,zcI,zcI,.nil,zcI,zcB,zcB,zcI,zcI,zcI,zcI,zcI,zcI,zcI,zcI,zcI,zcI,zcI,zcI,zcI,zcI,zcI,zcI,.nil,zcI]:=⟨du Tryz.z73⟩
instance:TyE prog 73 [zdI,zdI,zdI,zdL,zdI,zdB,zdB,zdI,zdI,zdI,zdI,zdI,zdI,zdI,zdI,zdI,zdI,zdI,zdI,zdI,zdI,zdI,zdI,zdL,zdI]:=⟨du Tryz.z73⟩
instance:TyB prog 73 [(0,1),(1,1),(2,1),(3,1),(4,21)]:=⟨_,underlying73,λw=>by kernel_rfl⟩
instance:TyF prog 73 0 0 3:=tyf 1 underlying73
instance:TyF prog 73 1 1 3:=tyf 1 underlying73
instance:TyF prog 73 2 2 3:=tyf 1 underlying73
instance:TyF prog 73 3 3 22:=tyf 1 underlying73
instance:TyF prog 73 4 4 71:=tyf 21 underlying73
instance:fm prog 76 4:=lM
theorem Tryz.z76:(prog.info? 76).map (·.zero)=ς (ς (.agg #[zvI,zvI,zvI,zvI])):=by kernel_rfl
instance:TyZ prog 76 [zcI,zcI,zcI,zcI]:=⟨du Tryz.z76⟩
instance:TyE prog 76 [zdI,zdI,zdI,zdI]:=⟨du Tryz.z76⟩
instance:TyB prog 76 [(0,2),(2,1),(3,1)]:=⟨_,underlying76,λw=>by kernel_rfl⟩
instance:TyF prog 76 0 0 37:=tyf 2 underlying76
instance:TyF prog 76 1 2 3:=tyf 1 underlying76
instance:TyF prog 76 2 3 3:=tyf 1 underlying76
instance:g8 prog 77:=uH
theorem Tryz.z77:(prog.info? 77).map (·.zero)=ς (ς zvN):=by kernel_rfl
instance:TyZ prog 77 [.nil]:=⟨du Tryz.z77⟩
instance:TyE prog 77 [zdL]:=⟨du Tryz.z77⟩
instance:fm prog 79 4:=lM
theorem Tryz.z79:(prog.info? 79).map (·.zero)=ς (ς (.agg #[zvI,zvI,zvI,zvN])):=by kernel_rfl
instance:TyZ prog 79 [zcI,zcI,zcI,.nil]:=⟨du Tryz.z79⟩
instance:TyE prog 79 [zdI,zdI,zdI,zdL]:=⟨du Tryz.z79⟩
instance:TyB prog 79 [(0,1),(1,1),(2,1),(3,1)]:=⟨_,underlying79,λw=>by kernel_rfl⟩
instance:TyF prog 79 0 0 3:=tyf 1 underlying79
instance:TyF prog 79 1 1 3:=tyf 1 underlying79
instance:TyF prog 79 2 2 3:=tyf 1 underlying79
instance:TyF prog 79 3 3 77:=tyf 1 underlying79
instance:fm prog 81 3:=lM
theorem Tryz.z81:(prog.info? 81).map (·.zero)=ς (ς (.agg #[zvI,zvI,zvI])):=by kernel_rfl
instance:TyZ prog 81 [zcI,zcI,zcI]:=⟨du Tryz.z81⟩
instance:TyE prog 81 [zdI,zdI,zdI]:=⟨du Tryz.z81⟩
instance:TyB prog 81 [(0,1),(1,1),(2,1)]:=⟨_,underlying81,λw=>by kernel_rfl⟩
instance:TyF prog 81 0 0 3:=tyf 1 underlying81
instance:TyF prog 81 1 1 3:=tyf 1 underlying81
instance:TyF prog 81 2 2 3:=tyf 1 underlying81
instance:fm prog 83 2:=lM
theorem Tryz.z83:(prog.info? 83).map (·.zero)=ς (ς (.agg #[zvI,zvN])):=by kernel_rfl
instance:TyZ prog 83 [zcI,.nil]:=⟨du Tryz.z83⟩
instance:TyE prog 83 [zdI,zdL]:=⟨du Tryz.z83⟩
instance:TyB prog 83 [(0,1),(1,1)]:=⟨_,underlying83,λw=>by kernel_rfl⟩
instance:TyF prog 83 0 0 3:=tyf 1 underlying83
instance:TyF prog 83 1 1 40:=tyf 1 underlying83
instance:fm prog 85 3:=lM
theorem Tryz.z85:(prog.info? 85).map (·.zero)=ς (ς (.agg #[zvI,zvI,zvI])):=by kernel_rfl
instance:TyZ prog 85 [zcI,zcI,zcI]:=⟨du Tryz.z85⟩
instance:TyE prog 85 [zdI,zdI,zdI]:=⟨du Tryz.z85⟩
instance:TyB prog 85 [(0,1),(1,1),(2,1)]:=⟨_,underlying85,λw=>by kernel_rfl⟩
instance:TyF prog 85 0 0 3:=tyf 1 underlying85
instance:TyF prog 85 1 1 3:=tyf 1 underlying85
instance:TyF prog 85 2 2 3:=tyf 1 underlying85
instance:fm prog 87 30:=lM
theorem Tryz.z87:(prog.info? 87).map (·.zero)=ς (ς (.agg #[zvI,zvI,zvI,zvI,zvI,zvI,zvI,zvN,zvI,zvI,zvI,zvI,zvI,zvI,zvI,zvI,zvI,zvI,zvI,zvI,zvI,zvI,zvI,zvN,zvI,zvN,zvI,zvI,zvI,zvI])):=by kernel_rfl
instance:TyZ prog 87 [zcI,zcI,zcI,zcI,zcI,zcI,zcI,.nil,zcI,zcI,zcI,zcI,zcI,zcI,zcI,zcI,zcI,zcI,zcI,zcI,zcI,zcI,zcI,.nil,zcI,.nil,zcI,zcI,zcI,zcI]:=⟨du Tryz.z87⟩
instance:TyE prog 87 [zdI,zdI,zdI,zdI,zdI,zdI,zdI,zdL,zdI,zdI,zdI,zdI,zdI,zdI,zdI,zdI,zdI,zdI,zdI,zdI,zdI,zdI,zdI,zdL,zdI,zdL,zdI,zdI,zdI,zdI]:=⟨du Tryz.z87⟩
instance:TyB prog 87 [(0,4),(4,4),(8,1),(9,5),(14,1),(15,1),(16,1),(17,1),(18,1),(19,1),(20,3),(23,1),(24,2),(26,1),(27,3)]:=⟨_,underlying87,λw=>by kernel_rfl⟩
instance:TyF prog 87 0 0 76:=tyf 4 underlying87
instance:TyF prog 87 1 4 79:=tyf 4 underlying87
instance:TyF prog 87 2 8 3:=tyf 1 underlying87
instance:TyF prog 87 3 9 63:=tyf 5 underlying87
instance:TyF prog 87 4 14 3:=tyf 1 underlying87
instance:TyF prog 87 5 15 3:=tyf 1 underlying87
instance:TyF prog 87 6 16 3:=tyf 1 underlying87
instance:TyF prog 87 7 17 3:=tyf 1 underlying87
instance:TyF prog 87 8 18 3:=tyf 1 underlying87
instance:TyF prog 87 9 19 3:=tyf 1 underlying87
instance:TyF prog 87 10 20 81:=tyf 3 underlying87
instance:TyF prog 87 11 23 41:=tyf 1 underlying87
instance:TyF prog 87 12 24 83:=tyf 2 underlying87
instance:TyF prog 87 13 26 3:=tyf 1 underlying87
instance:TyF prog 87 14 27 85:=tyf 3 underlying87
instance:fm prog 92 3:=lM
theorem Tryz.z92:(prog.info? 92).map (·.zero)=ς (ς (.agg #[zvN,zvI,zvI])):=by kernel_rfl
instance:TyZ prog 92 [.nil,zcI,zcI]:=⟨du Tryz.z92⟩
instance:TyE prog 92 [zdL,zdI,zdI]:=⟨du Tryz.z92⟩
instance:TyB prog 92 [(0,1),(1,1),(2,1)]:=⟨_,underlying92,λw=>by kernel_rfl⟩
instance:TyF prog 92 0 0 22:=tyf 1 underlying92
instance:TyF prog 92 1 1 3:=tyf 1 underlying92
instance:TyF prog 92 2 2 3:=tyf 1 underlying92
instance:fm prog 113 2:=lM
theorem Tryz.z113:(prog.info? 113).map (·.zero)=ς (ς (.agg #[zvI,zvN])):=by kernel_rfl
instance:TyZ prog 113 [zcI,.nil]:=⟨du Tryz.z113⟩
instance:TyE prog 113 [zdI,zdL]:=⟨du Tryz.z113⟩
instance:TyB prog 113 [(0,1),(1,1)]:=⟨_,underlying113,λw=>by kernel_rfl⟩
instance:TyF prog 113 0 0 3:=tyf 1 underlying113
instance:TyF prog 113 1 1 77:=tyf 1 underlying113
instance:g8 prog 132:=uH
theorem Tryz.z132:(prog.info? 132).map (·.zero)=ς (ς zvN):=by kernel_rfl
instance:TyZ prog 132 [.nil]:=⟨du Tryz.z132⟩
instance:TyE prog 132 [zdL]:=⟨du Tryz.z132⟩
instance:g8 prog 138:=uH
theorem Tryz.z138:(prog.info? 138).map (·.zero)=ς (ς zvN):=by kernel_rfl
instance:TyZ prog 138 [.nil]:=⟨du Tryz.z138⟩
instance:TyE prog 138 [zdL]:=⟨du Tryz.z138⟩
instance:fm prog 140 15:=lM
theorem Tryz.z140:(prog.info? 140).map (·.zero)=ς (ς (.agg #[zvI,zvI,zvI,zvI,zvI,zvI,zvI,zvI,zvI,zvB,zvI,zvI,zvN,zvN,zvN])):=by kernel_rfl
instance:TyZ prog 140 [zcI,zcI,zcI,zcI,zcI,zcI,zcI,zcI,zcI,zcB,zcI,zcI,.nil,.nil,.nil]:=⟨du Tryz.z140⟩
instance:TyE prog 140 [zdI,zdI,zdI,zdI,zdI,zdI,zdI,zdI,zdI,zdB,zdI,zdI,zdL,zdL,zdL]:=⟨du Tryz.z140⟩
instance:TyB prog 140 [(0,14),(14,1)]:=⟨_,underlying140,λw=>by kernel_rfl⟩
instance:TyF prog 140 0 0 45:=tyf 14 underlying140
instance:TyF prog 140 1 14 138:=tyf 1 underlying140
instance:g8 prog 146:=uH
theorem Tryz.z146:(prog.info? 146).map (·.zero)=ς (ς zvN):=by kernel_rfl
instance:TyZ prog 146 [.nil]:=⟨du Tryz.z146⟩
instance:TyE prog 146 [zdL]:=⟨du Tryz.z146⟩
instance:fm prog 148 36:=lM
theorem Tryz.z148:(prog.info? 148).map (·.zero)=ς (ς (.agg #[zvI,zvI,zvI,zvI,zvI,zvI,zvI,zvN,zvI,zvI,zvI,zvI,zvI,zvI,zvI,zvI,zvI,zvI,zvI,zvI,zvI,zvI,zvI,zvN,zvI,zvN,zvI,zvI,zvI,zvI,zvI,zvI,zvI,zvN,zvN,zvN])):=by kernel_rfl
instance:TyZ prog 148 [zcI,zcI,zcI,zcI,zcI,zcI,zcI,.nil,zcI,zcI,zcI,zcI,zcI,zcI,zcI,zcI,zcI,zcI,zcI,zcI,zcI,zcI,zcI,.nil,zcI,.nil,zcI,zcI,zcI,zcI,zcI,zcI,zcI,.nil,.nil,.nil]:=⟨du Tryz.z148⟩
instance:TyE prog 148 [zdI,zdI,zdI,zdI,zdI,zdI,zdI,zdL,zdI,zdI,zdI,zdI,zdI,zdI,zdI,zdI,zdI,zdI,zdI,zdI,zdI,zdI,zdI,zdL,zdI,zdL,zdI,zdI,zdI,zdI,zdI,zdI,zdI,zdL,zdL,zdL]:=⟨du Tryz.z148⟩
instance:TyB prog 148 [(0,30),(30,4),(34,1),(35,1)]:=⟨_,underlying148,λw=>by kernel_rfl⟩
instance:TyF prog 148 0 0 87:=tyf 30 underlying148
instance:TyF prog 148 1 30 55:=tyf 4 underlying148
instance:TyF prog 148 2 34 138:=tyf 1 underlying148
instance:TyF prog 148 3 35 146:=tyf 1 underlying148
instance:fm prog 167 2:=lM
theorem Tryz.z167:(prog.info? 167).map (·.zero)=ς (ς (.agg #[zvI,zvN])):=by kernel_rfl
instance:TyZ prog 167 [zcI,.nil]:=⟨du Tryz.z167⟩
instance:TyE prog 167 [zdI,zdL]:=⟨du Tryz.z167⟩
instance:TyB prog 167 [(0,1),(1,1)]:=⟨_,underlying167,λw=>by kernel_rfl⟩
instance:TyF prog 167 0 0 3:=tyf 1 underlying167
instance:TyF prog 167 1 1 22:=tyf 1 underlying167
instance:fm prog 170 2:=lM
theorem Tryz.z170:(prog.info? 170).map (·.zero)=ς (ς (.agg #[zvI,zvI])):=by kernel_rfl
instance:TyZ prog 170 [zcI,zcI]:=⟨du Tryz.z170⟩
instance:TyE prog 170 [zdI,zdI]:=⟨du Tryz.z170⟩
instance:TyB prog 170 [(0,1),(1,1)]:=⟨_,underlying170,λw=>by kernel_rfl⟩
instance:TyF prog 170 0 0 3:=tyf 1 underlying170
instance:TyF prog 170 1 1 3:=tyf 1 underlying170
instance:fm prog 191 31:=lM
theorem Tryz.z191:(prog.info? 191).map (·.zero)=ς (ς (.agg #[zvI,zvI,zvI,zvI,zvI,zvI,zvI,zvN,zvI,zvI,zvI,zvI,zvI,zvI,zvI,zvI,zvI,zvI,zvI,zvI,zvI,zvI,zvI,zvN,zvI,zvN,zvI,zvI,zvI,zvI,zvN])):=by kernel_rfl
instance:TyZ prog 191 [zcI,zcI,zcI,zcI,zcI,zcI,zcI,.nil,zcI,zcI,zcI,zcI,zcI,zcI,zcI,zcI,zcI,zcI,zcI,zcI,zcI,zcI,zcI,.nil,zcI,.nil,zcI,zcI,zcI,zcI,.nil]:=⟨du Tryz.z191⟩
instance:TyE prog 191 [zdI,zdI,zdI,zdI,zdI,zdI,zdI,zdL,zdI,zdI,zdI,zdI,zdI,zdI,zdI,zdI,zdI,zdI,zdI,zdI,zdI,zdI,zdI,zdL,zdI,zdL,zdI,zdI,zdI,zdI,zdL]:=⟨du Tryz.z191⟩
instance:TyB prog 191 [(0,30),(30,1)]:=⟨_,underlying191,λw=>by kernel_rfl⟩
instance:TyF prog 191 0 0 87:=tyf 30 underlying191
instance:TyF prog 191 1 30 138:=tyf 1 underlying191
instance:fm prog 226 1:=lM
theorem Tryz.z226:(prog.info? 226).map (·.zero)=ς (ς (.agg #[zvN])):=by kernel_rfl
instance:TyZ prog 226 [.nil]:=⟨du Tryz.z226⟩
instance:TyE prog 226 [zdL]:=⟨du Tryz.z226⟩
instance:TyB prog 226 [(0,1)]:=⟨_,underlying226,λw=>by kernel_rfl⟩
instance:TyF prog 226 0 0 77:=tyf 1 underlying226
instance:fm prog 248 4:=lM
theorem Tryz.z248:(prog.info? 248).map (·.zero)=ς (ς (.agg #[zvI,zvI,zvI,zvI])):=by kernel_rfl
instance:TyZ prog 248 [zcI,zcI,zcI,zcI]:=⟨du Tryz.z248⟩
instance:TyE prog 248 [zdI,zdI,zdI,zdI]:=⟨du Tryz.z248⟩
instance:TyB prog 248 [(0,1),(1,1),(2,1),(3,1)]:=⟨_,underlying248,λw=>by kernel_rfl⟩
instance:TyF prog 248 0 0 3:=tyf 1 underlying248
instance:TyF prog 248 1 1 3:=tyf 1 underlying248
instance:TyF prog 248 2 2 3:=tyf 1 underlying248
instance:TyF prog 248 3 3 3:=tyf 1 underlying248
theorem Tryz.sh22:sS prog 22 [.l [.i .u8]]:=KN (n:=9) (by kernel_rfl)
theorem Tryz.eqa32:EqA prog 2 32 [.i .i64,.i .i64]:=hP (k:=1) underlying32 (by kernel_rfl) (ge rfl (by decide) inferInstance (dS underlying3) (ge rfl (by decide) inferInstance (dS underlying3) (nJ)))
instance:wX prog 32 [.i .i64,.i .i64]:=⟨⟨2,by decide,Tryz.eqa32⟩,by kernel_rfl⟩
theorem Tryz.eqa37:EqA prog 2 37 [.i .i64,.i .i64]:=hP (k:=1) underlying37 (by kernel_rfl) (ge rfl (by decide) inferInstance (dS underlying3) (ge rfl (by decide) inferInstance (dS underlying3) (nJ)))
instance:wX prog 37 [.i .i64,.i .i64]:=⟨⟨2,by decide,Tryz.eqa37⟩,by kernel_rfl⟩
theorem Tryz.eqa39:EqA prog 3 39 [.i .i64,.i .i64,.i .i64,.i .i64]:=hP (k:=2) underlying39 (by kernel_rfl) (QE (n:=2) (s1:=[.i .i64,.i .i64]) rfl (by decide) inferInstance rfl (by decide) Tryz.eqa37 (ge rfl (by decide) inferInstance (dS underlying3) (ge rfl (by decide) inferInstance (dS underlying3) (nJ))))
instance:wX prog 39 [.i .i64,.i .i64,.i .i64,.i .i64]:=⟨⟨3,by decide,Tryz.eqa39⟩,by kernel_rfl⟩
theorem Tryz.eqa63:EqA prog 2 63 [.i .i64,.i .i64,.i .i64,.i .i64,.i .i64]:=hP (k:=1) underlying63 (by kernel_rfl) (ge rfl (by decide) inferInstance (dS underlying3) (ge rfl (by decide) inferInstance (dS underlying3) (ge rfl (by decide) inferInstance (dS underlying3) (ge rfl (by decide) inferInstance (dS underlying3) (ge rfl (by decide) inferInstance (dS underlying3) (nJ))))))
instance:wX prog 63 [.i .i64,.i .i64,.i .i64,.i .i64,.i .i64]:=⟨⟨2,by decide,Tryz.eqa63⟩,by kernel_rfl⟩
theorem Tryz.eqa65:EqA prog 3 65 [.i .i64,.i .i64,.i .i64,.i .i64,.i .i64,.i .i64,.i .i64,.i .i64,.i .i64,.i .i64,.i .i64]:=hP (k:=2) underlying65 (by kernel_rfl) (ge rfl (by decide) inferInstance (dS underlying3) (ge rfl (by decide) inferInstance (dS underlying3) (ge rfl (by decide) inferInstance (dS underlying3) (ge rfl (by decide) inferInstance (dS underlying3) (ge rfl (by decide) inferInstance (dS underlying3) (QE (n:=5) (s1:=[.i .i64,.i .i64,.i .i64,.i .i64,.i .i64]) rfl (by decide) inferInstance rfl (by decide) Tryz.eqa63 (ge rfl (by decide) inferInstance (dS underlying3) (nJ))))))))
instance:wX prog 65 [.i .i64,.i .i64,.i .i64,.i .i64,.i .i64,.i .i64,.i .i64,.i .i64,.i .i64,.i .i64,.i .i64]:=⟨⟨3,by decide,Tryz.eqa65⟩,by kernel_rfl⟩
theorem Tryz.eqa76:EqA prog 3 76 [.i .i64,.i .i64,.i .i64,.i .i64]:=hP (k:=2) underlying76 (by kernel_rfl) (QE (n:=2) (s1:=[.i .i64,.i .i64]) rfl (by decide) inferInstance rfl (by decide) Tryz.eqa37 (ge rfl (by decide) inferInstance (dS underlying3) (ge rfl (by decide) inferInstance (dS underlying3) (nJ))))
instance:wX prog 76 [.i .i64,.i .i64,.i .i64,.i .i64]:=⟨⟨3,by decide,Tryz.eqa76⟩,by kernel_rfl⟩
theorem Tryz.eqa81:EqA prog 2 81 [.i .i64,.i .i64,.i .i64]:=hP (k:=1) underlying81 (by kernel_rfl) (ge rfl (by decide) inferInstance (dS underlying3) (ge rfl (by decide) inferInstance (dS underlying3) (ge rfl (by decide) inferInstance (dS underlying3) (nJ))))
instance:wX prog 81 [.i .i64,.i .i64,.i .i64]:=⟨⟨2,by decide,Tryz.eqa81⟩,by kernel_rfl⟩
theorem Tryz.eqa85:EqA prog 2 85 [.i .i64,.i .i64,.i .i64]:=hP (k:=1) underlying85 (by kernel_rfl) (ge rfl (by decide) inferInstance (dS underlying3) (ge rfl (by decide) inferInstance (dS underlying3) (ge rfl (by decide) inferInstance (dS underlying3) (nJ))))
instance:wX prog 85 [.i .i64,.i .i64,.i .i64]:=⟨⟨2,by decide,Tryz.eqa85⟩,by kernel_rfl⟩
theorem Tryz.eqa170:EqA prog 2 170 [.i .i64,.i .i64]:=hP (k:=1) underlying170 (by kernel_rfl) (ge rfl (by decide) inferInstance (dS underlying3) (ge rfl (by decide) inferInstance (dS underlying3) (nJ)))
instance:wX prog 170 [.i .i64,.i .i64]:=⟨⟨2,by decide,Tryz.eqa170⟩,by kernel_rfl⟩
theorem Tryz.eqa248:EqA prog 2 248 [.i .i64,.i .i64,.i .i64,.i .i64]:=hP (k:=1) underlying248 (by kernel_rfl) (ge rfl (by decide) inferInstance (dS underlying3) (ge rfl (by decide) inferInstance (dS underlying3) (ge rfl (by decide) inferInstance (dS underlying3) (ge rfl (by decide) inferInstance (dS underlying3) (nJ)))))
instance:wX prog 248 [.i .i64,.i .i64,.i .i64,.i .i64]:=⟨⟨2,by decide,Tryz.eqa248⟩,by kernel_rfl⟩
theorem Tryz.follows:prog.follows .mixedOrders=true:=by kernel_rfl
instance:da prog 22 5 1 1:=⟨underlying22,y8 Tryz.z5,by decide⟩
instance:da prog 24 113 2 32:=⟨underlying24,y8 Tryz.z113,by decide⟩
instance:da prog 27 45 14 144:=⟨underlying27,y8 Tryz.z45,by decide⟩
instance:da prog 28 87 30 288:=⟨underlying28,y8 Tryz.z87,by decide⟩
instance:da prog 29 55 4 48:=⟨underlying29,y8 Tryz.z55,by decide⟩
instance:da prog 30 71 21 176:=⟨underlying30,y8 Tryz.z71,by decide⟩
instance:da prog 40 167 2 32:=⟨underlying40,y8 Tryz.z167,by decide⟩
instance:da prog 41 50 1 24:=⟨underlying41,y8 Tryz.z50,by decide⟩
instance:da prog 47 73 25 224:=⟨underlying47,y8 Tryz.z73,by decide⟩
instance:da prog 53 170 2 16:=⟨underlying53,y8 Tryz.z170,by decide⟩
instance:da prog 77 3 1 8:=⟨underlying77,y8 Tryz.z3,by decide⟩
instance:da prog 132 76 4 32:=⟨underlying132,y8 Tryz.z76,by decide⟩
instance:da prog 138 65 11 88:=⟨underlying138,y8 Tryz.z65,by decide⟩
instance:da prog 146 69 6 64:=⟨underlying146,y8 Tryz.z69,by decide⟩
structure fk where
 gB:Int
 cy:List Int
 deriving DecidableEq,Inhabited
def fP(a:fk):List D:=[edI a.gB,.l (a.cy.map eI)]
structure aV where
 bp:List fk
 deriving DecidableEq,Inhabited
def js(a:aV):List D:=[.l (a.bp.map fP)]
def Pi:aV:=⟨[]⟩
structure bW where
 fD:Int
 eG:Int
 deriving DecidableEq,Inhabited
def lP(a:bW):List D:=[edI a.fD,edI a.eG]
def yd(a:bW):List F:=[esI a.fD,esI a.eG]
def GK:bW:=⟨0,0⟩
structure dt where
 dQ:Int
 bX:Int
 deriving DecidableEq,Inhabited
def p8(a:dt):List D:=[edI a.dQ,edI a.bX]
def vy:dt:=⟨0,0⟩
structure lN where
 ID:dt
 eV:Int
 dJ:Int
 deriving DecidableEq,Inhabited
def Fg(a:lN):List D:=[edI a.ID.dQ,edI a.ID.bX,edI a.eV,edI a.dJ]
def Xw(a:lN):List F:=[esI a.ID.dQ,esI a.ID.bX,esI a.eV,esI a.dJ]
def Zj:lN:=⟨vy,0,0⟩
structure ae where
 cZ:Int
 bb:List Int
 deriving DecidableEq,Inhabited
def aX(a:ae):List D:=[edI a.cZ,.l (a.bb.map eU8)]
def eW(a:ae):List F:=[esI a.cZ,.l 5 1 (a.bb.map eU8) a.bb.length]
def kB:ae:=⟨0,[]⟩
structure bD where
 bb:List Int
 deriving DecidableEq,Inhabited
def de(a:bD):List D:=[.l (a.bb.map eU8)]
structure be where
 bC:Int
 aO:List ae
 aP:List bD
 deriving DecidableEq,Inhabited
def i9(a:be):List D:=[edI a.bC,.l (a.aO.map aX),.l (a.aP.map de)]
def cH(a:be):List F:=[esI a.bC,.l 167 2 (a.aO.map aX) a.aO.length,.l 50 1 (a.aP.map de) a.aP.length]
def dy:be:=⟨0,[],[]⟩
structure aC where
 dx:lN
 bB:Int
 bv:Int
 ag:Int
 aY:Int
 bi:Int
 dr:Bool
 gE:Int
 bg:be
 deriving DecidableEq,Inhabited
def di(a:aC):List D:=[edI a.dx.ID.dQ,edI a.dx.ID.bX,edI a.dx.eV,edI a.dx.dJ,edI a.bB,edI a.bv,edI a.ag,edI a.aY,edI a.bi,.b a.dr,edI a.gE,edI a.bg.bC,.l (a.bg.aO.map aX),.l (a.bg.aP.map de)]
def qa(a:aC):List F:=[esI a.dx.ID.dQ,esI a.dx.ID.bX,esI a.dx.eV,esI a.dx.dJ,esI a.bB,esI a.bv,esI a.ag,esI a.aY,esI a.bi,.s (.b a.dr),esI a.gE,esI a.bg.bC,.l 167 2 (a.bg.aO.map aX) a.bg.aO.length,.l 50 1 (a.bg.aP.map de) a.bg.aP.length]
def T3:aC:=⟨Zj,0,0,0,0,0,η,0,dy⟩
structure aF where
 ID:dt
 eV:Int
 cZ:Int
 deriving DecidableEq,Inhabited
def dR(a:aF):List D:=[edI a.ID.dQ,edI a.ID.bX,edI a.eV,edI a.cZ]
def xf(a:aF):List F:=[esI a.ID.dQ,esI a.ID.bX,esI a.eV,esI a.cZ]
def xF:aF:=⟨vy,0,0⟩
structure bK where
 kj:Int
 ki:Int
 er:Int
 bJ:List Int
 deriving DecidableEq,Inhabited
def lQ(a:bK):List D:=[edI a.kj,edI a.ki,edI a.er,.l (a.bJ.map eI)]
def qc(a:bK):List F:=[esI a.kj,esI a.ki,esI a.er,.l 3 1 (a.bJ.map eI) a.bJ.length]
def Db:bK:=⟨0,0,0,[]⟩
structure cM where
 eQ:Int
 ie:Int
 jD:Int
 wy:Int
 eV:Int
 deriving DecidableEq,Inhabited
def tM(a:cM):List D:=[edI a.eQ,edI a.ie,edI a.jD,edI a.wy,edI a.eV]
def lR(a:cM):List F:=[esI a.eQ,esI a.ie,esI a.jD,esI a.wy,esI a.eV]
def df:cM:=⟨0,0,0,0,0⟩
structure cP where
 gB:Int
 eS:Int
 gE:Int
 deriving DecidableEq,Inhabited
def sC(a:cP):List D:=[edI a.gB,edI a.eS,edI a.gE]
def sD(a:cP):List F:=[esI a.gB,esI a.eS,esI a.gE]
def f8:cP:=⟨0,0,0⟩
structure bu where
 bC:Int
 aG:List ae
 deriving DecidableEq,Inhabited
def km(a:bu):List D:=[edI a.bC,.l (a.aG.map aX)]
def ew(a:bu):List F:=[esI a.bC,.l 167 2 (a.aG.map aX) a.aG.length]
def pF:bu:=⟨0,[]⟩
structure cU where
 aA:Int
 cT:Int
 dW:Int
 deriving DecidableEq,Inhabited
def o8(a:cU):List D:=[edI a.aA,edI a.cT,edI a.dW]
def Fj(a:cU):List F:=[esI a.aA,esI a.cT,esI a.dW]
def Ns:cU:=⟨0,0,0⟩
structure ah where
 bH:aF
 ip:bK
 bB:Int
 aO:cM
 bG:Int
 ag:Int
 aY:Int
 bi:Int
 bv:Int
 d9:Int
 jw:cP
 av:List bD
 ax:bu
 d6:Int
 bV:cU
 deriving DecidableEq,Inhabited
def cO(a:ah):List D:=[edI a.bH.ID.dQ,edI a.bH.ID.bX,edI a.bH.eV,edI a.bH.cZ,edI a.ip.kj,edI a.ip.ki,edI a.ip.er,.l (a.ip.bJ.map eI),edI a.bB,edI a.aO.eQ,edI a.aO.ie,edI a.aO.jD,edI a.aO.wy,edI a.aO.eV,edI a.bG,edI a.ag,edI a.aY,edI a.bi,edI a.bv,edI a.d9,edI a.jw.gB,edI a.jw.eS,edI a.jw.gE,.l (a.av.map de),edI a.ax.bC,.l (a.ax.aG.map aX),edI a.d6,edI a.bV.aA,edI a.bV.cT,edI a.bV.dW]
def eC(a:ah):List F:=[esI a.bH.ID.dQ,esI a.bH.ID.bX,esI a.bH.eV,esI a.bH.cZ,esI a.ip.kj,esI a.ip.ki,esI a.ip.er,.l 3 1 (a.ip.bJ.map eI) a.ip.bJ.length,esI a.bB,esI a.aO.eQ,esI a.aO.ie,esI a.aO.jD,esI a.aO.wy,esI a.aO.eV,esI a.bG,esI a.ag,esI a.aY,esI a.bi,esI a.bv,esI a.d9,esI a.jw.gB,esI a.jw.eS,esI a.jw.gE,.l 50 1 (a.av.map de) a.av.length,esI a.ax.bC,.l 167 2 (a.ax.aG.map aX) a.ax.aG.length,esI a.d6,esI a.bV.aA,esI a.bV.cT,esI a.bV.dW]
def EL:ah:=⟨xF,Db,0,df,0,0,0,0,0,0,f8,[],pF,0,Ns⟩
structure aJ where
 aA:Int
 dO:Int
 deriving DecidableEq,Inhabited
def b9(a:aJ):List D:=[edI a.aA,edI a.dO]
structure am where
 fJ:Int
 bm:Int
 dv:Int
 aH:List aJ
 deriving DecidableEq,Inhabited
def cS(a:am):List D:=[edI a.fJ,edI a.bm,edI a.dv,.l (a.aH.map b9)]
def eO(a:am):List F:=[esI a.fJ,esI a.bm,esI a.dv,.l 170 2 (a.aH.map b9) a.aH.length]
def EK:am:=⟨0,0,0,[]⟩
structure aM where
 bk:Int
 bv:Int
 ag:Int
 bi:Int
 bX:Int
 bY:cM
 jD:Int
 deriving DecidableEq,Inhabited
def eB(a:aM):List D:=[edI a.bk,edI a.bv,edI a.ag,edI a.bi,edI a.bX,edI a.bY.eQ,edI a.bY.ie,edI a.bY.jD,edI a.bY.wy,edI a.bY.eV,edI a.jD]
def iy(a:aM):List F:=[esI a.bk,esI a.bv,esI a.ag,esI a.bi,esI a.bX,esI a.bY.eQ,esI a.bY.ie,esI a.bY.jD,esI a.bY.wy,esI a.bY.eV,esI a.jD]
def iJ:aM:=⟨0,0,0,0,0,df,0⟩
structure bR where
 dE:Int
 ga:Int
 bb:List Int
 jD:Int
 deriving DecidableEq,Inhabited
def f9(a:bR):List D:=[edI a.dE,edI a.ga,.l (a.bb.map eU8),edI a.jD]
def zx(a:bR):List F:=[esI a.dE,esI a.ga,.l 5 1 (a.bb.map eU8) a.bb.length,esI a.jD]
def kC:bR:=⟨0,0,[],0⟩
structure aD where
 ag:Int
 bi:Int
 bz:bR
 deriving DecidableEq,Inhabited
def d4(a:aD):List D:=[edI a.ag,edI a.bi,edI a.bz.dE,edI a.bz.ga,.l (a.bz.bb.map eU8),edI a.bz.jD]
def sE(a:aD):List F:=[esI a.ag,esI a.bi,esI a.bz.dE,esI a.bz.ga,.l 5 1 (a.bz.bb.map eU8) a.bz.bb.length,esI a.bz.jD]
def fj:aD:=⟨0,0,kC⟩
structure bT where
 bA:Int
 eH:Bool
 dL:Bool
 bv:Int
 bw:aM
 cz:aD
 deriving DecidableEq,Inhabited
def eU(a:bT):List D:=[edI a.bA,.b a.eH,.b a.dL,edI a.bv,edI a.bw.bk,edI a.bw.bv,edI a.bw.ag,edI a.bw.bi,edI a.bw.bX,edI a.bw.bY.eQ,edI a.bw.bY.ie,edI a.bw.bY.jD,edI a.bw.bY.wy,edI a.bw.bY.eV,edI a.bw.jD,edI a.cz.ag,edI a.cz.bi,edI a.cz.bz.dE,edI a.cz.bz.ga,.l (a.cz.bz.bb.map eU8),edI a.cz.bz.jD]
def yc(a:bT):List F:=[esI a.bA,.s (.b a.eH),.s (.b a.dL),esI a.bv,esI a.bw.bk,esI a.bw.bv,esI a.bw.ag,esI a.bw.bi,esI a.bw.bX,esI a.bw.bY.eQ,esI a.bw.bY.ie,esI a.bw.bY.jD,esI a.bw.bY.wy,esI a.bw.bY.eV,esI a.bw.jD,esI a.cz.ag,esI a.cz.bi,esI a.cz.bz.dE,esI a.cz.bz.ga,.l 5 1 (a.cz.bz.bb.map eU8) a.cz.bz.bb.length,esI a.cz.bz.jD]
def oF:bT:=⟨0,η,η,0,iJ,fj⟩
structure ab where
 dV:aV
 aj:List aC
 an:List ah
 aU:List am
 aZ:List bT
 cX:Int
 d8:bW
 oG:Int
 jM:Int
 deriving DecidableEq,Inhabited
def fK(a:ab):List D:=[.l (a.dV.bp.map fP),.l (a.aj.map di),.l (a.an.map cO),.l (a.aU.map cS),.l (a.aZ.map eU),edI a.cX,edI a.d8.fD,edI a.d8.eG,edI a.oG,edI a.jM]
def aS(a:ab):List F:=[.l 113 2 (a.dV.bp.map fP) a.dV.bp.length,.l 45 14 (a.aj.map di) a.aj.length,.l 87 30 (a.an.map cO) a.an.length,.l 55 4 (a.aU.map cS) a.aU.length,.l 71 21 (a.aZ.map eU) a.aZ.length,esI a.cX,esI a.d8.fD,esI a.d8.eG,esI a.oG,esI a.jM]
def dh:ab:=⟨Pi,[],[],[],[],0,GK,0,0⟩
structure cY where
 bk:Int
 cV:Int
 bv:Int
 bb:List Int
 bN:bT
 deriving DecidableEq,Inhabited
def nI(a:cY):List D:=[edI a.bk,edI a.cV,edI a.bv,.l (a.bb.map eU8),edI a.bN.bA,.b a.bN.eH,.b a.bN.dL,edI a.bN.bv,edI a.bN.bw.bk,edI a.bN.bw.bv,edI a.bN.bw.ag,edI a.bN.bw.bi,edI a.bN.bw.bX,edI a.bN.bw.bY.eQ,edI a.bN.bw.bY.ie,edI a.bN.bw.bY.jD,edI a.bN.bw.bY.wy,edI a.bN.bw.bY.eV,edI a.bN.bw.jD,edI a.bN.cz.ag,edI a.bN.cz.bi,edI a.bN.cz.bz.dE,edI a.bN.cz.bz.ga,.l (a.bN.cz.bz.bb.map eU8),edI a.bN.cz.bz.jD]
def lg(a:cY):List F:=[esI a.bk,esI a.cV,esI a.bv,.l 5 1 (a.bb.map eU8) a.bb.length,esI a.bN.bA,.s (.b a.bN.eH),.s (.b a.bN.dL),esI a.bN.bv,esI a.bN.bw.bk,esI a.bN.bw.bv,esI a.bN.bw.ag,esI a.bN.bw.bi,esI a.bN.bw.bX,esI a.bN.bw.bY.eQ,esI a.bN.bw.bY.ie,esI a.bN.bw.bY.jD,esI a.bN.bw.bY.wy,esI a.bN.bw.bY.eV,esI a.bN.bw.jD,esI a.bN.cz.ag,esI a.bN.cz.bi,esI a.bN.cz.bz.dE,esI a.bN.cz.bz.ga,.l 5 1 (a.bN.cz.bz.bb.map eU8) a.bN.cz.bz.bb.length,esI a.bN.cz.bz.jD]
def dM:cY:=⟨0,0,0,[],oF⟩
structure bj where
 bA:aC
 dF:List aM
 deriving DecidableEq,Inhabited
def eb(a:bj):List F:=[esI a.bA.dx.ID.dQ,esI a.bA.dx.ID.bX,esI a.bA.dx.eV,esI a.bA.dx.dJ,esI a.bA.bB,esI a.bA.bv,esI a.bA.ag,esI a.bA.aY,esI a.bA.bi,.s (.b a.bA.dr),esI a.bA.gE,esI a.bA.bg.bC,.l 167 2 (a.bA.bg.aO.map aX) a.bA.bg.aO.length,.l 50 1 (a.bA.bg.aP.map de) a.bA.bg.aP.length,.l 65 11 (a.dF.map eB) a.dF.length]
structure b8 where
 a8:ah
 eo:am
 lF:List aM
 cz:List aD
 deriving DecidableEq,Inhabited
def dm(a:b8):List F:=[esI a.a8.bH.ID.dQ,esI a.a8.bH.ID.bX,esI a.a8.bH.eV,esI a.a8.bH.cZ,esI a.a8.ip.kj,esI a.a8.ip.ki,esI a.a8.ip.er,.l 3 1 (a.a8.ip.bJ.map eI) a.a8.ip.bJ.length,esI a.a8.bB,esI a.a8.aO.eQ,esI a.a8.aO.ie,esI a.a8.aO.jD,esI a.a8.aO.wy,esI a.a8.aO.eV,esI a.a8.bG,esI a.a8.ag,esI a.a8.aY,esI a.a8.bi,esI a.a8.bv,esI a.a8.d9,esI a.a8.jw.gB,esI a.a8.jw.eS,esI a.a8.jw.gE,.l 50 1 (a.a8.av.map de) a.a8.av.length,esI a.a8.ax.bC,.l 167 2 (a.a8.ax.aG.map aX) a.a8.ax.aG.length,esI a.a8.d6,esI a.a8.bV.aA,esI a.a8.bV.cT,esI a.a8.bV.dW,esI a.eo.fJ,esI a.eo.bm,esI a.eo.dv,.l 170 2 (a.eo.aH.map b9) a.eo.aH.length,.l 65 11 (a.lF.map eB) a.lF.length,.l 69 6 (a.cz.map d4) a.cz.length]
def dB:b8:=⟨EL,EK,[],[]⟩
structure bU where
 a8:ah
 dF:List aM
 deriving DecidableEq,Inhabited
def fQ(a:bU):List F:=[esI a.a8.bH.ID.dQ,esI a.a8.bH.ID.bX,esI a.a8.bH.eV,esI a.a8.bH.cZ,esI a.a8.ip.kj,esI a.a8.ip.ki,esI a.a8.ip.er,.l 3 1 (a.a8.ip.bJ.map eI) a.a8.ip.bJ.length,esI a.a8.bB,esI a.a8.aO.eQ,esI a.a8.aO.ie,esI a.a8.aO.jD,esI a.a8.aO.wy,esI a.a8.aO.eV,esI a.a8.bG,esI a.a8.ag,esI a.a8.aY,esI a.a8.bi,esI a.a8.bv,esI a.a8.d9,esI a.a8.jw.gB,esI a.a8.jw.eS,esI a.a8.jw.gE,.l 50 1 (a.a8.av.map de) a.a8.av.length,esI a.a8.ax.bC,.l 167 2 (a.a8.ax.aG.map aX) a.a8.ax.aG.length,esI a.a8.d6,esI a.a8.bV.aA,esI a.a8.bV.cT,esI a.a8.bV.dW,.l 65 11 (a.dF.map eB) a.dF.length]
structure jN where
 Steps:List Int
 deriving DecidableEq,Inhabited
def NL(a:jN):List D:=[.l (a.Steps.map eI)]
structure nH where
 Code:Int
 wy:Int
 wW:Int
 Wq:Int
 deriving DecidableEq,Inhabited
def BH(a:nH):List F:=[esI a.Code,esI a.wy,esI a.wW,esI a.Wq]
def kh:nH:=⟨0,0,0,0⟩
structure aT where
 fb:List Int
 fi:Int
 fh:Int
 deriving DecidableEq,Inhabited
def UR(a:aT):List D:=[.l (a.fb.map eU8),edI a.fi,edI a.fh]
def bZ(a:aT):List F:=[.l 5 1 (a.fb.map eU8) a.fb.length,esI a.fi,esI a.fh]
theorem Try.follows:prog.follows .mixedOrders=true:=Tryz.follows
end Go.AM
