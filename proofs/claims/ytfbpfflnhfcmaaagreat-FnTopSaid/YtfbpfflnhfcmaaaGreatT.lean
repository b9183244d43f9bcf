/- A part. -/
import Derived.Test.YtfbpfflnhfcmaaaGreatE3
import Derived.Test.YtfbpfflnhfcmaaaGreatProg
set_option linter.unusedVariables false
set_option linter.unusedSimpArgs false
open Option renaming some->ς,none->ξ
open Bool renaming true->ζ,false->η
open True renaming intro->θ
namespace Go.AM
open Go.Proofs
open Tryz
variable{P:Program}{t:TypeId}{n:Nat}
theorem QA(h:(P.info? t).map (·.size)=ς n):∃i,P.info? t=ς i/\i.size=n:=by
 cases hi:P.info? t with
 |none=>simp[hi] at h
 |some i=>simp[hi] at h;exact⟨i,rfl,h⟩
theorem YT{z:Value}(h:(P.info? t).map (·.zero)=ς (ς z)):∃i,P.info? t=ς i/\i.zero=ς z:=by
 cases hi:P.info? t with
 |none=>simp[hi] at h
 |some i=>simp[hi] at h;exact⟨i,rfl,h⟩
theorem info_s{z:Value}{b:Nat}(h:(P.info? t).map (λi=>(i.size,i.bytes,i.zero))=ς (n,b,ς z))(hz:z.cells.size=n):∃i z,P.info? t=ς i/\i.size=n/\i.bytes=b/\i.zero=ς z/\z.cells.size=n:=by
 cases hi:P.info? t with
 |none=>simp[hi] at h
 |some i=>simp[hi] at h;exact⟨i,z,rfl,h.1,h.2.1,h.2.2,hz⟩
theorem info_f(h:(P.info? t).map (·.size)=ς n)(hn:n≠0):∃i,P.info? t=ς i/\i.size≠0:=by
 cases hi:P.info? t with
 |none=>simp[hi] at h
 |some i=>simp[hi] at h;exact⟨i,rfl,by omega⟩
theorem d5{z:Value}{Q:Value->Prop}(h:(P.info? t).map (·.zero)=ς (ς z))(q:Q z:=by exact rfl):∃i z,P.info? t=ς i/\i.zero=ς z/\Q z:=by
 obtain⟨i,h1,h2⟩:=YT h
 exact⟨i,_,h1,h2,q⟩
theorem tynn(h:(P.info? t).map (·.size)=ς n:=by kernel_rfl):∃i,P.info? t=ς i/\i.size=n:=QA h
theorem tyff(n:Nat)(h:(P.info? t).map (·.size)=ς n:=by kernel_rfl)(hn:n≠0:=by decide):∃i,P.info? t=ς i/\i.size≠0:=info_f h hn
theorem CR{z:Value}{b:Nat}(h1:(P.info? t).map (·.zero)=ς (ς z))(h:(P.info? t).map (λi=>(i.size,i.bytes))=ς (n,b):=by kernel_rfl)(hz:z.cells.size=n:=by exact rfl):∃i z,P.info? t=ς i/\i.size=n/\i.bytes=b/\i.zero=ς z/\z.cells.size=n:=by
 obtain⟨i,h2,h3⟩:=YT h1
 simp[h2] at h
 exact⟨i,z,h2,h.1,h.2,h3,hz⟩
theorem tyf{t f off ft:Nat}{fs:Array Field}{fd:Field}(n:Nat)(hu:P.underlying t=ς (.struct fs))(h1:fs[f]?=ς fd:=by exact rfl)(h2:fd.offset=off:=by exact rfl)(h3:fd.type=ft:=by exact rfl)(h4:(P.info? ft).map (·.size)=ς n:=by kernel_rfl)(hn:n≠0:=by decide):TyF P t f off ft:=⟨_,_,hu,h1,h2,h3,tyff n h4 hn⟩
theorem o6{t:Nat}(h:∀w,(isAgg t).run P w= .ok ζ w:=by intro w;kernel_rfl)(hn:(P.info? t).map (·.size)=ς n:=by kernel_rfl):gX P t n:=⟨h,QA hn⟩
theorem zn{t:Nat}(h:∀w,(isAgg t).run P w= .ok η w:=by intro w;kernel_rfl)(hn:(P.info? t).map (·.size)=ς 1:=by kernel_rfl):jJ P t:=⟨h,QA hn⟩
instance {P:Program} {t n:Nat} [h:gX P t n]:TyN P t n:=⟨h.n⟩
instance {P:Program} {t:Nat} [h:jJ P t]:TyN P t 1:=⟨h.n⟩
abbrev zvI:Value:=.int .i64 0
abbrev zvB:Value:=.bool η
abbrev zvN:Value:=.slice ξ 0 0
abbrev zcI:C:=.d η (.i .i64 0)
abbrev zcB:C:=.d η (.b η)
abbrev zdI:D:=.i .i64 0
abbrev zdB:D:=.b η
abbrev zdL:D:=.l []
abbrev edI(n:Int):D:=.i .i64 n
abbrev esI(n:Int):F:=.s (.i .i64 n)
instance:jJ prog 3:=zn
instance:TyU prog 3 (.int .i64):=⟨underlying3⟩
theorem Tryz.z3:(prog.info? 3).map (·.zero)=ς (ς zvI):=by kernel_rfl
instance:TyZ prog 3 [zcI]:=⟨d5 Tryz.z3⟩
instance:TyE prog 3 [zdI]:=⟨d5 Tryz.z3⟩
instance:jJ prog 4:=zn
instance:TyU prog 4 (.bool):=⟨underlying4⟩
theorem Tryz.z4:(prog.info? 4).map (·.zero)=ς (ς zvB):=by kernel_rfl
instance:TyZ prog 4 [zcB]:=⟨d5 Tryz.z4⟩
instance:TyE prog 4 [zdB]:=⟨d5 Tryz.z4⟩
instance:jJ prog 5:=zn
instance:TyU prog 5 (.int .u8):=⟨underlying5⟩
theorem Tryz.z5:(prog.info? 5).map (·.zero)=ς (ς (.int .u8 0)):=by kernel_rfl
instance:TyZ prog 5 [.d η (.i .u8 0)]:=⟨d5 Tryz.z5⟩
instance:TyE prog 5 [.i .u8 0]:=⟨d5 Tryz.z5⟩
instance:jJ prog 9:=zn
instance:TyU prog 9 (.string):=⟨underlying9⟩
theorem Tryz.z9:(prog.info? 9).map (·.zero)=ς (ς (.string ⟨#[]⟩)):=by kernel_rfl
instance:TyZ prog 9 [.d η (.str ⟨#[]⟩)]:=⟨d5 Tryz.z9⟩
instance:TyE prog 9 [.str ⟨#[]⟩]:=⟨d5 Tryz.z9⟩
instance:jJ prog 22:=zn
theorem Tryz.z22:(prog.info? 22).map (·.zero)=ς (ς zvN):=by kernel_rfl
instance:TyZ prog 22 [.nil]:=⟨d5 Tryz.z22⟩
instance:TyE prog 22 [zdL]:=⟨d5 Tryz.z22⟩
instance:jJ prog 24:=zn
theorem Tryz.z24:(prog.info? 24).map (·.zero)=ς (ς zvN):=by kernel_rfl
instance:TyZ prog 24 [.nil]:=⟨d5 Tryz.z24⟩
instance:TyE prog 24 [zdL]:=⟨d5 Tryz.z24⟩
instance:gX prog 26 1:=o6
theorem Tryz.z26:(prog.info? 26).map (·.zero)=ς (ς (.agg #[zvN])):=by kernel_rfl
instance:TyZ prog 26 [.nil]:=⟨d5 Tryz.z26⟩
instance:TyE prog 26 [zdL]:=⟨d5 Tryz.z26⟩
instance:TyB prog 26 [(0,1)]:=⟨_,underlying26,λw=>by kernel_rfl⟩
instance:TyF prog 26 0 0 24:=tyf 1 underlying26
instance:jJ prog 27:=zn
theorem Tryz.z27:(prog.info? 27).map (·.zero)=ς (ς zvN):=by kernel_rfl
instance:TyZ prog 27 [.nil]:=⟨d5 Tryz.z27⟩
instance:TyE prog 27 [zdL]:=⟨d5 Tryz.z27⟩
instance:jJ prog 28:=zn
theorem Tryz.z28:(prog.info? 28).map (·.zero)=ς (ς zvN):=by kernel_rfl
instance:TyZ prog 28 [.nil]:=⟨d5 Tryz.z28⟩
instance:TyE prog 28 [zdL]:=⟨d5 Tryz.z28⟩
instance:jJ prog 29:=zn
theorem Tryz.z29:(prog.info? 29).map (·.zero)=ς (ς zvN):=by kernel_rfl
instance:TyZ prog 29 [.nil]:=⟨d5 Tryz.z29⟩
instance:TyE prog 29 [zdL]:=⟨d5 Tryz.z29⟩
instance:jJ prog 30:=zn
theorem Tryz.z30:(prog.info? 30).map (·.zero)=ς (ς zvN):=by kernel_rfl
instance:TyZ prog 30 [.nil]:=⟨d5 Tryz.z30⟩
instance:TyE prog 30 [zdL]:=⟨d5 Tryz.z30⟩
instance:gX prog 32 2:=o6
theorem Tryz.z32:(prog.info? 32).map (·.zero)=ς (ς (.agg #[zvI,zvI])):=by kernel_rfl
instance:TyZ prog 32 [zcI,zcI]:=⟨d5 Tryz.z32⟩
instance:TyE prog 32 [zdI,zdI]:=⟨d5 Tryz.z32⟩
instance:TyB prog 32 [(0,1),(1,1)]:=⟨_,underlying32,λw=>by kernel_rfl⟩
instance:TyF prog 32 0 0 3:=tyf 1 underlying32
instance:TyF prog 32 1 1 3:=tyf 1 underlying32
instance:gX prog 34 10:=o6
theorem Tryz.z34:(prog.info? 34).map (·.zero)=ς (ς (.agg #[zvN,zvN,zvN,zvN,zvN,zvI,zvI,zvI,zvI,zvI])):=by kernel_rfl
instance:TyZ prog 34 [.nil,.nil,.nil,.nil,.nil,zcI,zcI,zcI,zcI,zcI]:=⟨d5 Tryz.z34⟩
instance:TyE prog 34 [zdL,zdL,zdL,zdL,zdL,zdI,zdI,zdI,zdI,zdI]:=⟨d5 Tryz.z34⟩
instance:TyB prog 34 [(0,1),(1,1),(2,1),(3,1),(4,1),(5,1),(6,2),(8,1),(9,1)]:=⟨_,underlying34,λw=>by kernel_rfl⟩
instance:TyF prog 34 0 0 26:=tyf 1 underlying34
instance:TyF prog 34 1 1 27:=tyf 1 underlying34
instance:TyF prog 34 2 2 28:=tyf 1 underlying34
instance:TyF prog 34 3 3 29:=tyf 1 underlying34
instance:TyF prog 34 4 4 30:=tyf 1 underlying34
instance:TyF prog 34 5 5 3:=tyf 1 underlying34
instance:TyF prog 34 6 6 32:=tyf 2 underlying34
instance:TyF prog 34 7 8 3:=tyf 1 underlying34
instance:TyF prog 34 8 9 3:=tyf 1 underlying34
instance:jJ prog 35:=zn
theorem Tryz.z35:(prog.info? 35).map (·.zero)=ς (ς zvN):=by kernel_rfl
instance:TyZ prog 35 [.nil]:=⟨d5 Tryz.z35⟩
instance:TyE prog 35 [zdL]:=⟨d5 Tryz.z35⟩
instance:gX prog 40 5:=o6
theorem Tryz.z40:(prog.info? 40).map (·.zero)=ς (ς (.agg #[zvI,zvI,zvI,zvI,zvI])):=by kernel_rfl
instance:TyZ prog 40 [zcI,zcI,zcI,zcI,zcI]:=⟨d5 Tryz.z40⟩
instance:TyE prog 40 [zdI,zdI,zdI,zdI,zdI]:=⟨d5 Tryz.z40⟩
instance:TyB prog 40 [(0,1),(1,1),(2,1),(3,1),(4,1)]:=⟨_,underlying40,λw=>by kernel_rfl⟩
instance:TyF prog 40 0 0 3:=tyf 1 underlying40
instance:TyF prog 40 1 1 3:=tyf 1 underlying40
instance:TyF prog 40 2 2 3:=tyf 1 underlying40
instance:TyF prog 40 3 3 3:=tyf 1 underlying40
instance:TyF prog 40 4 4 3:=tyf 1 underlying40
instance:gX prog 42 11:=o6
theorem Tryz.z42:(prog.info? 42).map (·.zero)=ς (ς (.agg #[zvI,zvI,zvI,zvI,zvI,zvI,zvI,zvI,zvI,zvI,zvI])):=by kernel_rfl
instance:TyZ prog 42 [zcI,zcI,zcI,zcI,zcI,zcI,zcI,zcI,zcI,zcI,zcI]:=⟨d5 Tryz.z42⟩
instance:TyE prog 42 [zdI,zdI,zdI,zdI,zdI,zdI,zdI,zdI,zdI,zdI,zdI]:=⟨d5 Tryz.z42⟩
instance:TyB prog 42 [(0,1),(1,1),(2,1),(3,1),(4,1),(5,5),(10,1)]:=⟨_,underlying42,λw=>by kernel_rfl⟩
instance:TyF prog 42 0 0 3:=tyf 1 underlying42
instance:TyF prog 42 1 1 3:=tyf 1 underlying42
instance:TyF prog 42 2 2 3:=tyf 1 underlying42
instance:TyF prog 42 3 3 3:=tyf 1 underlying42
instance:TyF prog 42 4 4 3:=tyf 1 underlying42
instance:TyF prog 42 5 5 40:=tyf 5 underlying42
instance:TyF prog 42 6 10 3:=tyf 1 underlying42
instance:gX prog 44 4:=o6
theorem Tryz.z44:(prog.info? 44).map (·.zero)=ς (ς (.agg #[zvI,zvI,zvN,zvI])):=by kernel_rfl
instance:TyZ prog 44 [zcI,zcI,.nil,zcI]:=⟨d5 Tryz.z44⟩
instance:TyE prog 44 [zdI,zdI,zdL,zdI]:=⟨d5 Tryz.z44⟩
instance:TyB prog 44 [(0,1),(1,1),(2,1),(3,1)]:=⟨_,underlying44,λw=>by kernel_rfl⟩
instance:TyF prog 44 0 0 3:=tyf 1 underlying44
instance:TyF prog 44 1 1 3:=tyf 1 underlying44
instance:TyF prog 44 2 2 22:=tyf 1 underlying44
instance:TyF prog 44 3 3 3:=tyf 1 underlying44
instance:gX prog 46 6:=o6
theorem Tryz.z46:(prog.info? 46).map (·.zero)=ς (ς (.agg #[zvI,zvI,zvI,zvI,zvN,zvI])):=by kernel_rfl
instance:TyZ prog 46 [zcI,zcI,zcI,zcI,.nil,zcI]:=⟨d5 Tryz.z46⟩
instance:TyE prog 46 [zdI,zdI,zdI,zdI,zdL,zdI]:=⟨d5 Tryz.z46⟩
instance:TyB prog 46 [(0,1),(1,1),(2,4)]:=⟨_,underlying46,λw=>by kernel_rfl⟩
instance:TyF prog 46 0 0 3:=tyf 1 underlying46
instance:TyF prog 46 1 1 3:=tyf 1 underlying46
instance:TyF prog 46 2 2 44:=tyf 4 underlying46
instance:gX prog 48 21:=o6
theorem Tryz.z48:(prog.info? 48).map (·.zero)=ς (ς (.agg #[zvI,zvB,zvB,zvI,zvI,zvI,zvI,zvI,zvI,zvI,zvI,zvI,zvI,zvI,zvI,zvI,zvI,zvI,zvI,zvN,zvI])):=by kernel_rfl
instance:TyZ prog 48 [zcI,zcB,zcB,zcI,zcI,zcI,zcI,zcI,zcI,zcI,zcI,zcI,zcI,zcI,zcI,zcI,zcI,zcI,zcI,.nil,zcI]:=⟨d5 Tryz.z48⟩
instance:TyE prog 48 [zdI,zdB,zdB,zdI,zdI,zdI,zdI,zdI,zdI,zdI,zdI,zdI,zdI,zdI,zdI,zdI,zdI,zdI,zdI,zdL,zdI]:=⟨d5 Tryz.z48⟩
instance:TyB prog 48 [(0,1),(1,1),(2,1),(3,1),(4,11),(15,6)]:=⟨_,underlying48,λw=>by kernel_rfl⟩
instance:TyF prog 48 0 0 3:=tyf 1 underlying48
instance:TyF prog 48 1 1 4:=tyf 1 underlying48
instance:TyF prog 48 2 2 4:=tyf 1 underlying48
instance:TyF prog 48 3 3 3:=tyf 1 underlying48
instance:TyF prog 48 4 4 42:=tyf 11 underlying48
instance:TyF prog 48 5 15 46:=tyf 6 underlying48
instance:gX prog 50 25:=o6
theorem Tryz.z50:(prog.info? 50).map (·.zero)=ς (ς (.agg #[zvI,zvI,zvI,zvN,zvI,zvB,zvB,zvI,zvI,zvI,zvI,zvI,zvI,zvI,zvI,zvI,zvI,zvI,zvI,zvI,zvI,zvI,zvI,zvN,zvI])):=by kernel_rfl
instance:TyZ prog 50 [zcI,zcI,zcI,.nil,zcI,zcB,zcB,zcI,zcI,zcI,zcI,zcI,zcI,zcI,zcI,zcI,zcI,zcI,zcI,zcI,zcI,zcI,zcI,.nil,zcI]:=⟨d5 Tryz.z50⟩
instance:TyE prog 50 [zdI,zdI,zdI,zdL,zdI,zdB,zdB,zdI,zdI,zdI,zdI,zdI,zdI,zdI,zdI,zdI,zdI,zdI,zdI,zdI,zdI,zdI,zdI,zdL,zdI]:=⟨d5 Tryz.z50⟩
instance:TyB prog 50 [(0,1),(1,1),(2,1),(3,1),(4,21)]:=⟨_,underlying50,λw=>by kernel_rfl⟩
instance:TyF prog 50 0 0 3:=tyf 1 underlying50
instance:TyF prog 50 1 1 3:=tyf 1 underlying50
instance:TyF prog 50 2 2 3:=tyf 1 underlying50
instance:TyF prog 50 3 3 22:=tyf 1 underlying50
instance:TyF prog 50 4 4 48:=tyf 21 underlying50
instance:jJ prog 56:=zn
theorem Tryz.z56:(prog.info? 56).map (·.zero)=ς (ς zvN):=by kernel_rfl
instance:TyZ prog 56 [.nil]:=⟨d5 Tryz.z56⟩
instance:TyE prog 56 [zdL]:=⟨d5 Tryz.z56⟩
instance:gX prog 59 2:=o6
theorem Tryz.z59:(prog.info? 59).map (·.zero)=ς (ς (.agg #[zvI,zvI])):=by kernel_rfl
instance:TyZ prog 59 [zcI,zcI]:=⟨d5 Tryz.z59⟩
instance:TyE prog 59 [zdI,zdI]:=⟨d5 Tryz.z59⟩
instance:TyB prog 59 [(0,1),(1,1)]:=⟨_,underlying59,λw=>by kernel_rfl⟩
instance:TyF prog 59 0 0 3:=tyf 1 underlying59
instance:TyF prog 59 1 1 3:=tyf 1 underlying59
instance:gX prog 61 4:=o6
theorem Tryz.z61:(prog.info? 61).map (·.zero)=ς (ς (.agg #[zvI,zvI,zvI,zvI])):=by kernel_rfl
instance:TyZ prog 61 [zcI,zcI,zcI,zcI]:=⟨d5 Tryz.z61⟩
instance:TyE prog 61 [zdI,zdI,zdI,zdI]:=⟨d5 Tryz.z61⟩
instance:TyB prog 61 [(0,2),(2,1),(3,1)]:=⟨_,underlying61,λw=>by kernel_rfl⟩
instance:TyF prog 61 0 0 59:=tyf 2 underlying61
instance:TyF prog 61 1 2 3:=tyf 1 underlying61
instance:TyF prog 61 2 3 3:=tyf 1 underlying61
instance:jJ prog 62:=zn
theorem Tryz.z62:(prog.info? 62).map (·.zero)=ς (ς zvN):=by kernel_rfl
instance:TyZ prog 62 [.nil]:=⟨d5 Tryz.z62⟩
instance:TyE prog 62 [zdL]:=⟨d5 Tryz.z62⟩
instance:jJ prog 63:=zn
theorem Tryz.z63:(prog.info? 63).map (·.zero)=ς (ς zvN):=by kernel_rfl
instance:TyZ prog 63 [.nil]:=⟨d5 Tryz.z63⟩
instance:TyE prog 63 [zdL]:=⟨d5 Tryz.z63⟩
instance:gX prog 65 3:=o6
theorem Tryz.z65:(prog.info? 65).map (·.zero)=ς (ς (.agg #[zvI,zvN,zvN])):=by kernel_rfl
instance:TyZ prog 65 [zcI,.nil,.nil]:=⟨d5 Tryz.z65⟩
instance:TyE prog 65 [zdI,zdL,zdL]:=⟨d5 Tryz.z65⟩
instance:TyB prog 65 [(0,1),(1,1),(2,1)]:=⟨_,underlying65,λw=>by kernel_rfl⟩
instance:TyF prog 65 0 0 3:=tyf 1 underlying65
instance:TyF prog 65 1 1 62:=tyf 1 underlying65
instance:TyF prog 65 2 2 63:=tyf 1 underlying65
instance:gX prog 67 14:=o6
theorem Tryz.z67:(prog.info? 67).map (·.zero)=ς (ς (.agg #[zvI,zvI,zvI,zvI,zvI,zvI,zvI,zvI,zvI,zvB,zvI,zvI,zvN,zvN])):=by kernel_rfl
instance:TyZ prog 67 [zcI,zcI,zcI,zcI,zcI,zcI,zcI,zcI,zcI,zcB,zcI,zcI,.nil,.nil]:=⟨d5 Tryz.z67⟩
instance:TyE prog 67 [zdI,zdI,zdI,zdI,zdI,zdI,zdI,zdI,zdI,zdB,zdI,zdI,zdL,zdL]:=⟨d5 Tryz.z67⟩
instance:TyB prog 67 [(0,4),(4,1),(5,1),(6,1),(7,1),(8,1),(9,1),(10,1),(11,3)]:=⟨_,underlying67,λw=>by kernel_rfl⟩
instance:TyF prog 67 0 0 61:=tyf 4 underlying67
instance:TyF prog 67 1 4 3:=tyf 1 underlying67
instance:TyF prog 67 2 5 3:=tyf 1 underlying67
instance:TyF prog 67 3 6 3:=tyf 1 underlying67
instance:TyF prog 67 4 7 3:=tyf 1 underlying67
instance:TyF prog 67 5 8 3:=tyf 1 underlying67
instance:TyF prog 67 6 9 4:=tyf 1 underlying67
instance:TyF prog 67 7 10 3:=tyf 1 underlying67
instance:TyF prog 67 8 11 65:=tyf 3 underlying67
instance:gX prog 82 4:=o6
theorem Tryz.z82:(prog.info? 82).map (·.zero)=ς (ς (.agg #[zvI,zvI,zvI,zvI])):=by kernel_rfl
instance:TyZ prog 82 [zcI,zcI,zcI,zcI]:=⟨d5 Tryz.z82⟩
instance:TyE prog 82 [zdI,zdI,zdI,zdI]:=⟨d5 Tryz.z82⟩
instance:TyB prog 82 [(0,2),(2,1),(3,1)]:=⟨_,underlying82,λw=>by kernel_rfl⟩
instance:TyF prog 82 0 0 59:=tyf 2 underlying82
instance:TyF prog 82 1 2 3:=tyf 1 underlying82
instance:TyF prog 82 2 3 3:=tyf 1 underlying82
instance:jJ prog 83:=zn
theorem Tryz.z83:(prog.info? 83).map (·.zero)=ς (ς zvN):=by kernel_rfl
instance:TyZ prog 83 [.nil]:=⟨d5 Tryz.z83⟩
instance:TyE prog 83 [zdL]:=⟨d5 Tryz.z83⟩
instance:gX prog 85 4:=o6
theorem Tryz.z85:(prog.info? 85).map (·.zero)=ς (ς (.agg #[zvI,zvI,zvI,zvN])):=by kernel_rfl
instance:TyZ prog 85 [zcI,zcI,zcI,.nil]:=⟨d5 Tryz.z85⟩
instance:TyE prog 85 [zdI,zdI,zdI,zdL]:=⟨d5 Tryz.z85⟩
instance:TyB prog 85 [(0,1),(1,1),(2,1),(3,1)]:=⟨_,underlying85,λw=>by kernel_rfl⟩
instance:TyF prog 85 0 0 3:=tyf 1 underlying85
instance:TyF prog 85 1 1 3:=tyf 1 underlying85
instance:TyF prog 85 2 2 3:=tyf 1 underlying85
instance:TyF prog 85 3 3 83:=tyf 1 underlying85
instance:gX prog 87 3:=o6
theorem Tryz.z87:(prog.info? 87).map (·.zero)=ς (ς (.agg #[zvI,zvI,zvI])):=by kernel_rfl
instance:TyZ prog 87 [zcI,zcI,zcI]:=⟨d5 Tryz.z87⟩
instance:TyE prog 87 [zdI,zdI,zdI]:=⟨d5 Tryz.z87⟩
instance:TyB prog 87 [(0,1),(1,1),(2,1)]:=⟨_,underlying87,λw=>by kernel_rfl⟩
instance:TyF prog 87 0 0 3:=tyf 1 underlying87
instance:TyF prog 87 1 1 3:=tyf 1 underlying87
instance:TyF prog 87 2 2 3:=tyf 1 underlying87
instance:gX prog 89 2:=o6
theorem Tryz.z89:(prog.info? 89).map (·.zero)=ς (ς (.agg #[zvI,zvN])):=by kernel_rfl
instance:TyZ prog 89 [zcI,.nil]:=⟨d5 Tryz.z89⟩
instance:TyE prog 89 [zdI,zdL]:=⟨d5 Tryz.z89⟩
instance:TyB prog 89 [(0,1),(1,1)]:=⟨_,underlying89,λw=>by kernel_rfl⟩
instance:TyF prog 89 0 0 3:=tyf 1 underlying89
instance:TyF prog 89 1 1 62:=tyf 1 underlying89
instance:gX prog 91 3:=o6
theorem Tryz.z91:(prog.info? 91).map (·.zero)=ς (ς (.agg #[zvI,zvI,zvI])):=by kernel_rfl
instance:TyZ prog 91 [zcI,zcI,zcI]:=⟨d5 Tryz.z91⟩
instance:TyE prog 91 [zdI,zdI,zdI]:=⟨d5 Tryz.z91⟩
instance:TyB prog 91 [(0,1),(1,1),(2,1)]:=⟨_,underlying91,λw=>by kernel_rfl⟩
instance:TyF prog 91 0 0 3:=tyf 1 underlying91
instance:TyF prog 91 1 1 3:=tyf 1 underlying91
instance:TyF prog 91 2 2 3:=tyf 1 underlying91
instance:gX prog 93 30:=o6
theorem Tryz.z93:(prog.info? 93).map (·.zero)=ς (ς (.agg #[zvI,zvI,zvI,zvI,zvI,zvI,zvI,zvN,zvI,zvI,zvI,zvI,zvI,zvI,zvI,zvI,zvI,zvI,zvI,zvI,zvI,zvI,zvI,zvN,zvI,zvN,zvI,zvI,zvI,zvI])):=by kernel_rfl
instance:TyZ prog 93 [zcI,zcI,zcI,zcI,zcI,zcI,zcI,.nil,zcI,zcI,zcI,zcI,zcI,zcI,zcI,zcI,zcI,zcI,zcI,zcI,zcI,zcI,zcI,.nil,zcI,.nil,zcI,zcI,zcI,zcI]:=⟨d5 Tryz.z93⟩
instance:TyE prog 93 [zdI,zdI,zdI,zdI,zdI,zdI,zdI,zdL,zdI,zdI,zdI,zdI,zdI,zdI,zdI,zdI,zdI,zdI,zdI,zdI,zdI,zdI,zdI,zdL,zdI,zdL,zdI,zdI,zdI,zdI]:=⟨d5 Tryz.z93⟩
instance:TyB prog 93 [(0,4),(4,4),(8,1),(9,5),(14,1),(15,1),(16,1),(17,1),(18,1),(19,1),(20,3),(23,1),(24,2),(26,1),(27,3)]:=⟨_,underlying93,λw=>by kernel_rfl⟩
instance:TyF prog 93 0 0 82:=tyf 4 underlying93
instance:TyF prog 93 1 4 85:=tyf 4 underlying93
instance:TyF prog 93 2 8 3:=tyf 1 underlying93
instance:TyF prog 93 3 9 40:=tyf 5 underlying93
instance:TyF prog 93 4 14 3:=tyf 1 underlying93
instance:TyF prog 93 5 15 3:=tyf 1 underlying93
instance:TyF prog 93 6 16 3:=tyf 1 underlying93
instance:TyF prog 93 7 17 3:=tyf 1 underlying93
instance:TyF prog 93 8 18 3:=tyf 1 underlying93
instance:TyF prog 93 9 19 3:=tyf 1 underlying93
instance:TyF prog 93 10 20 87:=tyf 3 underlying93
instance:TyF prog 93 11 23 63:=tyf 1 underlying93
instance:TyF prog 93 12 24 89:=tyf 2 underlying93
instance:TyF prog 93 13 26 3:=tyf 1 underlying93
instance:TyF prog 93 14 27 91:=tyf 3 underlying93
instance:gX prog 100 2:=o6
theorem Tryz.z100:(prog.info? 100).map (·.zero)=ς (ς (.agg #[zvI,zvN])):=by kernel_rfl
instance:TyZ prog 100 [zcI,.nil]:=⟨d5 Tryz.z100⟩
instance:TyE prog 100 [zdI,zdL]:=⟨d5 Tryz.z100⟩
instance:TyB prog 100 [(0,1),(1,1)]:=⟨_,underlying100,λw=>by kernel_rfl⟩
instance:TyF prog 100 0 0 3:=tyf 1 underlying100
instance:TyF prog 100 1 1 22:=tyf 1 underlying100
instance:jJ prog 105:=zn
theorem Tryz.z105:(prog.info? 105).map (·.zero)=ς (ς zvN):=by kernel_rfl
instance:TyZ prog 105 [.nil]:=⟨d5 Tryz.z105⟩
instance:TyE prog 105 [zdL]:=⟨d5 Tryz.z105⟩
instance:gX prog 107 4:=o6
theorem Tryz.z107:(prog.info? 107).map (·.zero)=ς (ς (.agg #[zvI,zvI,zvI,zvN])):=by kernel_rfl
instance:TyZ prog 107 [zcI,zcI,zcI,.nil]:=⟨d5 Tryz.z107⟩
instance:TyE prog 107 [zdI,zdI,zdI,zdL]:=⟨d5 Tryz.z107⟩
instance:TyB prog 107 [(0,1),(1,1),(2,1),(3,1)]:=⟨_,underlying107,λw=>by kernel_rfl⟩
instance:TyF prog 107 0 0 3:=tyf 1 underlying107
instance:TyF prog 107 1 1 3:=tyf 1 underlying107
instance:TyF prog 107 2 2 3:=tyf 1 underlying107
instance:TyF prog 107 3 3 105:=tyf 1 underlying107
instance:gX prog 124 3:=o6
theorem Tryz.z124:(prog.info? 124).map (·.zero)=ς (ς (.agg #[zvN,zvI,zvI])):=by kernel_rfl
instance:TyZ prog 124 [.nil,zcI,zcI]:=⟨d5 Tryz.z124⟩
instance:TyE prog 124 [zdL,zdI,zdI]:=⟨d5 Tryz.z124⟩
instance:TyB prog 124 [(0,1),(1,1),(2,1)]:=⟨_,underlying124,λw=>by kernel_rfl⟩
instance:TyF prog 124 0 0 22:=tyf 1 underlying124
instance:TyF prog 124 1 1 3:=tyf 1 underlying124
instance:TyF prog 124 2 2 3:=tyf 1 underlying124
instance:gX prog 147 1:=o6
theorem Tryz.z147:(prog.info? 147).map (·.zero)=ς (ς (.agg #[zvN])):=by kernel_rfl
instance:TyZ prog 147 [.nil]:=⟨d5 Tryz.z147⟩
instance:TyE prog 147 [zdL]:=⟨d5 Tryz.z147⟩
instance:TyB prog 147 [(0,1)]:=⟨_,underlying147,λw=>by kernel_rfl⟩
instance:TyF prog 147 0 0 83:=tyf 1 underlying147
instance:gX prog 151 1:=o6
theorem Tryz.z151:(prog.info? 151).map (·.zero)=ς (ς (.agg #[zvN])):=by kernel_rfl
instance:TyZ prog 151 [.nil]:=⟨d5 Tryz.z151⟩
instance:TyE prog 151 [zdL]:=⟨d5 Tryz.z151⟩
instance:TyB prog 151 [(0,1)]:=⟨_,underlying151,λw=>by kernel_rfl⟩
instance:TyF prog 151 0 0 22:=tyf 1 underlying151
instance:gX prog 154 2:=o6
theorem Tryz.z154:(prog.info? 154).map (·.zero)=ς (ς (.agg #[zvI,zvN])):=by kernel_rfl
instance:TyZ prog 154 [zcI,.nil]:=⟨d5 Tryz.z154⟩
instance:TyE prog 154 [zdI,zdL]:=⟨d5 Tryz.z154⟩
instance:TyB prog 154 [(0,1),(1,1)]:=⟨_,underlying154,λw=>by kernel_rfl⟩
instance:TyF prog 154 0 0 3:=tyf 1 underlying154
instance:TyF prog 154 1 1 83:=tyf 1 underlying154
instance:gX prog 165 2:=o6
theorem Tryz.z165:(prog.info? 165).map (·.zero)=ς (ς (.agg #[zvI,zvI])):=by kernel_rfl
instance:TyZ prog 165 [zcI,zcI]:=⟨d5 Tryz.z165⟩
instance:TyE prog 165 [zdI,zdI]:=⟨d5 Tryz.z165⟩
instance:TyB prog 165 [(0,1),(1,1)]:=⟨_,underlying165,λw=>by kernel_rfl⟩
instance:TyF prog 165 0 0 3:=tyf 1 underlying165
instance:TyF prog 165 1 1 3:=tyf 1 underlying165
instance:jJ prog 167:=zn
theorem Tryz.z167:(prog.info? 167).map (·.zero)=ς (ς zvN):=by kernel_rfl
instance:TyZ prog 167 [.nil]:=⟨d5 Tryz.z167⟩
instance:TyE prog 167 [zdL]:=⟨d5 Tryz.z167⟩
instance:gX prog 169 15:=o6
theorem Tryz.z169:(prog.info? 169).map (·.zero)=ς (ς (.agg #[zvI,zvI,zvI,zvI,zvI,zvI,zvI,zvI,zvI,zvB,zvI,zvI,zvN,zvN,zvN])):=by kernel_rfl
instance:TyZ prog 169 [zcI,zcI,zcI,zcI,zcI,zcI,zcI,zcI,zcI,zcB,zcI,zcI,.nil,.nil,.nil]:=⟨d5 Tryz.z169⟩
instance:TyE prog 169 [zdI,zdI,zdI,zdI,zdI,zdI,zdI,zdI,zdI,zdB,zdI,zdI,zdL,zdL,zdL]:=⟨d5 Tryz.z169⟩
instance:TyB prog 169 [(0,14),(14,1)]:=⟨_,underlying169,λw=>by kernel_rfl⟩
instance:TyF prog 169 0 0 67:=tyf 14 underlying169
instance:TyF prog 169 1 14 167:=tyf 1 underlying169
instance:jJ prog 171:=zn
theorem Tryz.z171:(prog.info? 171).map (·.zero)=ς (ς zvN):=by kernel_rfl
instance:TyZ prog 171 [.nil]:=⟨d5 Tryz.z171⟩
instance:TyE prog 171 [zdL]:=⟨d5 Tryz.z171⟩
instance:gX prog 173 36:=o6
theorem Tryz.z173:(prog.info? 173).map (·.zero)=ς (ς (.agg #[zvI,zvI,zvI,zvI,zvI,zvI,zvI,zvN,zvI,zvI,zvI,zvI,zvI,zvI,zvI,zvI,zvI,zvI,zvI,zvI,zvI,zvI,zvI,zvN,zvI,zvN,zvI,zvI,zvI,zvI,zvI,zvI,zvI,zvN,zvN,zvN])):=by kernel_rfl
instance:TyZ prog 173 [zcI,zcI,zcI,zcI,zcI,zcI,zcI,.nil,zcI,zcI,zcI,zcI,zcI,zcI,zcI,zcI,zcI,zcI,zcI,zcI,zcI,zcI,zcI,.nil,zcI,.nil,zcI,zcI,zcI,zcI,zcI,zcI,zcI,.nil,.nil,.nil]:=⟨d5 Tryz.z173⟩
instance:TyE prog 173 [zdI,zdI,zdI,zdI,zdI,zdI,zdI,zdL,zdI,zdI,zdI,zdI,zdI,zdI,zdI,zdI,zdI,zdI,zdI,zdI,zdI,zdI,zdI,zdL,zdI,zdL,zdI,zdI,zdI,zdI,zdI,zdI,zdI,zdL,zdL,zdL]:=⟨d5 Tryz.z173⟩
instance:TyB prog 173 [(0,30),(30,4),(34,1),(35,1)]:=⟨_,underlying173,λw=>by kernel_rfl⟩
instance:TyF prog 173 0 0 93:=tyf 30 underlying173
instance:TyF prog 173 1 30 107:=tyf 4 underlying173
instance:TyF prog 173 2 34 167:=tyf 1 underlying173
instance:TyF prog 173 3 35 171:=tyf 1 underlying173
instance:jJ prog 182:=zn
theorem Tryz.z182:(prog.info? 182).map (·.zero)=ς (ς zvN):=by kernel_rfl
instance:TyZ prog 182 [.nil]:=⟨d5 Tryz.z182⟩
instance:TyE prog 182 [zdL]:=⟨d5 Tryz.z182⟩
instance:gX prog 210 2:=o6
theorem Tryz.z210:(prog.info? 210).map (·.zero)=ς (ς (.agg #[zvI,zvN])):=by kernel_rfl
instance:TyZ prog 210 [zcI,.nil]:=⟨d5 Tryz.z210⟩
instance:TyE prog 210 [zdI,zdL]:=⟨d5 Tryz.z210⟩
instance:TyB prog 210 [(0,1),(1,1)]:=⟨_,underlying210,λw=>by kernel_rfl⟩
instance:TyF prog 210 0 0 3:=tyf 1 underlying210
instance:TyF prog 210 1 1 147:=tyf 1 underlying210
instance:gX prog 234 31:=o6
theorem Tryz.z234:(prog.info? 234).map (·.zero)=ς (ς (.agg #[zvI,zvI,zvI,zvI,zvI,zvI,zvI,zvN,zvI,zvI,zvI,zvI,zvI,zvI,zvI,zvI,zvI,zvI,zvI,zvI,zvI,zvI,zvI,zvN,zvI,zvN,zvI,zvI,zvI,zvI,zvN])):=by kernel_rfl
instance:TyZ prog 234 [zcI,zcI,zcI,zcI,zcI,zcI,zcI,.nil,zcI,zcI,zcI,zcI,zcI,zcI,zcI,zcI,zcI,zcI,zcI,zcI,zcI,zcI,zcI,.nil,zcI,.nil,zcI,zcI,zcI,zcI,.nil]:=⟨d5 Tryz.z234⟩
instance:TyE prog 234 [zdI,zdI,zdI,zdI,zdI,zdI,zdI,zdL,zdI,zdI,zdI,zdI,zdI,zdI,zdI,zdI,zdI,zdI,zdI,zdI,zdI,zdI,zdI,zdL,zdI,zdL,zdI,zdI,zdI,zdI,zdL]:=⟨d5 Tryz.z234⟩
instance:TyB prog 234 [(0,30),(30,1)]:=⟨_,underlying234,λw=>by kernel_rfl⟩
instance:TyF prog 234 0 0 93:=tyf 30 underlying234
instance:TyF prog 234 1 30 167:=tyf 1 underlying234
instance:gX prog 299 4:=o6
theorem Tryz.z299:(prog.info? 299).map (·.zero)=ς (ς (.agg #[zvI,zvI,zvI,zvI])):=by kernel_rfl
instance:TyZ prog 299 [zcI,zcI,zcI,zcI]:=⟨d5 Tryz.z299⟩
instance:TyE prog 299 [zdI,zdI,zdI,zdI]:=⟨d5 Tryz.z299⟩
instance:TyB prog 299 [(0,1),(1,1),(2,1),(3,1)]:=⟨_,underlying299,λw=>by kernel_rfl⟩
instance:TyF prog 299 0 0 3:=tyf 1 underlying299
instance:TyF prog 299 1 1 3:=tyf 1 underlying299
instance:TyF prog 299 2 2 3:=tyf 1 underlying299
instance:TyF prog 299 3 3 3:=tyf 1 underlying299
theorem Tryz.sh5:zt prog 5 [.i .u8]:=.int underlying5
theorem Tryz.sh22:zt prog 22 [.l [.i .u8]]:=.slice underlying22 Tryz.sh5 (by kernel_rfl) (by decide)
theorem Tryz.eqa32:EqA prog 2 32 [.i .i64,.i .i64]:=ke (k:=1) underlying32 (by kernel_rfl) (jl rfl (by decide) inferInstance (eU underlying3) (jl rfl (by decide) inferInstance (eU underlying3) (rT)))
instance:Ca prog 32 [.i .i64,.i .i64]:=⟨⟨2,by decide,Tryz.eqa32⟩,by kernel_rfl⟩
theorem Tryz.eqa40:EqA prog 2 40 [.i .i64,.i .i64,.i .i64,.i .i64,.i .i64]:=ke (k:=1) underlying40 (by kernel_rfl) (jl rfl (by decide) inferInstance (eU underlying3) (jl rfl (by decide) inferInstance (eU underlying3) (jl rfl (by decide) inferInstance (eU underlying3) (jl rfl (by decide) inferInstance (eU underlying3) (jl rfl (by decide) inferInstance (eU underlying3) (rT))))))
instance:Ca prog 40 [.i .i64,.i .i64,.i .i64,.i .i64,.i .i64]:=⟨⟨2,by decide,Tryz.eqa40⟩,by kernel_rfl⟩
theorem Tryz.eqa42:EqA prog 3 42 [.i .i64,.i .i64,.i .i64,.i .i64,.i .i64,.i .i64,.i .i64,.i .i64,.i .i64,.i .i64,.i .i64]:=ke (k:=2) underlying42 (by kernel_rfl) (jl rfl (by decide) inferInstance (eU underlying3) (jl rfl (by decide) inferInstance (eU underlying3) (jl rfl (by decide) inferInstance (eU underlying3) (jl rfl (by decide) inferInstance (eU underlying3) (jl rfl (by decide) inferInstance (eU underlying3) (Yg (n:=5) (s1:=[.i .i64,.i .i64,.i .i64,.i .i64,.i .i64]) rfl (by decide) inferInstance rfl (by decide) Tryz.eqa40 (jl rfl (by decide) inferInstance (eU underlying3) (rT))))))))
instance:Ca prog 42 [.i .i64,.i .i64,.i .i64,.i .i64,.i .i64,.i .i64,.i .i64,.i .i64,.i .i64,.i .i64,.i .i64]:=⟨⟨3,by decide,Tryz.eqa42⟩,by kernel_rfl⟩
theorem Tryz.eqa59:EqA prog 2 59 [.i .i64,.i .i64]:=ke (k:=1) underlying59 (by kernel_rfl) (jl rfl (by decide) inferInstance (eU underlying3) (jl rfl (by decide) inferInstance (eU underlying3) (rT)))
instance:Ca prog 59 [.i .i64,.i .i64]:=⟨⟨2,by decide,Tryz.eqa59⟩,by kernel_rfl⟩
theorem Tryz.eqa61:EqA prog 3 61 [.i .i64,.i .i64,.i .i64,.i .i64]:=ke (k:=2) underlying61 (by kernel_rfl) (Yg (n:=2) (s1:=[.i .i64,.i .i64]) rfl (by decide) inferInstance rfl (by decide) Tryz.eqa59 (jl rfl (by decide) inferInstance (eU underlying3) (jl rfl (by decide) inferInstance (eU underlying3) (rT))))
instance:Ca prog 61 [.i .i64,.i .i64,.i .i64,.i .i64]:=⟨⟨3,by decide,Tryz.eqa61⟩,by kernel_rfl⟩
theorem Tryz.eqa82:EqA prog 3 82 [.i .i64,.i .i64,.i .i64,.i .i64]:=ke (k:=2) underlying82 (by kernel_rfl) (Yg (n:=2) (s1:=[.i .i64,.i .i64]) rfl (by decide) inferInstance rfl (by decide) Tryz.eqa59 (jl rfl (by decide) inferInstance (eU underlying3) (jl rfl (by decide) inferInstance (eU underlying3) (rT))))
instance:Ca prog 82 [.i .i64,.i .i64,.i .i64,.i .i64]:=⟨⟨3,by decide,Tryz.eqa82⟩,by kernel_rfl⟩
theorem Tryz.eqa87:EqA prog 2 87 [.i .i64,.i .i64,.i .i64]:=ke (k:=1) underlying87 (by kernel_rfl) (jl rfl (by decide) inferInstance (eU underlying3) (jl rfl (by decide) inferInstance (eU underlying3) (jl rfl (by decide) inferInstance (eU underlying3) (rT))))
instance:Ca prog 87 [.i .i64,.i .i64,.i .i64]:=⟨⟨2,by decide,Tryz.eqa87⟩,by kernel_rfl⟩
theorem Tryz.eqa91:EqA prog 2 91 [.i .i64,.i .i64,.i .i64]:=ke (k:=1) underlying91 (by kernel_rfl) (jl rfl (by decide) inferInstance (eU underlying3) (jl rfl (by decide) inferInstance (eU underlying3) (jl rfl (by decide) inferInstance (eU underlying3) (rT))))
instance:Ca prog 91 [.i .i64,.i .i64,.i .i64]:=⟨⟨2,by decide,Tryz.eqa91⟩,by kernel_rfl⟩
theorem Tryz.eqa165:EqA prog 2 165 [.i .i64,.i .i64]:=ke (k:=1) underlying165 (by kernel_rfl) (jl rfl (by decide) inferInstance (eU underlying3) (jl rfl (by decide) inferInstance (eU underlying3) (rT)))
instance:Ca prog 165 [.i .i64,.i .i64]:=⟨⟨2,by decide,Tryz.eqa165⟩,by kernel_rfl⟩
theorem Tryz.eqa299:EqA prog 2 299 [.i .i64,.i .i64,.i .i64,.i .i64]:=ke (k:=1) underlying299 (by kernel_rfl) (jl rfl (by decide) inferInstance (eU underlying3) (jl rfl (by decide) inferInstance (eU underlying3) (jl rfl (by decide) inferInstance (eU underlying3) (jl rfl (by decide) inferInstance (eU underlying3) (rT)))))
instance:Ca prog 299 [.i .i64,.i .i64,.i .i64,.i .i64]:=⟨⟨2,by decide,Tryz.eqa299⟩,by kernel_rfl⟩
theorem Tryz.follows:prog.follows .mixedOrders=true:=by kernel_rfl
instance:eu prog 22 5 1 1:=⟨underlying22,CR Tryz.z5,by decide⟩
instance:eu prog 24 154 2 32:=⟨underlying24,CR Tryz.z154,by decide⟩
instance:eu prog 27 67 14 144:=⟨underlying27,CR Tryz.z67,by decide⟩
instance:eu prog 28 93 30 288:=⟨underlying28,CR Tryz.z93,by decide⟩
instance:eu prog 29 107 4 48:=⟨underlying29,CR Tryz.z107,by decide⟩
instance:eu prog 30 48 21 176:=⟨underlying30,CR Tryz.z48,by decide⟩
instance:eu prog 35 50 25 224:=⟨underlying35,CR Tryz.z50,by decide⟩
instance:eu prog 56 210 2 32:=⟨underlying56,CR Tryz.z210,by decide⟩
instance:eu prog 62 100 2 32:=⟨underlying62,CR Tryz.z100,by decide⟩
instance:eu prog 63 151 1 24:=⟨underlying63,CR Tryz.z151,by decide⟩
instance:eu prog 83 3 1 8:=⟨underlying83,CR Tryz.z3,by decide⟩
instance:eu prog 105 165 2 16:=⟨underlying105,CR Tryz.z165,by decide⟩
instance:eu prog 167 42 11 88:=⟨underlying167,CR Tryz.z42,by decide⟩
instance:eu prog 171 46 6 64:=⟨underlying171,CR Tryz.z46,by decide⟩
instance:eu prog 182 82 4 32:=⟨underlying182,CR Tryz.z82,by decide⟩
structure fo where
 fF:Int
 cY:List Int
 deriving DecidableEq,Inhabited
def gp(a:fo):List D:=[edI a.fF,.l (a.cY.map eI)]
def RX:fo:=⟨0,[]⟩
structure be where
 bp:List fo
 deriving DecidableEq,Inhabited
def gM(a:be):List D:=[.l (a.bp.map gp)]
def Wu:be:=⟨[]⟩
structure bQ where
 fU:Int
 fZ:Int
 deriving DecidableEq,Inhabited
def jK(a:bQ):List D:=[edI a.fU,edI a.fZ]
def tE(a:bQ):List F:=[esI a.fU,esI a.fZ]
def MS:bQ:=⟨0,0⟩
structure dH where
 eF:Int
 bP:Int
 deriving DecidableEq,Inhabited
def pC(a:dH):List D:=[edI a.eF,edI a.bP]
def A5:dH:=⟨0,0⟩
structure mw where
 ID:dH
 eV:Int
 dh:Int
 deriving DecidableEq,Inhabited
def GZ(a:mw):List D:=[edI a.ID.eF,edI a.ID.bP,edI a.eV,edI a.dh]
def Qj(a:mw):List F:=[esI a.ID.eF,esI a.ID.bP,esI a.eV,esI a.dh]
def zTUSIM:mw:=⟨A5,0,0⟩
structure ah where
 cH:Int
 bh:List Int
 deriving DecidableEq,Inhabited
def bC(a:ah):List D:=[edI a.cH,.l (a.bh.map eU8)]
def ec(a:ah):List F:=[esI a.cH,.l 5 1 (a.bh.map eU8) a.bh.length]
def b7:ah:=⟨0,[]⟩
structure bI where
 bh:List Int
 deriving DecidableEq,Inhabited
def eT(a:bI):List D:=[.l (a.bh.map eU8)]
structure a9 where
 bw:Int
 aV:List ah
 bv:List bI
 deriving DecidableEq,Inhabited
def iJ(a:a9):List D:=[edI a.bw,.l (a.aV.map bC),.l (a.bv.map eT)]
def c7(a:a9):List F:=[esI a.bw,.l 100 2 (a.aV.map bC) a.aV.length,.l 151 1 (a.bv.map eT) a.bv.length]
def ey:a9:=⟨0,[],[]⟩
structure aA where
 dq:mw
 aX:Int
 aS:Int
 ae:Int
 aZ:Int
 aK:Int
 bT:Bool
 dy:Int
 bm:a9
 deriving DecidableEq,Inhabited
def dR(a:aA):List D:=[edI a.dq.ID.eF,edI a.dq.ID.bP,edI a.dq.eV,edI a.dq.dh,edI a.aX,edI a.aS,edI a.ae,edI a.aZ,edI a.aK,.b a.bT,edI a.dy,edI a.bm.bw,.l (a.bm.aV.map bC),.l (a.bm.bv.map eT)]
def mB(a:aA):List F:=[esI a.dq.ID.eF,esI a.dq.ID.bP,esI a.dq.eV,esI a.dq.dh,esI a.aX,esI a.aS,esI a.ae,esI a.aZ,esI a.aK,.s (.b a.bT),esI a.dy,esI a.bm.bw,.l 100 2 (a.bm.aV.map bC) a.bm.aV.length,.l 151 1 (a.bm.bv.map eT) a.bm.bv.length]
def IV:aA:=⟨zTUSIM,0,0,0,0,0,η,0,ey⟩
structure a8 where
 ID:dH
 eV:Int
 cH:Int
 deriving DecidableEq,Inhabited
def eB(a:a8):List D:=[edI a.ID.eF,edI a.ID.bP,edI a.eV,edI a.cH]
def uP(a:a8):List F:=[esI a.ID.eF,esI a.ID.bP,esI a.eV,esI a.cH]
def CT:a8:=⟨A5,0,0⟩
structure bR where
 m9:Int
 m0:Int
 d4:Int
 bU:List Int
 deriving DecidableEq,Inhabited
def mA(a:bR):List D:=[edI a.m9,edI a.m0,edI a.d4,.l (a.bU.map eI)]
def pF(a:bR):List F:=[esI a.m9,esI a.m0,esI a.d4,.l 3 1 (a.bU.map eI) a.bU.length]
def IW:bR:=⟨0,0,0,[]⟩
structure ct where
 eJ:Int
 gD:Int
 kr:Int
 vB:Int
 eV:Int
 deriving DecidableEq,Inhabited
def ni(a:ct):List D:=[edI a.eJ,edI a.gD,edI a.kr,edI a.vB,edI a.eV]
def kV(a:ct):List F:=[esI a.eJ,esI a.gD,esI a.kr,esI a.vB,esI a.eV]
def cO:ct:=⟨0,0,0,0,0⟩
structure cm where
 fF:Int
 dJ:Int
 dy:Int
 deriving DecidableEq,Inhabited
def rS(a:cm):List D:=[edI a.fF,edI a.dJ,edI a.dy]
def nY(a:cm):List F:=[esI a.fF,esI a.dJ,esI a.dy]
def eE:cm:=⟨0,0,0⟩
structure bk where
 bw:Int
 aJ:List ah
 deriving DecidableEq,Inhabited
def gY(a:bk):List D:=[edI a.bw,.l (a.aJ.map bC)]
def eL(a:bk):List F:=[esI a.bw,.l 100 2 (a.aJ.map bC) a.aJ.length]
def ui:bk:=⟨0,[]⟩
structure cW where
 aO:Int
 cG:Int
 d6:Int
 deriving DecidableEq,Inhabited
def oH(a:cW):List D:=[edI a.aO,edI a.cG,edI a.d6]
def Bf(a:cW):List F:=[esI a.aO,esI a.cG,esI a.d6]
def Uo:cW:=⟨0,0,0⟩
structure ag where
 bD:a8
 gI:bR
 aX:Int
 aV:ct
 bA:Int
 ae:Int
 aZ:Int
 aK:Int
 aS:Int
 cP:Int
 et:cm
 aC:List bI
 ax:bk
 cF:Int
 bG:cW
 deriving DecidableEq,Inhabited
def cr(a:ag):List D:=[edI a.bD.ID.eF,edI a.bD.ID.bP,edI a.bD.eV,edI a.bD.cH,edI a.gI.m9,edI a.gI.m0,edI a.gI.d4,.l (a.gI.bU.map eI),edI a.aX,edI a.aV.eJ,edI a.aV.gD,edI a.aV.kr,edI a.aV.vB,edI a.aV.eV,edI a.bA,edI a.ae,edI a.aZ,edI a.aK,edI a.aS,edI a.cP,edI a.et.fF,edI a.et.dJ,edI a.et.dy,.l (a.aC.map eT),edI a.ax.bw,.l (a.ax.aJ.map bC),edI a.cF,edI a.bG.aO,edI a.bG.cG,edI a.bG.d6]
def dO(a:ag):List F:=[esI a.bD.ID.eF,esI a.bD.ID.bP,esI a.bD.eV,esI a.bD.cH,esI a.gI.m9,esI a.gI.m0,esI a.gI.d4,.l 3 1 (a.gI.bU.map eI) a.gI.bU.length,esI a.aX,esI a.aV.eJ,esI a.aV.gD,esI a.aV.kr,esI a.aV.vB,esI a.aV.eV,esI a.bA,esI a.ae,esI a.aZ,esI a.aK,esI a.aS,esI a.cP,esI a.et.fF,esI a.et.dJ,esI a.et.dy,.l 151 1 (a.aC.map eT) a.aC.length,esI a.ax.bw,.l 100 2 (a.ax.aJ.map bC) a.ax.aJ.length,esI a.cF,esI a.bG.aO,esI a.bG.cG,esI a.bG.d6]
def BM:ag:=⟨CT,IW,0,cO,0,0,0,0,0,0,eE,[],ui,0,Uo⟩
structure aU where
 aO:Int
 eo:Int
 deriving DecidableEq,Inhabited
def ci(a:aU):List D:=[edI a.aO,edI a.eo]
def dQ:aU:=⟨0,0⟩
structure av where
 iA:Int
 bL:Int
 d9:Int
 aD:List aU
 deriving DecidableEq,Inhabited
def dw(a:av):List D:=[edI a.iA,edI a.bL,edI a.d9,.l (a.aD.map ci)]
def dB(a:av):List F:=[esI a.iA,esI a.bL,esI a.d9,.l 165 2 (a.aD.map ci) a.aD.length]
def BL:av:=⟨0,0,0,[]⟩
structure aG where
 bb:Int
 aS:Int
 ae:Int
 aK:Int
 bP:Int
 bZ:ct
 kr:Int
 deriving DecidableEq,Inhabited
def dE(a:aG):List D:=[edI a.bb,edI a.aS,edI a.ae,edI a.aK,edI a.bP,edI a.bZ.eJ,edI a.bZ.gD,edI a.bZ.kr,edI a.bZ.vB,edI a.bZ.eV,edI a.kr]
def ij(a:aG):List F:=[esI a.bb,esI a.aS,esI a.ae,esI a.aK,esI a.bP,esI a.bZ.eJ,esI a.bZ.gD,esI a.bZ.kr,esI a.bZ.vB,esI a.bZ.eV,esI a.kr]
def fH:aG:=⟨0,0,0,0,0,cO,0⟩
structure bF where
 di:Int
 gR:Int
 bh:List Int
 kr:Int
 deriving DecidableEq,Inhabited
def eZ(a:bF):List D:=[edI a.di,edI a.gR,.l (a.bh.map eU8),edI a.kr]
def rj(a:bF):List F:=[esI a.di,esI a.gR,.l 5 1 (a.bh.map eU8) a.bh.length,esI a.kr]
def nL:bF:=⟨0,0,[],0⟩
structure aF where
 ae:Int
 aK:Int
 bO:bF
 deriving DecidableEq,Inhabited
def df(a:aF):List D:=[edI a.ae,edI a.aK,edI a.bO.di,edI a.bO.gR,.l (a.bO.bh.map eU8),edI a.bO.kr]
def kf(a:aF):List F:=[esI a.ae,esI a.aK,esI a.bO.di,esI a.bO.gR,.l 5 1 (a.bO.bh.map eU8) a.bO.bh.length,esI a.bO.kr]
def gm:aF:=⟨0,0,nL⟩
structure bg where
 aY:Int
 dF:Bool
 cg:Bool
 aS:Int
 aP:aG
 bV:aF
 deriving DecidableEq,Inhabited
def fG(a:bg):List D:=[edI a.aY,.b a.dF,.b a.cg,edI a.aS,edI a.aP.bb,edI a.aP.aS,edI a.aP.ae,edI a.aP.aK,edI a.aP.bP,edI a.aP.bZ.eJ,edI a.aP.bZ.gD,edI a.aP.bZ.kr,edI a.aP.bZ.vB,edI a.aP.bZ.eV,edI a.aP.kr,edI a.bV.ae,edI a.bV.aK,edI a.bV.bO.di,edI a.bV.bO.gR,.l (a.bV.bO.bh.map eU8),edI a.bV.bO.kr]
def pD(a:bg):List F:=[esI a.aY,.s (.b a.dF),.s (.b a.cg),esI a.aS,esI a.aP.bb,esI a.aP.aS,esI a.aP.ae,esI a.aP.aK,esI a.aP.bP,esI a.aP.bZ.eJ,esI a.aP.bZ.gD,esI a.aP.bZ.kr,esI a.aP.bZ.vB,esI a.aP.bZ.eV,esI a.aP.kr,esI a.bV.ae,esI a.bV.aK,esI a.bV.bO.di,esI a.bV.bO.gR,.l 5 1 (a.bV.bO.bh.map eU8) a.bV.bO.bh.length,esI a.bV.bO.kr]
def fT:bg:=⟨0,η,η,0,fH,gm⟩
structure ab where
 cp:be
 aj:List aA
 an:List ag
 aT:List av
 aH:List bg
 bH:Int
 fg:bQ
 iS:Int
 Lost:Int
 deriving DecidableEq,Inhabited
def eb(a:ab):List D:=[.l (a.cp.bp.map gp),.l (a.aj.map dR),.l (a.an.map cr),.l (a.aT.map dw),.l (a.aH.map fG),edI a.bH,edI a.fg.fU,edI a.fg.fZ,edI a.iS,edI a.Lost]
def b9(a:ab):List F:=[.l 154 2 (a.cp.bp.map gp) a.cp.bp.length,.l 67 14 (a.aj.map dR) a.aj.length,.l 93 30 (a.an.map cr) a.an.length,.l 107 4 (a.aT.map dw) a.aT.length,.l 48 21 (a.aH.map fG) a.aH.length,esI a.bH,esI a.fg.fU,esI a.fg.fZ,esI a.iS,esI a.Lost]
def gQ:ab:=⟨Wu,[],[],[],[],0,MS,0,0⟩
structure cU where
 bb:Int
 cq:Int
 aS:Int
 bh:List Int
 b8:bg
 deriving DecidableEq,Inhabited
def Bd(a:cU):List D:=[edI a.bb,edI a.cq,edI a.aS,.l (a.bh.map eU8),edI a.b8.aY,.b a.b8.dF,.b a.b8.cg,edI a.b8.aS,edI a.b8.aP.bb,edI a.b8.aP.aS,edI a.b8.aP.ae,edI a.b8.aP.aK,edI a.b8.aP.bP,edI a.b8.aP.bZ.eJ,edI a.b8.aP.bZ.gD,edI a.b8.aP.bZ.kr,edI a.b8.aP.bZ.vB,edI a.b8.aP.bZ.eV,edI a.b8.aP.kr,edI a.b8.bV.ae,edI a.b8.bV.aK,edI a.b8.bV.bO.di,edI a.b8.bV.bO.gR,.l (a.b8.bV.bO.bh.map eU8),edI a.b8.bV.bO.kr]
def nj(a:cU):List F:=[esI a.bb,esI a.cq,esI a.aS,.l 5 1 (a.bh.map eU8) a.bh.length,esI a.b8.aY,.s (.b a.b8.dF),.s (.b a.b8.cg),esI a.b8.aS,esI a.b8.aP.bb,esI a.b8.aP.aS,esI a.b8.aP.ae,esI a.b8.aP.aK,esI a.b8.aP.bP,esI a.b8.aP.bZ.eJ,esI a.b8.aP.bZ.gD,esI a.b8.aP.bZ.kr,esI a.b8.aP.bZ.vB,esI a.b8.aP.bZ.eV,esI a.b8.aP.kr,esI a.b8.bV.ae,esI a.b8.bV.aK,esI a.b8.bV.bO.di,esI a.b8.bV.bO.gR,.l 5 1 (a.b8.bV.bO.bh.map eU8) a.b8.bV.bO.bh.length,esI a.b8.bV.bO.kr]
def fk:cU:=⟨0,0,0,[],fT⟩
structure bu where
 fb:List Int
 fi:Int
 fh:Int
 deriving DecidableEq,Inhabited
def acy(a:bu):List D:=[.l (a.fb.map eU8),edI a.fi,edI a.fh]
def cB(a:bu):List F:=[.l 5 1 (a.fb.map eU8) a.fb.length,esI a.fi,esI a.fh]
structure eG where
 Steps:List Int
 deriving DecidableEq,Inhabited
def xy(a:eG):List D:=[.l (a.Steps.map eI)]
structure bi where
 aY:aA
 bY:List aG
 deriving DecidableEq,Inhabited
def dr(a:bi):List F:=[esI a.aY.dq.ID.eF,esI a.aY.dq.ID.bP,esI a.aY.dq.eV,esI a.aY.dq.dh,esI a.aY.aX,esI a.aY.aS,esI a.aY.ae,esI a.aY.aZ,esI a.aY.aK,.s (.b a.aY.bT),esI a.aY.dy,esI a.aY.bm.bw,.l 100 2 (a.aY.bm.aV.map bC) a.aY.bm.aV.length,.l 151 1 (a.aY.bm.bv.map eT) a.aY.bm.bv.length,.l 42 11 (a.bY.map dE) a.bY.length]
structure bM where
 aM:ag
 cT:av
 fj:List aG
 bV:List aF
 deriving DecidableEq,Inhabited
def cd(a:bM):List F:=[esI a.aM.bD.ID.eF,esI a.aM.bD.ID.bP,esI a.aM.bD.eV,esI a.aM.bD.cH,esI a.aM.gI.m9,esI a.aM.gI.m0,esI a.aM.gI.d4,.l 3 1 (a.aM.gI.bU.map eI) a.aM.gI.bU.length,esI a.aM.aX,esI a.aM.aV.eJ,esI a.aM.aV.gD,esI a.aM.aV.kr,esI a.aM.aV.vB,esI a.aM.aV.eV,esI a.aM.bA,esI a.aM.ae,esI a.aM.aZ,esI a.aM.aK,esI a.aM.aS,esI a.aM.cP,esI a.aM.et.fF,esI a.aM.et.dJ,esI a.aM.et.dy,.l 151 1 (a.aM.aC.map eT) a.aM.aC.length,esI a.aM.ax.bw,.l 100 2 (a.aM.ax.aJ.map bC) a.aM.ax.aJ.length,esI a.aM.cF,esI a.aM.bG.aO,esI a.aM.bG.cG,esI a.aM.bG.d6,esI a.cT.iA,esI a.cT.bL,esI a.cT.d9,.l 165 2 (a.cT.aD.map ci) a.cT.aD.length,.l 42 11 (a.fj.map dE) a.fj.length,.l 46 6 (a.bV.map df) a.bV.length]
def cz:bM:=⟨BM,BL,[],[]⟩
structure kc where
 ae:Int
 Path:eG
 deriving DecidableEq,Inhabited
def z6(a:kc):List D:=[edI a.ae,.l (a.Path.Steps.map eI)]
structure bJ where
 aM:ag
 bY:List aG
 deriving DecidableEq,Inhabited
def ev(a:bJ):List F:=[esI a.aM.bD.ID.eF,esI a.aM.bD.ID.bP,esI a.aM.bD.eV,esI a.aM.bD.cH,esI a.aM.gI.m9,esI a.aM.gI.m0,esI a.aM.gI.d4,.l 3 1 (a.aM.gI.bU.map eI) a.aM.gI.bU.length,esI a.aM.aX,esI a.aM.aV.eJ,esI a.aM.aV.gD,esI a.aM.aV.kr,esI a.aM.aV.vB,esI a.aM.aV.eV,esI a.aM.bA,esI a.aM.ae,esI a.aM.aZ,esI a.aM.aK,esI a.aM.aS,esI a.aM.cP,esI a.aM.et.fF,esI a.aM.et.dJ,esI a.aM.et.dy,.l 151 1 (a.aM.aC.map eT) a.aM.aC.length,esI a.aM.ax.bw,.l 100 2 (a.aM.ax.aJ.map bC) a.aM.ax.aJ.length,esI a.aM.cF,esI a.aM.bG.aO,esI a.aM.bG.cG,esI a.aM.bG.d6,.l 42 11 (a.bY.map dE) a.bY.length]
structure gU where
 Code:Int
 vB:Int
 yg:Int
 Xj:Int
 deriving DecidableEq,Inhabited
def uO(a:gU):List F:=[esI a.Code,esI a.vB,esI a.yg,esI a.Xj]
def jy:gU:=⟨0,0,0,0⟩
theorem Try.follows:prog.follows .mixedOrders=true:=Tryz.follows
end Go.AM
