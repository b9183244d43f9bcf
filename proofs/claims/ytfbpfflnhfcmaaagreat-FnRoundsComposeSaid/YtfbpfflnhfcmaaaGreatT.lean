/- A part. -/
import Derived.Test.YtfbpfflnhfcmaaaGreatE3
import Derived.Test.YtfbpfflnhfcmaaaGreatProg
set_option linter.unusedVariables false
set_option linter.unusedSimpArgs false
open Option renaming some->ς,none->ξ
open Bool renaming true->ζ,false->η
open True renaming intro->θ
namespace Go.AM
open Go.Proofs
open Tryz
variable{P:Program}{t:TypeId}{n:Nat}
theorem N2(h:(P.info? t).map (·.size)=ς n):∃i,P.info? t=ς i/\i.size=n:=by
 cases hi:P.info? t with
 |none=>simp[hi] at h
 |some i=>simp[hi] at h;exact⟨i,rfl,h⟩
theorem VG{z:Value}(h:(P.info? t).map (·.zero)=ς (ς z)):∃i,P.info? t=ς i/\i.zero=ς z:=by
 cases hi:P.info? t with
 |none=>simp[hi] at h
 |some i=>simp[hi] at h;exact⟨i,rfl,h⟩
theorem info_s{z:Value}{b:Nat}(h:(P.info? t).map (λi=>(i.size,i.bytes,i.zero))=ς (n,b,ς z))(hz:z.cells.size=n):∃i z,P.info? t=ς i/\i.size=n/\i.bytes=b/\i.zero=ς z/\z.cells.size=n:=by
 cases hi:P.info? t with
 |none=>simp[hi] at h
 |some i=>simp[hi] at h;exact⟨i,z,rfl,h.1,h.2.1,h.2.2,hz⟩
theorem info_f(h:(P.info? t).map (·.size)=ς n)(hn:n≠0):∃i,P.info? t=ς i/\i.size≠0:=by
 cases hi:P.info? t with
 |none=>simp[hi] at h
 |some i=>simp[hi] at h;exact⟨i,rfl,by omega⟩
theorem d6{z:Value}{Q:Value->Prop}(h:(P.info? t).map (·.zero)=ς (ς z))(q:Q z:=by exact rfl):∃i z,P.info? t=ς i/\i.zero=ς z/\Q z:=by
 obtain⟨i,h1,h2⟩:=VG h
 exact⟨i,_,h1,h2,q⟩
theorem tynn(h:(P.info? t).map (·.size)=ς n:=by kernel_rfl):∃i,P.info? t=ς i/\i.size=n:=N2 h
theorem tyff(n:Nat)(h:(P.info? t).map (·.size)=ς n:=by kernel_rfl)(hn:n≠0:=by decide):∃i,P.info? t=ς i/\i.size≠0:=info_f h hn
theorem BF{z:Value}{b:Nat}(h1:(P.info? t).map (·.zero)=ς (ς z))(h:(P.info? t).map (λi=>(i.size,i.bytes))=ς (n,b):=by kernel_rfl)(hz:z.cells.size=n:=by exact rfl):∃i z,P.info? t=ς i/\i.size=n/\i.bytes=b/\i.zero=ς z/\z.cells.size=n:=by
 obtain⟨i,h2,h3⟩:=VG h1
 simp[h2] at h
 exact⟨i,z,h2,h.1,h.2,h3,hz⟩
theorem tyf{t f off ft:Nat}{fs:Array Field}{fd:Field}(n:Nat)(hu:P.underlying t=ς (.struct fs))(h1:fs[f]?=ς fd:=by exact rfl)(h2:fd.offset=off:=by exact rfl)(h3:fd.type=ft:=by exact rfl)(h4:(P.info? ft).map (·.size)=ς n:=by kernel_rfl)(hn:n≠0:=by decide):TyF P t f off ft:=⟨_,_,hu,h1,h2,h3,tyff n h4 hn⟩
theorem og{t:Nat}(h:∀w,(isAgg t).run P w= .ok ζ w:=by intro w;kernel_rfl)(hn:(P.info? t).map (·.size)=ς n:=by kernel_rfl):gE P t n:=⟨h,N2 hn⟩
theorem xV{t:Nat}(h:∀w,(isAgg t).run P w= .ok η w:=by intro w;kernel_rfl)(hn:(P.info? t).map (·.size)=ς 1:=by kernel_rfl):jf P t:=⟨h,N2 hn⟩
instance {P:Program} {t n:Nat} [h:gE P t n]:TyN P t n:=⟨h.n⟩
instance {P:Program} {t:Nat} [h:jf P t]:TyN P t 1:=⟨h.n⟩
abbrev zvI:Value:=.int .i64 0
abbrev zvB:Value:=.bool η
abbrev zvN:Value:=.slice ξ 0 0
abbrev zcI:C:=.d η (.i .i64 0)
abbrev zcB:C:=.d η (.b η)
abbrev zdI:D:=.i .i64 0
abbrev zdB:D:=.b η
abbrev zdL:D:=.l []
abbrev edI(n:Int):D:=.i .i64 n
abbrev esI(n:Int):F:=.s (.i .i64 n)
instance:jf prog 3:=xV
instance:TyU prog 3 (.int .i64):=⟨underlying3⟩
theorem Tryz.z3:(prog.info? 3).map (·.zero)=ς (ς zvI):=by kernel_rfl
instance:TyZ prog 3 [zcI]:=⟨d6 Tryz.z3⟩
instance:TyE prog 3 [zdI]:=⟨d6 Tryz.z3⟩
instance:jf prog 4:=xV
instance:TyU prog 4 (.bool):=⟨underlying4⟩
theorem Tryz.z4:(prog.info? 4).map (·.zero)=ς (ς zvB):=by kernel_rfl
instance:TyZ prog 4 [zcB]:=⟨d6 Tryz.z4⟩
instance:TyE prog 4 [zdB]:=⟨d6 Tryz.z4⟩
instance:jf prog 5:=xV
instance:TyU prog 5 (.int .u8):=⟨underlying5⟩
theorem Tryz.z5:(prog.info? 5).map (·.zero)=ς (ς (.int .u8 0)):=by kernel_rfl
instance:TyZ prog 5 [.d η (.i .u8 0)]:=⟨d6 Tryz.z5⟩
instance:TyE prog 5 [.i .u8 0]:=⟨d6 Tryz.z5⟩
instance:jf prog 9:=xV
instance:TyU prog 9 (.string):=⟨underlying9⟩
theorem Tryz.z9:(prog.info? 9).map (·.zero)=ς (ς (.string ⟨#[]⟩)):=by kernel_rfl
instance:TyZ prog 9 [.d η (.str ⟨#[]⟩)]:=⟨d6 Tryz.z9⟩
instance:TyE prog 9 [.str ⟨#[]⟩]:=⟨d6 Tryz.z9⟩
instance:jf prog 22:=xV
theorem Tryz.z22:(prog.info? 22).map (·.zero)=ς (ς zvN):=by kernel_rfl
instance:TyZ prog 22 [.nil]:=⟨d6 Tryz.z22⟩
instance:TyE prog 22 [zdL]:=⟨d6 Tryz.z22⟩
instance:jf prog 24:=xV
theorem Tryz.z24:(prog.info? 24).map (·.zero)=ς (ς zvN):=by kernel_rfl
instance:TyZ prog 24 [.nil]:=⟨d6 Tryz.z24⟩
instance:TyE prog 24 [zdL]:=⟨d6 Tryz.z24⟩
instance:gE prog 26 1:=og
theorem Tryz.z26:(prog.info? 26).map (·.zero)=ς (ς (.agg #[zvN])):=by kernel_rfl
instance:TyZ prog 26 [.nil]:=⟨d6 Tryz.z26⟩
instance:TyE prog 26 [zdL]:=⟨d6 Tryz.z26⟩
instance:TyB prog 26 [(0,1)]:=⟨_,underlying26,λw=>by kernel_rfl⟩
instance:TyF prog 26 0 0 24:=tyf 1 underlying26
instance:jf prog 27:=xV
theorem Tryz.z27:(prog.info? 27).map (·.zero)=ς (ς zvN):=by kernel_rfl
instance:TyZ prog 27 [.nil]:=⟨d6 Tryz.z27⟩
instance:TyE prog 27 [zdL]:=⟨d6 Tryz.z27⟩
instance:jf prog 28:=xV
theorem Tryz.z28:(prog.info? 28).map (·.zero)=ς (ς zvN):=by kernel_rfl
instance:TyZ prog 28 [.nil]:=⟨d6 Tryz.z28⟩
instance:TyE prog 28 [zdL]:=⟨d6 Tryz.z28⟩
instance:jf prog 29:=xV
theorem Tryz.z29:(prog.info? 29).map (·.zero)=ς (ς zvN):=by kernel_rfl
instance:TyZ prog 29 [.nil]:=⟨d6 Tryz.z29⟩
instance:TyE prog 29 [zdL]:=⟨d6 Tryz.z29⟩
instance:jf prog 30:=xV
theorem Tryz.z30:(prog.info? 30).map (·.zero)=ς (ς zvN):=by kernel_rfl
instance:TyZ prog 30 [.nil]:=⟨d6 Tryz.z30⟩
instance:TyE prog 30 [zdL]:=⟨d6 Tryz.z30⟩
instance:gE prog 32 2:=og
theorem Tryz.z32:(prog.info? 32).map (·.zero)=ς (ς (.agg #[zvI,zvI])):=by kernel_rfl
instance:TyZ prog 32 [zcI,zcI]:=⟨d6 Tryz.z32⟩
instance:TyE prog 32 [zdI,zdI]:=⟨d6 Tryz.z32⟩
instance:TyB prog 32 [(0,1),(1,1)]:=⟨_,underlying32,λw=>by kernel_rfl⟩
instance:TyF prog 32 0 0 3:=tyf 1 underlying32
instance:TyF prog 32 1 1 3:=tyf 1 underlying32
instance:gE prog 34 10:=og
theorem Tryz.z34:(prog.info? 34).map (·.zero)=ς (ς (.agg #[zvN,zvN,zvN,zvN,zvN,zvI,zvI,zvI,zvI,zvI])):=by kernel_rfl
instance:TyZ prog 34 [.nil,.nil,.nil,.nil,.nil,zcI,zcI,zcI,zcI,zcI]:=⟨d6 Tryz.z34⟩
instance:TyE prog 34 [zdL,zdL,zdL,zdL,zdL,zdI,zdI,zdI,zdI,zdI]:=⟨d6 Tryz.z34⟩
instance:TyB prog 34 [(0,1),(1,1),(2,1),(3,1),(4,1),(5,1),(6,2),(8,1),(9,1)]:=⟨_,underlying34,λw=>by kernel_rfl⟩
instance:TyF prog 34 0 0 26:=tyf 1 underlying34
instance:TyF prog 34 1 1 27:=tyf 1 underlying34
instance:TyF prog 34 2 2 28:=tyf 1 underlying34
instance:TyF prog 34 3 3 29:=tyf 1 underlying34
instance:TyF prog 34 4 4 30:=tyf 1 underlying34
instance:TyF prog 34 5 5 3:=tyf 1 underlying34
instance:TyF prog 34 6 6 32:=tyf 2 underlying34
instance:TyF prog 34 7 8 3:=tyf 1 underlying34
instance:TyF prog 34 8 9 3:=tyf 1 underlying34
instance:jf prog 35:=xV
theorem Tryz.z35:(prog.info? 35).map (·.zero)=ς (ς zvN):=by kernel_rfl
instance:TyZ prog 35 [.nil]:=⟨d6 Tryz.z35⟩
instance:TyE prog 35 [zdL]:=⟨d6 Tryz.z35⟩
instance:gE prog 40 5:=og
theorem Tryz.z40:(prog.info? 40).map (·.zero)=ς (ς (.agg #[zvI,zvI,zvI,zvI,zvI])):=by kernel_rfl
instance:TyZ prog 40 [zcI,zcI,zcI,zcI,zcI]:=⟨d6 Tryz.z40⟩
instance:TyE prog 40 [zdI,zdI,zdI,zdI,zdI]:=⟨d6 Tryz.z40⟩
instance:TyB prog 40 [(0,1),(1,1),(2,1),(3,1),(4,1)]:=⟨_,underlying40,λw=>by kernel_rfl⟩
instance:TyF prog 40 0 0 3:=tyf 1 underlying40
instance:TyF prog 40 1 1 3:=tyf 1 underlying40
instance:TyF prog 40 2 2 3:=tyf 1 underlying40
instance:TyF prog 40 3 3 3:=tyf 1 underlying40
instance:TyF prog 40 4 4 3:=tyf 1 underlying40
instance:gE prog 42 11:=og
theorem Tryz.z42:(prog.info? 42).map (·.zero)=ς (ς (.agg #[zvI,zvI,zvI,zvI,zvI,zvI,zvI,zvI,zvI,zvI,zvI])):=by kernel_rfl
instance:TyZ prog 42 [zcI,zcI,zcI,zcI,zcI,zcI,zcI,zcI,zcI,zcI,zcI]:=⟨d6 Tryz.z42⟩
instance:TyE prog 42 [zdI,zdI,zdI,zdI,zdI,zdI,zdI,zdI,zdI,zdI,zdI]:=⟨d6 Tryz.z42⟩
instance:TyB prog 42 [(0,1),(1,1),(2,1),(3,1),(4,1),(5,5),(10,1)]:=⟨_,underlying42,λw=>by kernel_rfl⟩
instance:TyF prog 42 0 0 3:=tyf 1 underlying42
instance:TyF prog 42 1 1 3:=tyf 1 underlying42
instance:TyF prog 42 2 2 3:=tyf 1 underlying42
instance:TyF prog 42 3 3 3:=tyf 1 underlying42
instance:TyF prog 42 4 4 3:=tyf 1 underlying42
instance:TyF prog 42 5 5 40:=tyf 5 underlying42
instance:TyF prog 42 6 10 3:=tyf 1 underlying42
instance:gE prog 44 4:=og
theorem Tryz.z44:(prog.info? 44).map (·.zero)=ς (ς (.agg #[zvI,zvI,zvN,zvI])):=by kernel_rfl
instance:TyZ prog 44 [zcI,zcI,.nil,zcI]:=⟨d6 Tryz.z44⟩
instance:TyE prog 44 [zdI,zdI,zdL,zdI]:=⟨d6 Tryz.z44⟩
instance:TyB prog 44 [(0,1),(1,1),(2,1),(3,1)]:=⟨_,underlying44,λw=>by kernel_rfl⟩
instance:TyF prog 44 0 0 3:=tyf 1 underlying44
instance:TyF prog 44 1 1 3:=tyf 1 underlying44
instance:TyF prog 44 2 2 22:=tyf 1 underlying44
instance:TyF prog 44 3 3 3:=tyf 1 underlying44
instance:gE prog 46 6:=og
theorem Tryz.z46:(prog.info? 46).map (·.zero)=ς (ς (.agg #[zvI,zvI,zvI,zvI,zvN,zvI])):=by kernel_rfl
instance:TyZ prog 46 [zcI,zcI,zcI,zcI,.nil,zcI]:=⟨d6 Tryz.z46⟩
instance:TyE prog 46 [zdI,zdI,zdI,zdI,zdL,zdI]:=⟨d6 Tryz.z46⟩
instance:TyB prog 46 [(0,1),(1,1),(2,4)]:=⟨_,underlying46,λw=>by kernel_rfl⟩
instance:TyF prog 46 0 0 3:=tyf 1 underlying46
instance:TyF prog 46 1 1 3:=tyf 1 underlying46
instance:TyF prog 46 2 2 44:=tyf 4 underlying46
instance:gE prog 48 21:=og
theorem Tryz.z48:(prog.info? 48).map (·.zero)=ς (ς (.agg #[zvI,zvB,zvB,zvI,zvI,zvI,zvI,zvI,zvI,zvI,zvI,zvI,zvI,zvI,zvI,zvI,zvI,zvI,zvI,zvN,zvI])):=by kernel_rfl
instance:TyZ prog 48 [zcI,zcB,zcB,zcI,zcI,zcI,zcI,zcI,zcI,zcI,zcI,zcI,zcI,zcI,zcI,zcI,zcI,zcI,zcI,.nil,zcI]:=⟨d6 Tryz.z48⟩
instance:TyE prog 48 [zdI,zdB,zdB,zdI,zdI,zdI,zdI,zdI,zdI,zdI,zdI,zdI,zdI,zdI,zdI,zdI,zdI,zdI,zdI,zdL,zdI]:=⟨d6 Tryz.z48⟩
instance:TyB prog 48 [(0,1),(1,1),(2,1),(3,1),(4,11),(15,6)]:=⟨_,underlying48,λw=>by kernel_rfl⟩
instance:TyF prog 48 0 0 3:=tyf 1 underlying48
instance:TyF prog 48 1 1 4:=tyf 1 underlying48
instance:TyF prog 48 2 2 4:=tyf 1 underlying48
instance:TyF prog 48 3 3 3:=tyf 1 underlying48
instance:TyF prog 48 4 4 42:=tyf 11 underlying48
instance:TyF prog 48 5 15 46:=tyf 6 underlying48
instance:gE prog 50 25:=og
theorem Tryz.z50:(prog.info? 50).map (·.zero)=ς (ς (.agg #[zvI,zvI,zvI,zvN,zvI,zvB,zvB,zvI,zvI,zvI,zvI,zvI,zvI,zvI,zvI,zvI,zvI,zvI,zvI,zvI,zvI,zvI,zvI,zvN,zvI])):=by kernel_rfl
instance:TyZ prog 50 [zcI,zcI,zcI,.nil,zcI,zcB,zcB,zcI,zcI,zcI,zcI,zcI,zcI,zcI,zcI,zcI,zcI,zcI,zcI,zcI,zcI,zcI,zcI,.nil,zcI]:=⟨d6 Tryz.z50⟩
instance:TyE prog 50 [zdI,zdI,zdI,zdL,zdI,zdB,zdB,zdI,zdI,zdI,zdI,zdI,zdI,zdI,zdI,zdI,zdI,zdI,zdI,zdI,zdI,zdI,zdI,zdL,zdI]:=⟨d6 Tryz.z50⟩
instance:TyB prog 50 [(0,1),(1,1),(2,1),(3,1),(4,21)]:=⟨_,underlying50,λw=>by kernel_rfl⟩
instance:TyF prog 50 0 0 3:=tyf 1 underlying50
instance:TyF prog 50 1 1 3:=tyf 1 underlying50
instance:TyF prog 50 2 2 3:=tyf 1 underlying50
instance:TyF prog 50 3 3 22:=tyf 1 underlying50
instance:TyF prog 50 4 4 48:=tyf 21 underlying50
instance:jf prog 56:=xV
theorem Tryz.z56:(prog.info? 56).map (·.zero)=ς (ς zvN):=by kernel_rfl
instance:TyZ prog 56 [.nil]:=⟨d6 Tryz.z56⟩
instance:TyE prog 56 [zdL]:=⟨d6 Tryz.z56⟩
instance:gE prog 59 2:=og
theorem Tryz.z59:(prog.info? 59).map (·.zero)=ς (ς (.agg #[zvI,zvI])):=by kernel_rfl
instance:TyZ prog 59 [zcI,zcI]:=⟨d6 Tryz.z59⟩
instance:TyE prog 59 [zdI,zdI]:=⟨d6 Tryz.z59⟩
instance:TyB prog 59 [(0,1),(1,1)]:=⟨_,underlying59,λw=>by kernel_rfl⟩
instance:TyF prog 59 0 0 3:=tyf 1 underlying59
instance:TyF prog 59 1 1 3:=tyf 1 underlying59
instance:gE prog 61 4:=og
theorem Tryz.z61:(prog.info? 61).map (·.zero)=ς (ς (.agg #[zvI,zvI,zvI,zvI])):=by kernel_rfl
instance:TyZ prog 61 [zcI,zcI,zcI,zcI]:=⟨d6 Tryz.z61⟩
instance:TyE prog 61 [zdI,zdI,zdI,zdI]:=⟨d6 Tryz.z61⟩
instance:TyB prog 61 [(0,2),(2,1),(3,1)]:=⟨_,underlying61,λw=>by kernel_rfl⟩
instance:TyF prog 61 0 0 59:=tyf 2 underlying61
instance:TyF prog 61 1 2 3:=tyf 1 underlying61
instance:TyF prog 61 2 3 3:=tyf 1 underlying61
instance:jf prog 62:=xV
theorem Tryz.z62:(prog.info? 62).map (·.zero)=ς (ς zvN):=by kernel_rfl
instance:TyZ prog 62 [.nil]:=⟨d6 Tryz.z62⟩
instance:TyE prog 62 [zdL]:=⟨d6 Tryz.z62⟩
instance:jf prog 63:=xV
theorem Tryz.z63:(prog.info? 63).map (·.zero)=ς (ς zvN):=by kernel_rfl
instance:TyZ prog 63 [.nil]:=⟨d6 Tryz.z63⟩
instance:TyE prog 63 [zdL]:=⟨d6 Tryz.z63⟩
instance:gE prog 65 3:=og
theorem Tryz.z65:(prog.info? 65).map (·.zero)=ς (ς (.agg #[zvI,zvN,zvN])):=by kernel_rfl
instance:TyZ prog 65 [zcI,.nil,.nil]:=⟨d6 Tryz.z65⟩
instance:TyE prog 65 [zdI,zdL,zdL]:=⟨d6 Tryz.z65⟩
instance:TyB prog 65 [(0,1),(1,1),(2,1)]:=⟨_,underlying65,λw=>by kernel_rfl⟩
instance:TyF prog 65 0 0 3:=tyf 1 underlying65
instance:TyF prog 65 1 1 62:=tyf 1 underlying65
instance:TyF prog 65 2 2 63:=tyf 1 underlying65
instance:gE prog 67 14:=og
theorem Tryz.z67:(prog.info? 67).map (·.zero)=ς (ς (.agg #[zvI,zvI,zvI,zvI,zvI,zvI,zvI,zvI,zvI,zvB,zvI,zvI,zvN,zvN])):=by kernel_rfl
instance:TyZ prog 67 [zcI,zcI,zcI,zcI,zcI,zcI,zcI,zcI,zcI,zcB,zcI,zcI,.nil,.nil]:=⟨d6 Tryz.z67⟩
instance:TyE prog 67 [zdI,zdI,zdI,zdI,zdI,zdI,zdI,zdI,zdI,zdB,zdI,zdI,zdL,zdL]:=⟨d6 Tryz.z67⟩
instance:TyB prog 67 [(0,4),(4,1),(5,1),(6,1),(7,1),(8,1),(9,1),(10,1),(11,3)]:=⟨_,underlying67,λw=>by kernel_rfl⟩
instance:TyF prog 67 0 0 61:=tyf 4 underlying67
instance:TyF prog 67 1 4 3:=tyf 1 underlying67
instance:TyF prog 67 2 5 3:=tyf 1 underlying67
instance:TyF prog 67 3 6 3:=tyf 1 underlying67
instance:TyF prog 67 4 7 3:=tyf 1 underlying67
instance:TyF prog 67 5 8 3:=tyf 1 underlying67
instance:TyF prog 67 6 9 4:=tyf 1 underlying67
instance:TyF prog 67 7 10 3:=tyf 1 underlying67
instance:TyF prog 67 8 11 65:=tyf 3 underlying67
instance:gE prog 82 4:=og
theorem Tryz.z82:(prog.info? 82).map (·.zero)=ς (ς (.agg #[zvI,zvI,zvI,zvI])):=by kernel_rfl
instance:TyZ prog 82 [zcI,zcI,zcI,zcI]:=⟨d6 Tryz.z82⟩
instance:TyE prog 82 [zdI,zdI,zdI,zdI]:=⟨d6 Tryz.z82⟩
instance:TyB prog 82 [(0,2),(2,1),(3,1)]:=⟨_,underlying82,λw=>by kernel_rfl⟩
instance:TyF prog 82 0 0 59:=tyf 2 underlying82
instance:TyF prog 82 1 2 3:=tyf 1 underlying82
instance:TyF prog 82 2 3 3:=tyf 1 underlying82
instance:jf prog 83:=xV
theorem Tryz.z83:(prog.info? 83).map (·.zero)=ς (ς zvN):=by kernel_rfl
instance:TyZ prog 83 [.nil]:=⟨d6 Tryz.z83⟩
instance:TyE prog 83 [zdL]:=⟨d6 Tryz.z83⟩
instance:gE prog 85 4:=og
theorem Tryz.z85:(prog.info? 85).map (·.zero)=ς (ς (.agg #[zvI,zvI,zvI,zvN])):=by kernel_rfl
instance:TyZ prog 85 [zcI,zcI,zcI,.nil]:=⟨d6 Tryz.z85⟩
instance:TyE prog 85 [zdI,zdI,zdI,zdL]:=⟨d6 Tryz.z85⟩
instance:TyB prog 85 [(0,1),(1,1),(2,1),(3,1)]:=⟨_,underlying85,λw=>by kernel_rfl⟩
instance:TyF prog 85 0 0 3:=tyf 1 underlying85
instance:TyF prog 85 1 1 3:=tyf 1 underlying85
instance:TyF prog 85 2 2 3:=tyf 1 underlying85
instance:TyF prog 85 3 3 83:=tyf 1 underlying85
instance:gE prog 87 3:=og
theorem Tryz.z87:(prog.info? 87).map (·.zero)=ς (ς (.agg #[zvI,zvI,zvI])):=by kernel_rfl
instance:TyZ prog 87 [zcI,zcI,zcI]:=⟨d6 Tryz.z87⟩
instance:TyE prog 87 [zdI,zdI,zdI]:=⟨d6 Tryz.z87⟩
instance:TyB prog 87 [(0,1),(1,1),(2,1)]:=⟨_,underlying87,λw=>by kernel_rfl⟩
instance:TyF prog 87 0 0 3:=tyf 1 underlying87
instance:TyF prog 87 1 1 3:=tyf 1 underlying87
instance:TyF prog 87 2 2 3:=tyf 1 underlying87
instance:gE prog 89 2:=og
theorem Tryz.z89:(prog.info? 89).map (·.zero)=ς (ς (.agg #[zvI,zvN])):=by kernel_rfl
instance:TyZ prog 89 [zcI,.nil]:=⟨d6 Tryz.z89⟩
instance:TyE prog 89 [zdI,zdL]:=⟨d6 Tryz.z89⟩
instance:TyB prog 89 [(0,1),(1,1)]:=⟨_,underlying89,λw=>by kernel_rfl⟩
instance:TyF prog 89 0 0 3:=tyf 1 underlying89
instance:TyF prog 89 1 1 62:=tyf 1 underlying89
instance:gE prog 91 3:=og
theorem Tryz.z91:(prog.info? 91).map (·.zero)=ς (ς (.agg #[zvI,zvI,zvI])):=by kernel_rfl
instance:TyZ prog 91 [zcI,zcI,zcI]:=⟨d6 Tryz.z91⟩
instance:TyE prog 91 [zdI,zdI,zdI]:=⟨d6 Tryz.z91⟩
instance:TyB prog 91 [(0,1),(1,1),(2,1)]:=⟨_,underlying91,λw=>by kernel_rfl⟩
instance:TyF prog 91 0 0 3:=tyf 1 underlying91
instance:TyF prog 91 1 1 3:=tyf 1 underlying91
instance:TyF prog 91 2 2 3:=tyf 1 underlying91
instance:gE prog 93 30:=og
theorem Tryz.z93:(prog.info? 93).map (·.zero)=ς (ς (.agg #[zvI,zvI,zvI,zvI,zvI,zvI,zvI,zvN,zvI,zvI,zvI,zvI,zvI,zvI,zvI,zvI,zvI,zvI,zvI,zvI,zvI,zvI,zvI,zvN,zvI,zvN,zvI,zvI,zvI,zvI])):=by kernel_rfl
instance:TyZ prog 93 [zcI,zcI,zcI,zcI,zcI,zcI,zcI,.nil,zcI,zcI,zcI,zcI,zcI,zcI,zcI,zcI,zcI,zcI,zcI,zcI,zcI,zcI,zcI,.nil,zcI,.nil,zcI,zcI,zcI,zcI]:=⟨d6 Tryz.z93⟩
instance:TyE prog 93 [zdI,zdI,zdI,zdI,zdI,zdI,zdI,zdL,zdI,zdI,zdI,zdI,zdI,zdI,zdI,zdI,zdI,zdI,zdI,zdI,zdI,zdI,zdI,zdL,zdI,zdL,zdI,zdI,zdI,zdI]:=⟨d6 Tryz.z93⟩
instance:TyB prog 93 [(0,4),(4,4),(8,1),(9,5),(14,1),(15,1),(16,1),(17,1),(18,1),(19,1),(20,3),(23,1),(24,2),(26,1),(27,3)]:=⟨_,underlying93,λw=>by kernel_rfl⟩
instance:TyF prog 93 0 0 82:=tyf 4 underlying93
instance:TyF prog 93 1 4 85:=tyf 4 underlying93
instance:TyF prog 93 2 8 3:=tyf 1 underlying93
instance:TyF prog 93 3 9 40:=tyf 5 underlying93
instance:TyF prog 93 4 14 3:=tyf 1 underlying93
instance:TyF prog 93 5 15 3:=tyf 1 underlying93
instance:TyF prog 93 6 16 3:=tyf 1 underlying93
instance:TyF prog 93 7 17 3:=tyf 1 underlying93
instance:TyF prog 93 8 18 3:=tyf 1 underlying93
instance:TyF prog 93 9 19 3:=tyf 1 underlying93
instance:TyF prog 93 10 20 87:=tyf 3 underlying93
instance:TyF prog 93 11 23 63:=tyf 1 underlying93
instance:TyF prog 93 12 24 89:=tyf 2 underlying93
instance:TyF prog 93 13 26 3:=tyf 1 underlying93
instance:TyF prog 93 14 27 91:=tyf 3 underlying93
instance:gE prog 100 2:=og
theorem Tryz.z100:(prog.info? 100).map (·.zero)=ς (ς (.agg #[zvI,zvN])):=by kernel_rfl
instance:TyZ prog 100 [zcI,.nil]:=⟨d6 Tryz.z100⟩
instance:TyE prog 100 [zdI,zdL]:=⟨d6 Tryz.z100⟩
instance:TyB prog 100 [(0,1),(1,1)]:=⟨_,underlying100,λw=>by kernel_rfl⟩
instance:TyF prog 100 0 0 3:=tyf 1 underlying100
instance:TyF prog 100 1 1 22:=tyf 1 underlying100
instance:jf prog 105:=xV
theorem Tryz.z105:(prog.info? 105).map (·.zero)=ς (ς zvN):=by kernel_rfl
instance:TyZ prog 105 [.nil]:=⟨d6 Tryz.z105⟩
instance:TyE prog 105 [zdL]:=⟨d6 Tryz.z105⟩
instance:gE prog 107 4:=og
theorem Tryz.z107:(prog.info? 107).map (·.zero)=ς (ς (.agg #[zvI,zvI,zvI,zvN])):=by kernel_rfl
instance:TyZ prog 107 [zcI,zcI,zcI,.nil]:=⟨d6 Tryz.z107⟩
instance:TyE prog 107 [zdI,zdI,zdI,zdL]:=⟨d6 Tryz.z107⟩
instance:TyB prog 107 [(0,1),(1,1),(2,1),(3,1)]:=⟨_,underlying107,λw=>by kernel_rfl⟩
instance:TyF prog 107 0 0 3:=tyf 1 underlying107
instance:TyF prog 107 1 1 3:=tyf 1 underlying107
instance:TyF prog 107 2 2 3:=tyf 1 underlying107
instance:TyF prog 107 3 3 105:=tyf 1 underlying107
instance:gE prog 124 3:=og
theorem Tryz.z124:(prog.info? 124).map (·.zero)=ς (ς (.agg #[zvN,zvI,zvI])):=by kernel_rfl
instance:TyZ prog 124 [.nil,zcI,zcI]:=⟨d6 Tryz.z124⟩
instance:TyE prog 124 [zdL,zdI,zdI]:=⟨d6 Tryz.z124⟩
instance:TyB prog 124 [(0,1),(1,1),(2,1)]:=⟨_,underlying124,λw=>by kernel_rfl⟩
instance:TyF prog 124 0 0 22:=tyf 1 underlying124
instance:TyF prog 124 1 1 3:=tyf 1 underlying124
instance:TyF prog 124 2 2 3:=tyf 1 underlying124
instance:gE prog 147 1:=og
theorem Tryz.z147:(prog.info? 147).map (·.zero)=ς (ς (.agg #[zvN])):=by kernel_rfl
instance:TyZ prog 147 [.nil]:=⟨d6 Tryz.z147⟩
instance:TyE prog 147 [zdL]:=⟨d6 Tryz.z147⟩
instance:TyB prog 147 [(0,1)]:=⟨_,underlying147,λw=>by kernel_rfl⟩
instance:TyF prog 147 0 0 83:=tyf 1 underlying147
instance:gE prog 151 1:=og
theorem Tryz.z151:(prog.info? 151).map (·.zero)=ς (ς (.agg #[zvN])):=by kernel_rfl
instance:TyZ prog 151 [.nil]:=⟨d6 Tryz.z151⟩
instance:TyE prog 151 [zdL]:=⟨d6 Tryz.z151⟩
instance:TyB prog 151 [(0,1)]:=⟨_,underlying151,λw=>by kernel_rfl⟩
instance:TyF prog 151 0 0 22:=tyf 1 underlying151
instance:gE prog 154 2:=og
theorem Tryz.z154:(prog.info? 154).map (·.zero)=ς (ς (.agg #[zvI,zvN])):=by kernel_rfl
instance:TyZ prog 154 [zcI,.nil]:=⟨d6 Tryz.z154⟩
instance:TyE prog 154 [zdI,zdL]:=⟨d6 Tryz.z154⟩
instance:TyB prog 154 [(0,1),(1,1)]:=⟨_,underlying154,λw=>by kernel_rfl⟩
instance:TyF prog 154 0 0 3:=tyf 1 underlying154
instance:TyF prog 154 1 1 83:=tyf 1 underlying154
instance:gE prog 165 2:=og
theorem Tryz.z165:(prog.info? 165).map (·.zero)=ς (ς (.agg #[zvI,zvI])):=by kernel_rfl
instance:TyZ prog 165 [zcI,zcI]:=⟨d6 Tryz.z165⟩
instance:TyE prog 165 [zdI,zdI]:=⟨d6 Tryz.z165⟩
instance:TyB prog 165 [(0,1),(1,1)]:=⟨_,underlying165,λw=>by kernel_rfl⟩
instance:TyF prog 165 0 0 3:=tyf 1 underlying165
instance:TyF prog 165 1 1 3:=tyf 1 underlying165
instance:jf prog 167:=xV
theorem Tryz.z167:(prog.info? 167).map (·.zero)=ς (ς zvN):=by kernel_rfl
instance:TyZ prog 167 [.nil]:=⟨d6 Tryz.z167⟩
instance:TyE prog 167 [zdL]:=⟨d6 Tryz.z167⟩
instance:gE prog 169 15:=og
theorem Tryz.z169:(prog.info? 169).map (·.zero)=ς (ς (.agg #[zvI,zvI,zvI,zvI,zvI,zvI,zvI,zvI,zvI,zvB,zvI,zvI,zvN,zvN,zvN])):=by kernel_rfl
instance:TyZ prog 169 [zcI,zcI,zcI,zcI,zcI,zcI,zcI,zcI,zcI,zcB,zcI,zcI,.nil,.nil,.nil]:=⟨d6 Tryz.z169⟩
instance:TyE prog 169 [zdI,zdI,zdI,zdI,zdI,zdI,zdI,zdI,zdI,zdB,zdI,zdI,zdL,zdL,zdL]:=⟨d6 Tryz.z169⟩
instance:TyB prog 169 [(0,14),(14,1)]:=⟨_,underlying169,λw=>by kernel_rfl⟩
instance:TyF prog 169 0 0 67:=tyf 14 underlying169
instance:TyF prog 169 1 14 167:=tyf 1 underlying169
instance:jf prog 171:=xV
theorem Tryz.z171:(prog.info? 171).map (·.zero)=ς (ς zvN):=by kernel_rfl
instance:TyZ prog 171 [.nil]:=⟨d6 Tryz.z171⟩
instance:TyE prog 171 [zdL]:=⟨d6 Tryz.z171⟩
instance:gE prog 173 36:=og
theorem Tryz.z173:(prog.info? 173).map (·.zero)=ς (ς (.agg #[zvI,zvI,zvI,zvI,zvI,zvI,zvI,zvN,zvI,zvI,zvI,zvI,zvI,zvI,zvI,zvI,zvI,zvI,zvI,zvI,zvI,zvI,zvI,zvN,zvI,zvN,zvI,zvI,zvI,zvI,zvI,zvI,zvI,zvN,zvN,zvN])):=by kernel_rfl
instance:TyZ prog 173 [zcI,zcI,zcI,zcI,zcI,zcI,zcI,.nil,zcI,zcI,zcI,zcI,zcI,zcI,zcI,zcI,zcI,zcI,zcI,zcI,zcI,zcI,zcI,.nil,zcI,.nil,zcI,zcI,zcI,zcI,zcI,zcI,zcI,.nil,.nil,.nil]:=⟨d6 Tryz.z173⟩
instance:TyE prog 173 [zdI,zdI,zdI,zdI,zdI,zdI,zdI,zdL,zdI,zdI,zdI,zdI,zdI,zdI,zdI,zdI,zdI,zdI,zdI,zdI,zdI,zdI,zdI,zdL,zdI,zdL,zdI,zdI,zdI,zdI,zdI,zdI,zdI,zdL,zdL,zdL]:=⟨d6 Tryz.z173⟩
instance:TyB prog 173 [(0,30),(30,4),(34,1),(35,1)]:=⟨_,underlying173,λw=>by kernel_rfl⟩
instance:TyF prog 173 0 0 93:=tyf 30 underlying173
instance:TyF prog 173 1 30 107:=tyf 4 underlying173
instance:TyF prog 173 2 34 167:=tyf 1 underlying173
instance:TyF prog 173 3 35 171:=tyf 1 underlying173
instance:jf prog 182:=xV
theorem Tryz.z182:(prog.info? 182).map (·.zero)=ς (ς zvN):=by kernel_rfl
instance:TyZ prog 182 [.nil]:=⟨d6 Tryz.z182⟩
instance:TyE prog 182 [zdL]:=⟨d6 Tryz.z182⟩
instance:gE prog 210 2:=og
theorem Tryz.z210:(prog.info? 210).map (·.zero)=ς (ς (.agg #[zvI,zvN])):=by kernel_rfl
instance:TyZ prog 210 [zcI,.nil]:=⟨d6 Tryz.z210⟩
instance:TyE prog 210 [zdI,zdL]:=⟨d6 Tryz.z210⟩
instance:TyB prog 210 [(0,1),(1,1)]:=⟨_,underlying210,λw=>by kernel_rfl⟩
instance:TyF prog 210 0 0 3:=tyf 1 underlying210
instance:TyF prog 210 1 1 147:=tyf 1 underlying210
instance:gE prog 234 31:=og
theorem Tryz.z234:(prog.info? 234).map (·.zero)=ς (ς (.agg #[zvI,zvI,zvI,zvI,zvI,zvI,zvI,zvN,zvI,zvI,zvI,zvI,zvI,zvI,zvI,zvI,zvI,zvI,zvI,zvI,zvI,zvI,zvI,zvN,zvI,zvN,zvI,zvI,zvI,zvI,zvN])):=by kernel_rfl
instance:TyZ prog 234 [zcI,zcI,zcI,zcI,zcI,zcI,zcI,.nil,zcI,zcI,zcI,zcI,zcI,zcI,zcI,zcI,zcI,zcI,zcI,zcI,zcI,zcI,zcI,.nil,zcI,.nil,zcI,zcI,zcI,zcI,.nil]:=⟨d6 Tryz.z234⟩
instance:TyE prog 234 [zdI,zdI,zdI,zdI,zdI,zdI,zdI,zdL,zdI,zdI,zdI,zdI,zdI,zdI,zdI,zdI,zdI,zdI,zdI,zdI,zdI,zdI,zdI,zdL,zdI,zdL,zdI,zdI,zdI,zdI,zdL]:=⟨d6 Tryz.z234⟩
instance:TyB prog 234 [(0,30),(30,1)]:=⟨_,underlying234,λw=>by kernel_rfl⟩
instance:TyF prog 234 0 0 93:=tyf 30 underlying234
instance:TyF prog 234 1 30 167:=tyf 1 underlying234
instance:gE prog 299 4:=og
theorem Tryz.z299:(prog.info? 299).map (·.zero)=ς (ς (.agg #[zvI,zvI,zvI,zvI])):=by kernel_rfl
instance:TyZ prog 299 [zcI,zcI,zcI,zcI]:=⟨d6 Tryz.z299⟩
instance:TyE prog 299 [zdI,zdI,zdI,zdI]:=⟨d6 Tryz.z299⟩
instance:TyB prog 299 [(0,1),(1,1),(2,1),(3,1)]:=⟨_,underlying299,λw=>by kernel_rfl⟩
instance:TyF prog 299 0 0 3:=tyf 1 underlying299
instance:TyF prog 299 1 1 3:=tyf 1 underlying299
instance:TyF prog 299 2 2 3:=tyf 1 underlying299
instance:TyF prog 299 3 3 3:=tyf 1 underlying299
theorem Tryz.sh5:xX prog 5 [.i .u8]:=.int underlying5
theorem Tryz.sh22:xX prog 22 [.l [.i .u8]]:=.slice underlying22 Tryz.sh5 (by kernel_rfl) (by decide)
theorem Tryz.eqa32:EqA prog 2 32 [.i .i64,.i .i64]:=jx (k:=1) underlying32 (by kernel_rfl) (iK rfl (by decide) inferInstance (eF underlying3) (iK rfl (by decide) inferInstance (eF underlying3) (qx)))
instance:A7 prog 32 [.i .i64,.i .i64]:=⟨⟨2,by decide,Tryz.eqa32⟩,by kernel_rfl⟩
theorem Tryz.eqa40:EqA prog 2 40 [.i .i64,.i .i64,.i .i64,.i .i64,.i .i64]:=jx (k:=1) underlying40 (by kernel_rfl) (iK rfl (by decide) inferInstance (eF underlying3) (iK rfl (by decide) inferInstance (eF underlying3) (iK rfl (by decide) inferInstance (eF underlying3) (iK rfl (by decide) inferInstance (eF underlying3) (iK rfl (by decide) inferInstance (eF underlying3) (qx))))))
instance:A7 prog 40 [.i .i64,.i .i64,.i .i64,.i .i64,.i .i64]:=⟨⟨2,by decide,Tryz.eqa40⟩,by kernel_rfl⟩
theorem Tryz.eqa42:EqA prog 3 42 [.i .i64,.i .i64,.i .i64,.i .i64,.i .i64,.i .i64,.i .i64,.i .i64,.i .i64,.i .i64,.i .i64]:=jx (k:=2) underlying42 (by kernel_rfl) (iK rfl (by decide) inferInstance (eF underlying3) (iK rfl (by decide) inferInstance (eF underlying3) (iK rfl (by decide) inferInstance (eF underlying3) (iK rfl (by decide) inferInstance (eF underlying3) (iK rfl (by decide) inferInstance (eF underlying3) (U6 (n:=5) (s1:=[.i .i64,.i .i64,.i .i64,.i .i64,.i .i64]) rfl (by decide) inferInstance rfl (by decide) Tryz.eqa40 (iK rfl (by decide) inferInstance (eF underlying3) (qx))))))))
instance:A7 prog 42 [.i .i64,.i .i64,.i .i64,.i .i64,.i .i64,.i .i64,.i .i64,.i .i64,.i .i64,.i .i64,.i .i64]:=⟨⟨3,by decide,Tryz.eqa42⟩,by kernel_rfl⟩
theorem Tryz.eqa59:EqA prog 2 59 [.i .i64,.i .i64]:=jx (k:=1) underlying59 (by kernel_rfl) (iK rfl (by decide) inferInstance (eF underlying3) (iK rfl (by decide) inferInstance (eF underlying3) (qx)))
instance:A7 prog 59 [.i .i64,.i .i64]:=⟨⟨2,by decide,Tryz.eqa59⟩,by kernel_rfl⟩
theorem Tryz.eqa61:EqA prog 3 61 [.i .i64,.i .i64,.i .i64,.i .i64]:=jx (k:=2) underlying61 (by kernel_rfl) (U6 (n:=2) (s1:=[.i .i64,.i .i64]) rfl (by decide) inferInstance rfl (by decide) Tryz.eqa59 (iK rfl (by decide) inferInstance (eF underlying3) (iK rfl (by decide) inferInstance (eF underlying3) (qx))))
instance:A7 prog 61 [.i .i64,.i .i64,.i .i64,.i .i64]:=⟨⟨3,by decide,Tryz.eqa61⟩,by kernel_rfl⟩
theorem Tryz.eqa82:EqA prog 3 82 [.i .i64,.i .i64,.i .i64,.i .i64]:=jx (k:=2) underlying82 (by kernel_rfl) (U6 (n:=2) (s1:=[.i .i64,.i .i64]) rfl (by decide) inferInstance rfl (by decide) Tryz.eqa59 (iK rfl (by decide) inferInstance (eF underlying3) (iK rfl (by decide) inferInstance (eF underlying3) (qx))))
instance:A7 prog 82 [.i .i64,.i .i64,.i .i64,.i .i64]:=⟨⟨3,by decide,Tryz.eqa82⟩,by kernel_rfl⟩
theorem Tryz.eqa87:EqA prog 2 87 [.i .i64,.i .i64,.i .i64]:=jx (k:=1) underlying87 (by kernel_rfl) (iK rfl (by decide) inferInstance (eF underlying3) (iK rfl (by decide) inferInstance (eF underlying3) (iK rfl (by decide) inferInstance (eF underlying3) (qx))))
instance:A7 prog 87 [.i .i64,.i .i64,.i .i64]:=⟨⟨2,by decide,Tryz.eqa87⟩,by kernel_rfl⟩
theorem Tryz.eqa91:EqA prog 2 91 [.i .i64,.i .i64,.i .i64]:=jx (k:=1) underlying91 (by kernel_rfl) (iK rfl (by decide) inferInstance (eF underlying3) (iK rfl (by decide) inferInstance (eF underlying3) (iK rfl (by decide) inferInstance (eF underlying3) (qx))))
instance:A7 prog 91 [.i .i64,.i .i64,.i .i64]:=⟨⟨2,by decide,Tryz.eqa91⟩,by kernel_rfl⟩
theorem Tryz.eqa165:EqA prog 2 165 [.i .i64,.i .i64]:=jx (k:=1) underlying165 (by kernel_rfl) (iK rfl (by decide) inferInstance (eF underlying3) (iK rfl (by decide) inferInstance (eF underlying3) (qx)))
instance:A7 prog 165 [.i .i64,.i .i64]:=⟨⟨2,by decide,Tryz.eqa165⟩,by kernel_rfl⟩
theorem Tryz.eqa299:EqA prog 2 299 [.i .i64,.i .i64,.i .i64,.i .i64]:=jx (k:=1) underlying299 (by kernel_rfl) (iK rfl (by decide) inferInstance (eF underlying3) (iK rfl (by decide) inferInstance (eF underlying3) (iK rfl (by decide) inferInstance (eF underlying3) (iK rfl (by decide) inferInstance (eF underlying3) (qx)))))
instance:A7 prog 299 [.i .i64,.i .i64,.i .i64,.i .i64]:=⟨⟨2,by decide,Tryz.eqa299⟩,by kernel_rfl⟩
theorem Tryz.follows:prog.follows .mixedOrders=true:=by kernel_rfl
instance:dZ prog 22 5 1 1:=⟨underlying22,BF Tryz.z5,by decide⟩
instance:dZ prog 24 154 2 32:=⟨underlying24,BF Tryz.z154,by decide⟩
instance:dZ prog 27 67 14 144:=⟨underlying27,BF Tryz.z67,by decide⟩
instance:dZ prog 28 93 30 288:=⟨underlying28,BF Tryz.z93,by decide⟩
instance:dZ prog 29 107 4 48:=⟨underlying29,BF Tryz.z107,by decide⟩
instance:dZ prog 30 48 21 176:=⟨underlying30,BF Tryz.z48,by decide⟩
instance:dZ prog 35 50 25 224:=⟨underlying35,BF Tryz.z50,by decide⟩
instance:dZ prog 56 210 2 32:=⟨underlying56,BF Tryz.z210,by decide⟩
instance:dZ prog 62 100 2 32:=⟨underlying62,BF Tryz.z100,by decide⟩
instance:dZ prog 63 151 1 24:=⟨underlying63,BF Tryz.z151,by decide⟩
instance:dZ prog 83 3 1 8:=⟨underlying83,BF Tryz.z3,by decide⟩
instance:dZ prog 105 165 2 16:=⟨underlying105,BF Tryz.z165,by decide⟩
instance:dZ prog 167 42 11 88:=⟨underlying167,BF Tryz.z42,by decide⟩
instance:dZ prog 171 46 6 64:=⟨underlying171,BF Tryz.z46,by decide⟩
instance:dZ prog 182 82 4 32:=⟨underlying182,BF Tryz.z82,by decide⟩
structure dY where
 fF:Int
 cM:List Int
 deriving DecidableEq,Inhabited
def eL(a:dY):List D:=[edI a.fF,.l (a.cM.map eI)]
def O2:dY:=⟨0,[]⟩
structure aZ where
 bp:List dY
 deriving DecidableEq,Inhabited
def fT(a:aZ):List D:=[.l (a.bp.map eL)]
def TA:aZ:=⟨[]⟩
structure bE where
 fy:Int
 fj:Int
 deriving DecidableEq,Inhabited
def jg(a:bE):List D:=[edI a.fy,edI a.fj]
def kB(a:bE):List F:=[esI a.fy,esI a.fj]
def K5:bE:=⟨0,0⟩
structure dq where
 d4:Int
 bZ:Int
 deriving DecidableEq,Inhabited
def oL(a:dq):List D:=[edI a.d4,edI a.bZ]
def FH(a:dq):List F:=[esI a.d4,esI a.bZ]
def zP:dq:=⟨0,0⟩
structure jG where
 ID:dq
 fA:Int
 c8:Int
 deriving DecidableEq,Inhabited
def FB(a:jG):List D:=[edI a.ID.d4,edI a.ID.bZ,edI a.fA,edI a.c8]
def FJ(a:jG):List F:=[esI a.ID.d4,esI a.ID.bZ,esI a.fA,esI a.c8]
def zTUSIM:jG:=⟨zP,0,0⟩
structure ab where
 cX:Int
 bk:List Int
 deriving DecidableEq,Inhabited
def aX(a:ab):List D:=[edI a.cX,.l (a.bk.map eU8)]
def dv(a:ab):List F:=[esI a.cX,.l 5 1 (a.bk.map eU8) a.bk.length]
def bY:ab:=⟨0,[]⟩
structure bI where
 bk:List Int
 deriving DecidableEq,Inhabited
def d8(a:bI):List D:=[.l (a.bk.map eU8)]
structure aM where
 bB:Int
 aA:List ab
 bi:List bI
 deriving DecidableEq,Inhabited
def fG(a:aM):List D:=[edI a.bB,.l (a.aA.map aX),.l (a.bi.map d8)]
def bV(a:aM):List F:=[esI a.bB,.l 100 2 (a.aA.map aX) a.aA.length,.l 151 1 (a.bi.map d8) a.bi.length]
def cS:aM:=⟨0,[],[]⟩
structure aC where
 dO:jG
 bz:Int
 bh:Int
 ah:Int
 bg:Int
 aY:Int
 cj:Bool
 eU:Int
 bW:aM
 deriving DecidableEq,Inhabited
def dF(a:aC):List D:=[edI a.dO.ID.d4,edI a.dO.ID.bZ,edI a.dO.fA,edI a.dO.c8,edI a.bz,edI a.bh,edI a.ah,edI a.bg,edI a.aY,.b a.cj,edI a.eU,edI a.bW.bB,.l (a.bW.aA.map aX),.l (a.bW.bi.map d8)]
def eW(a:aC):List F:=[esI a.dO.ID.d4,esI a.dO.ID.bZ,esI a.dO.fA,esI a.dO.c8,esI a.bz,esI a.bh,esI a.ah,esI a.bg,esI a.aY,.s (.b a.cj),esI a.eU,esI a.bW.bB,.l 100 2 (a.bW.aA.map aX) a.bW.aA.length,.l 151 1 (a.bW.bi.map d8) a.bW.bi.length]
def Ht:aC:=⟨zTUSIM,0,0,0,0,0,η,0,cS⟩
structure aU where
 ID:dq
 fA:Int
 cX:Int
 deriving DecidableEq,Inhabited
def er(a:aU):List D:=[edI a.ID.d4,edI a.ID.bZ,edI a.fA,edI a.cX]
def nT(a:aU):List F:=[esI a.ID.d4,esI a.ID.bZ,esI a.fA,esI a.cX]
def BH:aU:=⟨zP,0,0⟩
structure bO where
 jS:Int
 jO:Int
 eB:Int
 bQ:List Int
 deriving DecidableEq,Inhabited
def iJ(a:bO):List D:=[edI a.jS,edI a.jO,edI a.eB,.l (a.bQ.map eI)]
def oO(a:bO):List F:=[esI a.jS,esI a.jO,esI a.eB,.l 3 1 (a.bQ.map eI) a.bQ.length]
def Hu:bO:=⟨0,0,0,[]⟩
structure cy where
 ez:Int
 f7:Int
 i7:Int
 vP:Int
 fA:Int
 deriving DecidableEq,Inhabited
def mE(a:cy):List D:=[edI a.ez,edI a.f7,edI a.i7,edI a.vP,edI a.fA]
def kA(a:cy):List F:=[esI a.ez,esI a.f7,esI a.i7,esI a.vP,esI a.fA]
def cH:cy:=⟨0,0,0,0,0⟩
structure cV where
 fF:Int
 eT:Int
 eU:Int
 deriving DecidableEq,Inhabited
def qw(a:cV):List D:=[edI a.fF,edI a.eT,edI a.eU]
def mV(a:cV):List F:=[esI a.fF,esI a.eT,esI a.eU]
def ev:cV:=⟨0,0,0⟩
structure aV where
 bB:Int
 aF:List ab
 deriving DecidableEq,Inhabited
def fH(a:aV):List D:=[edI a.bB,.l (a.aF.map aX)]
def dw(a:aV):List F:=[esI a.bB,.l 100 2 (a.aF.map aX) a.aF.length]
def kT:aV:=⟨0,[]⟩
structure cY where
 aO:Int
 cP:Int
 eH:Int
 deriving DecidableEq,Inhabited
def nE(a:cY):List D:=[edI a.aO,edI a.cP,edI a.eH]
def z2(a:cY):List F:=[esI a.aO,esI a.cP,esI a.eH]
def Rm:cY:=⟨0,0,0⟩
structure ag where
 bT:aU
 gB:bO
 bz:Int
 aA:cy
 bG:Int
 ah:Int
 bg:Int
 aY:Int
 bh:Int
 dQ:Int
 f6:cV
 aS:List bI
 aK:aV
 dL:Int
 bX:cY
 deriving DecidableEq,Inhabited
def cp(a:ag):List D:=[edI a.bT.ID.d4,edI a.bT.ID.bZ,edI a.bT.fA,edI a.bT.cX,edI a.gB.jS,edI a.gB.jO,edI a.gB.eB,.l (a.gB.bQ.map eI),edI a.bz,edI a.aA.ez,edI a.aA.f7,edI a.aA.i7,edI a.aA.vP,edI a.aA.fA,edI a.bG,edI a.ah,edI a.bg,edI a.aY,edI a.bh,edI a.dQ,edI a.f6.fF,edI a.f6.eT,edI a.f6.eU,.l (a.aS.map d8),edI a.aK.bB,.l (a.aK.aF.map aX),edI a.dL,edI a.bX.aO,edI a.bX.cP,edI a.bX.eH]
def cU(a:ag):List F:=[esI a.bT.ID.d4,esI a.bT.ID.bZ,esI a.bT.fA,esI a.bT.cX,esI a.gB.jS,esI a.gB.jO,esI a.gB.eB,.l 3 1 (a.gB.bQ.map eI) a.gB.bQ.length,esI a.bz,esI a.aA.ez,esI a.aA.f7,esI a.aA.i7,esI a.aA.vP,esI a.aA.fA,esI a.bG,esI a.ah,esI a.bg,esI a.aY,esI a.bh,esI a.dQ,esI a.f6.fF,esI a.f6.eT,esI a.f6.eU,.l 151 1 (a.aS.map d8) a.aS.length,esI a.aK.bB,.l 100 2 (a.aK.aF.map aX) a.aK.aF.length,esI a.dL,esI a.bX.aO,esI a.bX.cP,esI a.bX.eH]
def AB:ag:=⟨BH,Hu,0,cH,0,0,0,0,0,0,ev,[],kT,0,Rm⟩
structure aH where
 aO:Int
 ea:Int
 deriving DecidableEq,Inhabited
def cf(a:aH):List D:=[edI a.aO,edI a.ea]
def dV:aH:=⟨0,0⟩
structure aj where
 gm:Int
 bK:Int
 eR:Int
 an:List aH
 deriving DecidableEq,Inhabited
def dh(a:aj):List D:=[edI a.gm,edI a.bK,edI a.eR,.l (a.an.map cf)]
def cO(a:aj):List F:=[esI a.gm,esI a.bK,esI a.eR,.l 165 2 (a.an.map cf) a.an.length]
def qt:aj:=⟨0,0,0,[]⟩
structure aG where
 bu:Int
 bh:Int
 ah:Int
 aY:Int
 bZ:Int
 b8:cy
 i7:Int
 deriving DecidableEq,Inhabited
def dM(a:aG):List D:=[edI a.bu,edI a.bh,edI a.ah,edI a.aY,edI a.bZ,edI a.b8.ez,edI a.b8.f7,edI a.b8.i7,edI a.b8.vP,edI a.b8.fA,edI a.i7]
def gL(a:aG):List F:=[esI a.bu,esI a.bh,esI a.ah,esI a.aY,esI a.bZ,esI a.b8.ez,esI a.b8.f7,esI a.b8.i7,esI a.b8.vP,esI a.b8.fA,esI a.i7]
def fc:aG:=⟨0,0,0,0,0,cH,0⟩
structure bw where
 dt:Int
 gk:Int
 bk:List Int
 i7:Int
 deriving DecidableEq,Inhabited
def eg(a:bw):List D:=[edI a.dt,edI a.gk,.l (a.bk.map eU8),edI a.i7]
def p7(a:bw):List F:=[esI a.dt,esI a.gk,.l 5 1 (a.bk.map eU8) a.bk.length,esI a.i7]
def kq:bw:=⟨0,0,[],0⟩
structure aD where
 ah:Int
 aY:Int
 bL:bw
 deriving DecidableEq,Inhabited
def dr(a:aD):List D:=[edI a.ah,edI a.aY,edI a.bL.dt,edI a.bL.gk,.l (a.bL.bk.map eU8),edI a.bL.i7]
def jy(a:aD):List F:=[esI a.ah,esI a.aY,esI a.bL.dt,esI a.bL.gk,.l 5 1 (a.bL.bk.map eU8) a.bL.bk.length,esI a.bL.i7]
def fg:aD:=⟨0,0,kq⟩
structure bA where
 bj:Int
 ey:Bool
 dB:Bool
 bh:Int
 a8:aG
 ct:aD
 deriving DecidableEq,Inhabited
def eP(a:bA):List D:=[edI a.bj,.b a.ey,.b a.dB,edI a.bh,edI a.a8.bu,edI a.a8.bh,edI a.a8.ah,edI a.a8.aY,edI a.a8.bZ,edI a.a8.b8.ez,edI a.a8.b8.f7,edI a.a8.b8.i7,edI a.a8.b8.vP,edI a.a8.b8.fA,edI a.a8.i7,edI a.ct.ah,edI a.ct.aY,edI a.ct.bL.dt,edI a.ct.bL.gk,.l (a.ct.bL.bk.map eU8),edI a.ct.bL.i7]
def oN(a:bA):List F:=[esI a.bj,.s (.b a.ey),.s (.b a.dB),esI a.bh,esI a.a8.bu,esI a.a8.bh,esI a.a8.ah,esI a.a8.aY,esI a.a8.bZ,esI a.a8.b8.ez,esI a.a8.b8.f7,esI a.a8.b8.i7,esI a.a8.b8.vP,esI a.a8.b8.fA,esI a.a8.i7,esI a.ct.ah,esI a.ct.aY,esI a.ct.bL.dt,esI a.ct.bL.gk,.l 5 1 (a.ct.bL.bk.map eU8) a.ct.bL.bk.length,esI a.ct.bL.i7]
def fE:bA:=⟨0,η,η,0,fc,fg⟩
structure ae where
 d7:aZ
 ax:List aC
 aJ:List ag
 bD:List aj
 aT:List bA
 cF:Int
 fP:bE
 lV:Int
 Lost:Int
 deriving DecidableEq,Inhabited
def g5(a:ae):List D:=[.l (a.d7.bp.map eL),.l (a.ax.map dF),.l (a.aJ.map cp),.l (a.bD.map dh),.l (a.aT.map eP),edI a.cF,edI a.fP.fy,edI a.fP.fj,edI a.lV,edI a.Lost]
def bF(a:ae):List F:=[.l 154 2 (a.d7.bp.map eL) a.d7.bp.length,.l 67 14 (a.ax.map dF) a.ax.length,.l 93 30 (a.aJ.map cp) a.aJ.length,.l 107 4 (a.bD.map dh) a.bD.length,.l 48 21 (a.aT.map eP) a.aT.length,esI a.cF,esI a.fP.fy,esI a.fP.fj,esI a.lV,esI a.Lost]
def eE:ae:=⟨TA,[],[],[],[],0,K5,0,0⟩
structure dJ where
 bu:Int
 da:Int
 bh:Int
 bk:List Int
 b7:bA
 deriving DecidableEq,Inhabited
def Ex(a:dJ):List D:=[edI a.bu,edI a.da,edI a.bh,.l (a.bk.map eU8),edI a.b7.bj,.b a.b7.ey,.b a.b7.dB,edI a.b7.bh,edI a.b7.a8.bu,edI a.b7.a8.bh,edI a.b7.a8.ah,edI a.b7.a8.aY,edI a.b7.a8.bZ,edI a.b7.a8.b8.ez,edI a.b7.a8.b8.f7,edI a.b7.a8.b8.i7,edI a.b7.a8.b8.vP,edI a.b7.a8.b8.fA,edI a.b7.a8.i7,edI a.b7.ct.ah,edI a.b7.ct.aY,edI a.b7.ct.bL.dt,edI a.b7.ct.bL.gk,.l (a.b7.ct.bL.bk.map eU8),edI a.b7.ct.bL.i7]
def g6(a:dJ):List F:=[esI a.bu,esI a.da,esI a.bh,.l 5 1 (a.bk.map eU8) a.bk.length,esI a.b7.bj,.s (.b a.b7.ey),.s (.b a.b7.dB),esI a.b7.bh,esI a.b7.a8.bu,esI a.b7.a8.bh,esI a.b7.a8.ah,esI a.b7.a8.aY,esI a.b7.a8.bZ,esI a.b7.a8.b8.ez,esI a.b7.a8.b8.f7,esI a.b7.a8.b8.i7,esI a.b7.a8.b8.vP,esI a.b7.a8.b8.fA,esI a.b7.a8.i7,esI a.b7.ct.ah,esI a.b7.ct.aY,esI a.b7.ct.bL.dt,esI a.b7.ct.bL.gk,.l 5 1 (a.b7.ct.bL.bk.map eU8) a.b7.ct.bL.bk.length,esI a.b7.ct.bL.i7]
def ec:dJ:=⟨0,0,0,[],fE⟩
structure av where
 fb:List Int
 fi:Int
 fh:Int
 deriving DecidableEq,Inhabited
def Y9(a:av):List D:=[.l (a.fb.map eU8),edI a.fi,edI a.fh]
def be(a:av):List F:=[.l 5 1 (a.fb.map eU8) a.fb.length,esI a.fi,esI a.fh]
structure fB where
 Steps:List Int
 deriving DecidableEq,Inhabited
def Im(a:fB):List D:=[.l (a.Steps.map eI)]
structure a9 where
 bj:aC
 c9:List aG
 deriving DecidableEq,Inhabited
def dx(a:a9):List F:=[esI a.bj.dO.ID.d4,esI a.bj.dO.ID.bZ,esI a.bj.dO.fA,esI a.bj.dO.c8,esI a.bj.bz,esI a.bj.bh,esI a.bj.ah,esI a.bj.bg,esI a.bj.aY,.s (.b a.bj.cj),esI a.bj.eU,esI a.bj.bW.bB,.l 100 2 (a.bj.bW.aA.map aX) a.bj.bW.aA.length,.l 151 1 (a.bj.bW.bi.map d8) a.bj.bW.bi.length,.l 42 11 (a.c9.map dM) a.c9.length]
structure bR where
 bb:ag
 eN:aj
 lW:List aG
 ct:List aD
 deriving DecidableEq,Inhabited
def b9(a:bR):List F:=[esI a.bb.bT.ID.d4,esI a.bb.bT.ID.bZ,esI a.bb.bT.fA,esI a.bb.bT.cX,esI a.bb.gB.jS,esI a.bb.gB.jO,esI a.bb.gB.eB,.l 3 1 (a.bb.gB.bQ.map eI) a.bb.gB.bQ.length,esI a.bb.bz,esI a.bb.aA.ez,esI a.bb.aA.f7,esI a.bb.aA.i7,esI a.bb.aA.vP,esI a.bb.aA.fA,esI a.bb.bG,esI a.bb.ah,esI a.bb.bg,esI a.bb.aY,esI a.bb.bh,esI a.bb.dQ,esI a.bb.f6.fF,esI a.bb.f6.eT,esI a.bb.f6.eU,.l 151 1 (a.bb.aS.map d8) a.bb.aS.length,esI a.bb.aK.bB,.l 100 2 (a.bb.aK.aF.map aX) a.bb.aK.aF.length,esI a.bb.dL,esI a.bb.bX.aO,esI a.bb.bX.cP,esI a.bb.bX.eH,esI a.eN.gm,esI a.eN.bK,esI a.eN.eR,.l 165 2 (a.eN.an.map cf) a.eN.an.length,.l 42 11 (a.lW.map dM) a.lW.length,.l 46 6 (a.ct.map dr) a.ct.length]
def cB:bR:=⟨AB,qt,[],[]⟩
structure TLeakedKey where
 ah:Int
 Path:fB
 deriving DecidableEq,Inhabited
structure bN where
 bb:ag
 c9:List aG
 deriving DecidableEq,Inhabited
def eh(a:bN):List F:=[esI a.bb.bT.ID.d4,esI a.bb.bT.ID.bZ,esI a.bb.bT.fA,esI a.bb.bT.cX,esI a.bb.gB.jS,esI a.bb.gB.jO,esI a.bb.gB.eB,.l 3 1 (a.bb.gB.bQ.map eI) a.bb.gB.bQ.length,esI a.bb.bz,esI a.bb.aA.ez,esI a.bb.aA.f7,esI a.bb.aA.i7,esI a.bb.aA.vP,esI a.bb.aA.fA,esI a.bb.bG,esI a.bb.ah,esI a.bb.bg,esI a.bb.aY,esI a.bb.bh,esI a.bb.dQ,esI a.bb.f6.fF,esI a.bb.f6.eT,esI a.bb.f6.eU,.l 151 1 (a.bb.aS.map d8) a.bb.aS.length,esI a.bb.aK.bB,.l 100 2 (a.bb.aK.aF.map aX) a.bb.aK.aF.length,esI a.bb.dL,esI a.bb.bX.aO,esI a.bb.bX.cP,esI a.bb.bX.eH,.l 42 11 (a.c9.map dM) a.c9.length]
structure gD where
 Code:Int
 vP:Int
 wO:Int
 Uh:Int
 deriving DecidableEq,Inhabited
def tu(a:gD):List F:=[esI a.Code,esI a.vP,esI a.wO,esI a.Uh]
def iX:gD:=⟨0,0,0,0⟩
theorem Try.follows:prog.follows .mixedOrders=true:=Tryz.follows
end Go.AM
