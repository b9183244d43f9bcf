/- A part. -/
import Derived.Test.YtcnfbcpgepbnkaaGreatE4
import Derived.Test.YtcnfbcpgepbnkaaGreatProg
set_option linter.unusedVariables false
set_option linter.unusedSimpArgs false
open Option renaming some->ς,none->ξ
open Bool renaming true->ζ,false->η
open True renaming intro->θ
namespace Go.AM
open Go.Proofs
open Tryz
variable{P:Program}{t:TypeId}{n:Nat}
theorem Qx(h:(P.info? t).map (·.size)=ς n):∃i,P.info? t=ς i/\i.size=n:=by
 cases hi:P.info? t with
 |none=>simp[hi] at h
 |some i=>simp[hi] at h;exact⟨i,rfl,h⟩
theorem X4{z:Value}(h:(P.info? t).map (·.zero)=ς (ς z)):∃i,P.info? t=ς i/\i.zero=ς z:=by
 cases hi:P.info? t with
 |none=>simp[hi] at h
 |some i=>simp[hi] at h;exact⟨i,rfl,h⟩
theorem info_s{z:Value}{b:Nat}(h:(P.info? t).map (λi=>(i.size,i.bytes,i.zero))=ς (n,b,ς z))(hz:z.cells.size=n):∃i z,P.info? t=ς i/\i.size=n/\i.bytes=b/\i.zero=ς z/\z.cells.size=n:=by
 cases hi:P.info? t with
 |none=>simp[hi] at h
 |some i=>simp[hi] at h;exact⟨i,z,rfl,h.1,h.2.1,h.2.2,hz⟩
theorem info_f(h:(P.info? t).map (·.size)=ς n)(hn:n≠0):∃i,P.info? t=ς i/\i.size≠0:=by
 cases hi:P.info? t with
 |none=>simp[hi] at h
 |some i=>simp[hi] at h;exact⟨i,rfl,by omega⟩
theorem cJ{z:Value}{Q:Value->Prop}(h:(P.info? t).map (·.zero)=ς (ς z))(q:Q z:=by exact rfl):∃i z,P.info? t=ς i/\i.zero=ς z/\Q z:=by
 obtain⟨i,h1,h2⟩:=X4 h
 exact⟨i,_,h1,h2,q⟩
theorem tynn(h:(P.info? t).map (·.size)=ς n:=by kernel_rfl):∃i,P.info? t=ς i/\i.size=n:=Qx h
theorem tyff(n:Nat)(h:(P.info? t).map (·.size)=ς n:=by kernel_rfl)(hn:n≠0:=by decide):∃i,P.info? t=ς i/\i.size≠0:=info_f h hn
theorem wL{z:Value}{b:Nat}(h1:(P.info? t).map (·.zero)=ς (ς z))(h:(P.info? t).map (λi=>(i.size,i.bytes))=ς (n,b):=by kernel_rfl)(hz:z.cells.size=n:=by exact rfl):∃i z,P.info? t=ς i/\i.size=n/\i.bytes=b/\i.zero=ς z/\z.cells.size=n:=by
 obtain⟨i,h2,h3⟩:=X4 h1
 simp[h2] at h
 exact⟨i,z,h2,h.1,h.2,h3,hz⟩
theorem tyf{t f off ft:Nat}{fs:Array Field}{fd:Field}(n:Nat)(hu:P.underlying t=ς (.struct fs))(h1:fs[f]?=ς fd:=by exact rfl)(h2:fd.offset=off:=by exact rfl)(h3:fd.type=ft:=by exact rfl)(h4:(P.info? ft).map (·.size)=ς n:=by kernel_rfl)(hn:n≠0:=by decide):TyF P t f off ft:=⟨_,_,hu,h1,h2,h3,tyff n h4 hn⟩
theorem gJ{t:Nat}(h:∀w,(isAgg t).run P w= .ok ζ w:=by intro w;kernel_rfl)(hn:(P.info? t).map (·.size)=ς n:=by kernel_rfl):en P t n:=⟨h,Qx hn⟩
theorem sV{t:Nat}(h:∀w,(isAgg t).run P w= .ok η w:=by intro w;kernel_rfl)(hn:(P.info? t).map (·.size)=ς 1:=by kernel_rfl):g9 P t:=⟨h,Qx hn⟩
instance {P:Program} {t n:Nat} [h:en P t n]:TyN P t n:=⟨h.n⟩
instance {P:Program} {t:Nat} [h:g9 P t]:TyN P t 1:=⟨h.n⟩
abbrev zvI:Value:=.int .i64 0
abbrev zvB:Value:=.bool η
abbrev zvN:Value:=.slice ξ 0 0
abbrev zcI:C:=.d η (.i .i64 0)
abbrev zcB:C:=.d η (.b η)
abbrev zdI:D:=.i .i64 0
abbrev zdB:D:=.b η
abbrev zdL:D:=.l []
abbrev edI(n:Int):D:=.i .i64 n
abbrev esI(n:Int):F:=.s (.i .i64 n)
instance:g9 prog 3:=sV
instance:TyU prog 3 (.int .i64):=⟨underlying3⟩
theorem Tryz.z3:(prog.info? 3).map (·.zero)=ς (ς zvI):=by kernel_rfl
instance:TyZ prog 3 [zcI]:=⟨cJ Tryz.z3⟩
instance:TyE prog 3 [zdI]:=⟨cJ Tryz.z3⟩
instance:g9 prog 4:=sV
instance:TyU prog 4 (.bool):=⟨underlying4⟩
theorem Tryz.z4:(prog.info? 4).map (·.zero)=ς (ς zvB):=by kernel_rfl
instance:TyZ prog 4 [zcB]:=⟨cJ Tryz.z4⟩
instance:TyE prog 4 [zdB]:=⟨cJ Tryz.z4⟩
instance:g9 prog 5:=sV
instance:TyU prog 5 (.int .u8):=⟨underlying5⟩
theorem Tryz.z5:(prog.info? 5).map (·.zero)=ς (ς (.int .u8 0)):=by kernel_rfl
instance:TyZ prog 5 [.d η (.i .u8 0)]:=⟨cJ Tryz.z5⟩
instance:TyE prog 5 [.i .u8 0]:=⟨cJ Tryz.z5⟩
instance:g9 prog 9:=sV
instance:TyU prog 9 (.string):=⟨underlying9⟩
theorem Tryz.z9:(prog.info? 9).map (·.zero)=ς (ς (.string ⟨#[]⟩)):=by kernel_rfl
instance:TyZ prog 9 [.d η (.str ⟨#[]⟩)]:=⟨cJ Tryz.z9⟩
instance:TyE prog 9 [.str ⟨#[]⟩]:=⟨cJ Tryz.z9⟩
instance:g9 prog 22:=sV
theorem Tryz.z22:(prog.info? 22).map (·.zero)=ς (ς zvN):=by kernel_rfl
instance:TyZ prog 22 [.nil]:=⟨cJ Tryz.z22⟩
instance:TyE prog 22 [zdL]:=⟨cJ Tryz.z22⟩
instance:en prog 24 1:=gJ
theorem Tryz.z24:(prog.info? 24).map (·.zero)=ς (ς (.agg #[zvN])):=by kernel_rfl
instance:TyZ prog 24 [.nil]:=⟨cJ Tryz.z24⟩
instance:TyE prog 24 [zdL]:=⟨cJ Tryz.z24⟩
instance:TyB prog 24 [(0,1)]:=⟨_,underlying24,λw=>by kernel_rfl⟩
instance:TyF prog 24 0 0 22:=tyf 1 underlying24
instance:g9 prog 25:=sV
theorem Tryz.z25:(prog.info? 25).map (·.zero)=ς (ς zvN):=by kernel_rfl
instance:TyZ prog 25 [.nil]:=⟨cJ Tryz.z25⟩
instance:TyE prog 25 [zdL]:=⟨cJ Tryz.z25⟩
instance:g9 prog 26:=sV
theorem Tryz.z26:(prog.info? 26).map (·.zero)=ς (ς zvN):=by kernel_rfl
instance:TyZ prog 26 [.nil]:=⟨cJ Tryz.z26⟩
instance:TyE prog 26 [zdL]:=⟨cJ Tryz.z26⟩
instance:g9 prog 27:=sV
theorem Tryz.z27:(prog.info? 27).map (·.zero)=ς (ς zvN):=by kernel_rfl
instance:TyZ prog 27 [.nil]:=⟨cJ Tryz.z27⟩
instance:TyE prog 27 [zdL]:=⟨cJ Tryz.z27⟩
instance:g9 prog 28:=sV
theorem Tryz.z28:(prog.info? 28).map (·.zero)=ς (ς zvN):=by kernel_rfl
instance:TyZ prog 28 [.nil]:=⟨cJ Tryz.z28⟩
instance:TyE prog 28 [zdL]:=⟨cJ Tryz.z28⟩
instance:en prog 30 2:=gJ
theorem Tryz.z30:(prog.info? 30).map (·.zero)=ς (ς (.agg #[zvI,zvI])):=by kernel_rfl
instance:TyZ prog 30 [zcI,zcI]:=⟨cJ Tryz.z30⟩
instance:TyE prog 30 [zdI,zdI]:=⟨cJ Tryz.z30⟩
instance:TyB prog 30 [(0,1),(1,1)]:=⟨_,underlying30,λw=>by kernel_rfl⟩
instance:TyF prog 30 0 0 3:=tyf 1 underlying30
instance:TyF prog 30 1 1 3:=tyf 1 underlying30
instance:en prog 32 10:=gJ
theorem Tryz.z32:(prog.info? 32).map (·.zero)=ς (ς (.agg #[zvN,zvN,zvN,zvN,zvN,zvI,zvI,zvI,zvI,zvI])):=by kernel_rfl
instance:TyZ prog 32 [.nil,.nil,.nil,.nil,.nil,zcI,zcI,zcI,zcI,zcI]:=⟨cJ Tryz.z32⟩
instance:TyE prog 32 [zdL,zdL,zdL,zdL,zdL,zdI,zdI,zdI,zdI,zdI]:=⟨cJ Tryz.z32⟩
instance:TyB prog 32 [(0,1),(1,1),(2,1),(3,1),(4,1),(5,1),(6,2),(8,1),(9,1)]:=⟨_,underlying32,λw=>by kernel_rfl⟩
instance:TyF prog 32 0 0 24:=tyf 1 underlying32
instance:TyF prog 32 1 1 25:=tyf 1 underlying32
instance:TyF prog 32 2 2 26:=tyf 1 underlying32
instance:TyF prog 32 3 3 27:=tyf 1 underlying32
instance:TyF prog 32 4 4 28:=tyf 1 underlying32
instance:TyF prog 32 5 5 3:=tyf 1 underlying32
instance:TyF prog 32 6 6 30:=tyf 2 underlying32
instance:TyF prog 32 7 8 3:=tyf 1 underlying32
instance:TyF prog 32 8 9 3:=tyf 1 underlying32
instance:g9 prog 34:=sV
theorem Tryz.z34:(prog.info? 34).map (·.zero)=ς (ς zvN):=by kernel_rfl
instance:TyZ prog 34 [.nil]:=⟨cJ Tryz.z34⟩
instance:TyE prog 34 [zdL]:=⟨cJ Tryz.z34⟩
instance:en prog 36 1:=gJ
theorem Tryz.z36:(prog.info? 36).map (·.zero)=ς (ς (.agg #[zvN])):=by kernel_rfl
instance:TyZ prog 36 [.nil]:=⟨cJ Tryz.z36⟩
instance:TyE prog 36 [zdL]:=⟨cJ Tryz.z36⟩
instance:TyB prog 36 [(0,1)]:=⟨_,underlying36,λw=>by kernel_rfl⟩
instance:TyF prog 36 0 0 34:=tyf 1 underlying36
instance:g9 prog 37:=sV
theorem Tryz.z37:(prog.info? 37).map (·.zero)=ς (ς zvN):=by kernel_rfl
instance:TyZ prog 37 [.nil]:=⟨cJ Tryz.z37⟩
instance:TyE prog 37 [zdL]:=⟨cJ Tryz.z37⟩
instance:g9 prog 38:=sV
theorem Tryz.z38:(prog.info? 38).map (·.zero)=ς (ς zvN):=by kernel_rfl
instance:TyZ prog 38 [.nil]:=⟨cJ Tryz.z38⟩
instance:TyE prog 38 [zdL]:=⟨cJ Tryz.z38⟩
instance:g9 prog 39:=sV
theorem Tryz.z39:(prog.info? 39).map (·.zero)=ς (ς zvN):=by kernel_rfl
instance:TyZ prog 39 [.nil]:=⟨cJ Tryz.z39⟩
instance:TyE prog 39 [zdL]:=⟨cJ Tryz.z39⟩
instance:g9 prog 40:=sV
theorem Tryz.z40:(prog.info? 40).map (·.zero)=ς (ς zvN):=by kernel_rfl
instance:TyZ prog 40 [.nil]:=⟨cJ Tryz.z40⟩
instance:TyE prog 40 [zdL]:=⟨cJ Tryz.z40⟩
instance:en prog 41 2:=gJ
theorem Tryz.z41:(prog.info? 41).map (·.zero)=ς (ς (.agg #[zvI,zvI])):=by kernel_rfl
instance:TyZ prog 41 [zcI,zcI]:=⟨cJ Tryz.z41⟩
instance:TyE prog 41 [zdI,zdI]:=⟨cJ Tryz.z41⟩
instance:TyB prog 41 [(0,1),(1,1)]:=⟨_,underlying41,λw=>by kernel_rfl⟩
instance:TyF prog 41 0 0 3:=tyf 1 underlying41
instance:TyF prog 41 1 1 3:=tyf 1 underlying41
instance:en prog 43 10:=gJ
theorem Tryz.z43:(prog.info? 43).map (·.zero)=ς (ς (.agg #[zvN,zvN,zvN,zvN,zvN,zvI,zvI,zvI,zvI,zvI])):=by kernel_rfl
instance:TyZ prog 43 [.nil,.nil,.nil,.nil,.nil,zcI,zcI,zcI,zcI,zcI]:=⟨cJ Tryz.z43⟩
instance:TyE prog 43 [zdL,zdL,zdL,zdL,zdL,zdI,zdI,zdI,zdI,zdI]:=⟨cJ Tryz.z43⟩
instance:TyB prog 43 [(0,1),(1,1),(2,1),(3,1),(4,1),(5,1),(6,2),(8,1),(9,1)]:=⟨_,underlying43,λw=>by kernel_rfl⟩
instance:TyF prog 43 0 0 36:=tyf 1 underlying43
instance:TyF prog 43 1 1 37:=tyf 1 underlying43
instance:TyF prog 43 2 2 38:=tyf 1 underlying43
instance:TyF prog 43 3 3 39:=tyf 1 underlying43
instance:TyF prog 43 4 4 40:=tyf 1 underlying43
instance:TyF prog 43 5 5 3:=tyf 1 underlying43
instance:TyF prog 43 6 6 41:=tyf 2 underlying43
instance:TyF prog 43 7 8 3:=tyf 1 underlying43
instance:TyF prog 43 8 9 3:=tyf 1 underlying43
instance:en prog 81 2:=gJ
theorem Tryz.z81:(prog.info? 81).map (·.zero)=ς (ς (.agg #[zvI,zvI])):=by kernel_rfl
instance:TyZ prog 81 [zcI,zcI]:=⟨cJ Tryz.z81⟩
instance:TyE prog 81 [zdI,zdI]:=⟨cJ Tryz.z81⟩
instance:TyB prog 81 [(0,1),(1,1)]:=⟨_,underlying81,λw=>by kernel_rfl⟩
instance:TyF prog 81 0 0 3:=tyf 1 underlying81
instance:TyF prog 81 1 1 3:=tyf 1 underlying81
instance:en prog 83 4:=gJ
theorem Tryz.z83:(prog.info? 83).map (·.zero)=ς (ς (.agg #[zvI,zvI,zvI,zvI])):=by kernel_rfl
instance:TyZ prog 83 [zcI,zcI,zcI,zcI]:=⟨cJ Tryz.z83⟩
instance:TyE prog 83 [zdI,zdI,zdI,zdI]:=⟨cJ Tryz.z83⟩
instance:TyB prog 83 [(0,2),(2,1),(3,1)]:=⟨_,underlying83,λw=>by kernel_rfl⟩
instance:TyF prog 83 0 0 81:=tyf 2 underlying83
instance:TyF prog 83 1 2 3:=tyf 1 underlying83
instance:TyF prog 83 2 3 3:=tyf 1 underlying83
instance:g9 prog 84:=sV
theorem Tryz.z84:(prog.info? 84).map (·.zero)=ς (ς zvN):=by kernel_rfl
instance:TyZ prog 84 [.nil]:=⟨cJ Tryz.z84⟩
instance:TyE prog 84 [zdL]:=⟨cJ Tryz.z84⟩
instance:g9 prog 85:=sV
theorem Tryz.z85:(prog.info? 85).map (·.zero)=ς (ς zvN):=by kernel_rfl
instance:TyZ prog 85 [.nil]:=⟨cJ Tryz.z85⟩
instance:TyE prog 85 [zdL]:=⟨cJ Tryz.z85⟩
instance:en prog 87 3:=gJ
theorem Tryz.z87:(prog.info? 87).map (·.zero)=ς (ς (.agg #[zvI,zvN,zvN])):=by kernel_rfl
instance:TyZ prog 87 [zcI,.nil,.nil]:=⟨cJ Tryz.z87⟩
instance:TyE prog 87 [zdI,zdL,zdL]:=⟨cJ Tryz.z87⟩
instance:TyB prog 87 [(0,1),(1,1),(2,1)]:=⟨_,underlying87,λw=>by kernel_rfl⟩
instance:TyF prog 87 0 0 3:=tyf 1 underlying87
instance:TyF prog 87 1 1 84:=tyf 1 underlying87
instance:TyF prog 87 2 2 85:=tyf 1 underlying87
instance:en prog 89 14:=gJ
theorem Tryz.z89:(prog.info? 89).map (·.zero)=ς (ς (.agg #[zvI,zvI,zvI,zvI,zvI,zvI,zvI,zvI,zvI,zvB,zvI,zvI,zvN,zvN])):=by kernel_rfl
instance:TyZ prog 89 [zcI,zcI,zcI,zcI,zcI,zcI,zcI,zcI,zcI,zcB,zcI,zcI,.nil,.nil]:=⟨cJ Tryz.z89⟩
instance:TyE prog 89 [zdI,zdI,zdI,zdI,zdI,zdI,zdI,zdI,zdI,zdB,zdI,zdI,zdL,zdL]:=⟨cJ Tryz.z89⟩
instance:TyB prog 89 [(0,4),(4,1),(5,1),(6,1),(7,1),(8,1),(9,1),(10,1),(11,3)]:=⟨_,underlying89,λw=>by kernel_rfl⟩
instance:TyF prog 89 0 0 83:=tyf 4 underlying89
instance:TyF prog 89 1 4 3:=tyf 1 underlying89
instance:TyF prog 89 2 5 3:=tyf 1 underlying89
instance:TyF prog 89 3 6 3:=tyf 1 underlying89
instance:TyF prog 89 4 7 3:=tyf 1 underlying89
instance:TyF prog 89 5 8 3:=tyf 1 underlying89
instance:TyF prog 89 6 9 4:=tyf 1 underlying89
instance:TyF prog 89 7 10 3:=tyf 1 underlying89
instance:TyF prog 89 8 11 87:=tyf 3 underlying89
instance:en prog 92 4:=gJ
theorem Tryz.z92:(prog.info? 92).map (·.zero)=ς (ς (.agg #[zvI,zvI,zvI,zvI])):=by kernel_rfl
instance:TyZ prog 92 [zcI,zcI,zcI,zcI]:=⟨cJ Tryz.z92⟩
instance:TyE prog 92 [zdI,zdI,zdI,zdI]:=⟨cJ Tryz.z92⟩
instance:TyB prog 92 [(0,2),(2,1),(3,1)]:=⟨_,underlying92,λw=>by kernel_rfl⟩
instance:TyF prog 92 0 0 81:=tyf 2 underlying92
instance:TyF prog 92 1 2 3:=tyf 1 underlying92
instance:TyF prog 92 2 3 3:=tyf 1 underlying92
instance:g9 prog 93:=sV
theorem Tryz.z93:(prog.info? 93).map (·.zero)=ς (ς zvN):=by kernel_rfl
instance:TyZ prog 93 [.nil]:=⟨cJ Tryz.z93⟩
instance:TyE prog 93 [zdL]:=⟨cJ Tryz.z93⟩
instance:en prog 95 4:=gJ
theorem Tryz.z95:(prog.info? 95).map (·.zero)=ς (ς (.agg #[zvI,zvI,zvI,zvN])):=by kernel_rfl
instance:TyZ prog 95 [zcI,zcI,zcI,.nil]:=⟨cJ Tryz.z95⟩
instance:TyE prog 95 [zdI,zdI,zdI,zdL]:=⟨cJ Tryz.z95⟩
instance:TyB prog 95 [(0,1),(1,1),(2,1),(3,1)]:=⟨_,underlying95,λw=>by kernel_rfl⟩
instance:TyF prog 95 0 0 3:=tyf 1 underlying95
instance:TyF prog 95 1 1 3:=tyf 1 underlying95
instance:TyF prog 95 2 2 3:=tyf 1 underlying95
instance:TyF prog 95 3 3 93:=tyf 1 underlying95
instance:en prog 97 5:=gJ
theorem Tryz.z97:(prog.info? 97).map (·.zero)=ς (ς (.agg #[zvI,zvI,zvI,zvI,zvI])):=by kernel_rfl
instance:TyZ prog 97 [zcI,zcI,zcI,zcI,zcI]:=⟨cJ Tryz.z97⟩
instance:TyE prog 97 [zdI,zdI,zdI,zdI,zdI]:=⟨cJ Tryz.z97⟩
instance:TyB prog 97 [(0,1),(1,1),(2,1),(3,1),(4,1)]:=⟨_,underlying97,λw=>by kernel_rfl⟩
instance:TyF prog 97 0 0 3:=tyf 1 underlying97
instance:TyF prog 97 1 1 3:=tyf 1 underlying97
instance:TyF prog 97 2 2 3:=tyf 1 underlying97
instance:TyF prog 97 3 3 3:=tyf 1 underlying97
instance:TyF prog 97 4 4 3:=tyf 1 underlying97
instance:en prog 99 3:=gJ
theorem Tryz.z99:(prog.info? 99).map (·.zero)=ς (ς (.agg #[zvI,zvI,zvI])):=by kernel_rfl
instance:TyZ prog 99 [zcI,zcI,zcI]:=⟨cJ Tryz.z99⟩
instance:TyE prog 99 [zdI,zdI,zdI]:=⟨cJ Tryz.z99⟩
instance:TyB prog 99 [(0,1),(1,1),(2,1)]:=⟨_,underlying99,λw=>by kernel_rfl⟩
instance:TyF prog 99 0 0 3:=tyf 1 underlying99
instance:TyF prog 99 1 1 3:=tyf 1 underlying99
instance:TyF prog 99 2 2 3:=tyf 1 underlying99
instance:en prog 101 2:=gJ
theorem Tryz.z101:(prog.info? 101).map (·.zero)=ς (ς (.agg #[zvI,zvN])):=by kernel_rfl
instance:TyZ prog 101 [zcI,.nil]:=⟨cJ Tryz.z101⟩
instance:TyE prog 101 [zdI,zdL]:=⟨cJ Tryz.z101⟩
instance:TyB prog 101 [(0,1),(1,1)]:=⟨_,underlying101,λw=>by kernel_rfl⟩
instance:TyF prog 101 0 0 3:=tyf 1 underlying101
instance:TyF prog 101 1 1 84:=tyf 1 underlying101
instance:en prog 103 3:=gJ
theorem Tryz.z103:(prog.info? 103).map (·.zero)=ς (ς (.agg #[zvI,zvI,zvI])):=by kernel_rfl
instance:TyZ prog 103 [zcI,zcI,zcI]:=⟨cJ Tryz.z103⟩
instance:TyE prog 103 [zdI,zdI,zdI]:=⟨cJ Tryz.z103⟩
instance:TyB prog 103 [(0,1),(1,1),(2,1)]:=⟨_,underlying103,λw=>by kernel_rfl⟩
instance:TyF prog 103 0 0 3:=tyf 1 underlying103
instance:TyF prog 103 1 1 3:=tyf 1 underlying103
instance:TyF prog 103 2 2 3:=tyf 1 underlying103
instance:en prog 105 30:=gJ
theorem Tryz.z105:(prog.info? 105).map (·.zero)=ς (ς (.agg #[zvI,zvI,zvI,zvI,zvI,zvI,zvI,zvN,zvI,zvI,zvI,zvI,zvI,zvI,zvI,zvI,zvI,zvI,zvI,zvI,zvI,zvI,zvI,zvN,zvI,zvN,zvI,zvI,zvI,zvI])):=by kernel_rfl
instance:TyZ prog 105 [zcI,zcI,zcI,zcI,zcI,zcI,zcI,.nil,zcI,zcI,zcI,zcI,zcI,zcI,zcI,zcI,zcI,zcI,zcI,zcI,zcI,zcI,zcI,.nil,zcI,.nil,zcI,zcI,zcI,zcI]:=⟨cJ Tryz.z105⟩
instance:TyE prog 105 [zdI,zdI,zdI,zdI,zdI,zdI,zdI,zdL,zdI,zdI,zdI,zdI,zdI,zdI,zdI,zdI,zdI,zdI,zdI,zdI,zdI,zdI,zdI,zdL,zdI,zdL,zdI,zdI,zdI,zdI]:=⟨cJ Tryz.z105⟩
instance:TyB prog 105 [(0,4),(4,4),(8,1),(9,5),(14,1),(15,1),(16,1),(17,1),(18,1),(19,1),(20,3),(23,1),(24,2),(26,1),(27,3)]:=⟨_,underlying105,λw=>by kernel_rfl⟩
instance:TyF prog 105 0 0 92:=tyf 4 underlying105
instance:TyF prog 105 1 4 95:=tyf 4 underlying105
instance:TyF prog 105 2 8 3:=tyf 1 underlying105
instance:TyF prog 105 3 9 97:=tyf 5 underlying105
instance:TyF prog 105 4 14 3:=tyf 1 underlying105
instance:TyF prog 105 5 15 3:=tyf 1 underlying105
instance:TyF prog 105 6 16 3:=tyf 1 underlying105
instance:TyF prog 105 7 17 3:=tyf 1 underlying105
instance:TyF prog 105 8 18 3:=tyf 1 underlying105
instance:TyF prog 105 9 19 3:=tyf 1 underlying105
instance:TyF prog 105 10 20 99:=tyf 3 underlying105
instance:TyF prog 105 11 23 85:=tyf 1 underlying105
instance:TyF prog 105 12 24 101:=tyf 2 underlying105
instance:TyF prog 105 13 26 3:=tyf 1 underlying105
instance:TyF prog 105 14 27 103:=tyf 3 underlying105
instance:g9 prog 107:=sV
theorem Tryz.z107:(prog.info? 107).map (·.zero)=ς (ς zvN):=by kernel_rfl
instance:TyZ prog 107 [.nil]:=⟨cJ Tryz.z107⟩
instance:TyE prog 107 [zdL]:=⟨cJ Tryz.z107⟩
instance:en prog 109 4:=gJ
theorem Tryz.z109:(prog.info? 109).map (·.zero)=ς (ς (.agg #[zvI,zvI,zvI,zvN])):=by kernel_rfl
instance:TyZ prog 109 [zcI,zcI,zcI,.nil]:=⟨cJ Tryz.z109⟩
instance:TyE prog 109 [zdI,zdI,zdI,zdL]:=⟨cJ Tryz.z109⟩
instance:TyB prog 109 [(0,1),(1,1),(2,1),(3,1)]:=⟨_,underlying109,λw=>by kernel_rfl⟩
instance:TyF prog 109 0 0 3:=tyf 1 underlying109
instance:TyF prog 109 1 1 3:=tyf 1 underlying109
instance:TyF prog 109 2 2 3:=tyf 1 underlying109
instance:TyF prog 109 3 3 107:=tyf 1 underlying109
instance:en prog 112 11:=gJ
theorem Tryz.z112:(prog.info? 112).map (·.zero)=ς (ς (.agg #[zvI,zvI,zvI,zvI,zvI,zvI,zvI,zvI,zvI,zvI,zvI])):=by kernel_rfl
instance:TyZ prog 112 [zcI,zcI,zcI,zcI,zcI,zcI,zcI,zcI,zcI,zcI,zcI]:=⟨cJ Tryz.z112⟩
instance:TyE prog 112 [zdI,zdI,zdI,zdI,zdI,zdI,zdI,zdI,zdI,zdI,zdI]:=⟨cJ Tryz.z112⟩
instance:TyB prog 112 [(0,1),(1,1),(2,1),(3,1),(4,1),(5,5),(10,1)]:=⟨_,underlying112,λw=>by kernel_rfl⟩
instance:TyF prog 112 0 0 3:=tyf 1 underlying112
instance:TyF prog 112 1 1 3:=tyf 1 underlying112
instance:TyF prog 112 2 2 3:=tyf 1 underlying112
instance:TyF prog 112 3 3 3:=tyf 1 underlying112
instance:TyF prog 112 4 4 3:=tyf 1 underlying112
instance:TyF prog 112 5 5 97:=tyf 5 underlying112
instance:TyF prog 112 6 10 3:=tyf 1 underlying112
instance:g9 prog 113:=sV
theorem Tryz.z113:(prog.info? 113).map (·.zero)=ς (ς zvN):=by kernel_rfl
instance:TyZ prog 113 [.nil]:=⟨cJ Tryz.z113⟩
instance:TyE prog 113 [zdL]:=⟨cJ Tryz.z113⟩
instance:en prog 115 4:=gJ
theorem Tryz.z115:(prog.info? 115).map (·.zero)=ς (ς (.agg #[zvI,zvI,zvN,zvI])):=by kernel_rfl
instance:TyZ prog 115 [zcI,zcI,.nil,zcI]:=⟨cJ Tryz.z115⟩
instance:TyE prog 115 [zdI,zdI,zdL,zdI]:=⟨cJ Tryz.z115⟩
instance:TyB prog 115 [(0,1),(1,1),(2,1),(3,1)]:=⟨_,underlying115,λw=>by kernel_rfl⟩
instance:TyF prog 115 0 0 3:=tyf 1 underlying115
instance:TyF prog 115 1 1 3:=tyf 1 underlying115
instance:TyF prog 115 2 2 113:=tyf 1 underlying115
instance:TyF prog 115 3 3 3:=tyf 1 underlying115
instance:en prog 117 6:=gJ
theorem Tryz.z117:(prog.info? 117).map (·.zero)=ς (ς (.agg #[zvI,zvI,zvI,zvI,zvN,zvI])):=by kernel_rfl
instance:TyZ prog 117 [zcI,zcI,zcI,zcI,.nil,zcI]:=⟨cJ Tryz.z117⟩
instance:TyE prog 117 [zdI,zdI,zdI,zdI,zdL,zdI]:=⟨cJ Tryz.z117⟩
instance:TyB prog 117 [(0,1),(1,1),(2,4)]:=⟨_,underlying117,λw=>by kernel_rfl⟩
instance:TyF prog 117 0 0 3:=tyf 1 underlying117
instance:TyF prog 117 1 1 3:=tyf 1 underlying117
instance:TyF prog 117 2 2 115:=tyf 4 underlying117
instance:en prog 119 21:=gJ
theorem Tryz.z119:(prog.info? 119).map (·.zero)=ς (ς (.agg #[zvI,zvB,zvB,zvI,zvI,zvI,zvI,zvI,zvI,zvI,zvI,zvI,zvI,zvI,zvI,zvI,zvI,zvI,zvI,zvN,zvI])):=by kernel_rfl
instance:TyZ prog 119 [zcI,zcB,zcB,zcI,zcI,zcI,zcI,zcI,zcI,zcI,zcI,zcI,zcI,zcI,zcI,zcI,zcI,zcI,zcI,.nil,zcI]:=⟨cJ Tryz.z119⟩
instance:TyE prog 119 [zdI,zdB,zdB,zdI,zdI,zdI,zdI,zdI,zdI,zdI,zdI,zdI,zdI,zdI,zdI,zdI,zdI,zdI,zdI,zdL,zdI]:=⟨cJ Tryz.z119⟩
instance:TyB prog 119 [(0,1),(1,1),(2,1),(3,1),(4,11),(15,6)]:=⟨_,underlying119,λw=>by kernel_rfl⟩
instance:TyF prog 119 0 0 3:=tyf 1 underlying119
instance:TyF prog 119 1 1 4:=tyf 1 underlying119
instance:TyF prog 119 2 2 4:=tyf 1 underlying119
instance:TyF prog 119 3 3 3:=tyf 1 underlying119
instance:TyF prog 119 4 4 112:=tyf 11 underlying119
instance:TyF prog 119 5 15 117:=tyf 6 underlying119
instance:en prog 121 2:=gJ
theorem Tryz.z121:(prog.info? 121).map (·.zero)=ς (ς (.agg #[zvI,zvI])):=by kernel_rfl
instance:TyZ prog 121 [zcI,zcI]:=⟨cJ Tryz.z121⟩
instance:TyE prog 121 [zdI,zdI]:=⟨cJ Tryz.z121⟩
instance:TyB prog 121 [(0,1),(1,1)]:=⟨_,underlying121,λw=>by kernel_rfl⟩
instance:TyF prog 121 0 0 3:=tyf 1 underlying121
instance:TyF prog 121 1 1 3:=tyf 1 underlying121
instance:en prog 123 4:=gJ
theorem Tryz.z123:(prog.info? 123).map (·.zero)=ς (ς (.agg #[zvI,zvI,zvI,zvI])):=by kernel_rfl
instance:TyZ prog 123 [zcI,zcI,zcI,zcI]:=⟨cJ Tryz.z123⟩
instance:TyE prog 123 [zdI,zdI,zdI,zdI]:=⟨cJ Tryz.z123⟩
instance:TyB prog 123 [(0,2),(2,1),(3,1)]:=⟨_,underlying123,λw=>by kernel_rfl⟩
instance:TyF prog 123 0 0 121:=tyf 2 underlying123
instance:TyF prog 123 1 2 3:=tyf 1 underlying123
instance:TyF prog 123 2 3 3:=tyf 1 underlying123
instance:g9 prog 124:=sV
theorem Tryz.z124:(prog.info? 124).map (·.zero)=ς (ς zvN):=by kernel_rfl
instance:TyZ prog 124 [.nil]:=⟨cJ Tryz.z124⟩
instance:TyE prog 124 [zdL]:=⟨cJ Tryz.z124⟩
instance:g9 prog 125:=sV
theorem Tryz.z125:(prog.info? 125).map (·.zero)=ς (ς zvN):=by kernel_rfl
instance:TyZ prog 125 [.nil]:=⟨cJ Tryz.z125⟩
instance:TyE prog 125 [zdL]:=⟨cJ Tryz.z125⟩
instance:en prog 127 3:=gJ
theorem Tryz.z127:(prog.info? 127).map (·.zero)=ς (ς (.agg #[zvI,zvN,zvN])):=by kernel_rfl
instance:TyZ prog 127 [zcI,.nil,.nil]:=⟨cJ Tryz.z127⟩
instance:TyE prog 127 [zdI,zdL,zdL]:=⟨cJ Tryz.z127⟩
instance:TyB prog 127 [(0,1),(1,1),(2,1)]:=⟨_,underlying127,λw=>by kernel_rfl⟩
instance:TyF prog 127 0 0 3:=tyf 1 underlying127
instance:TyF prog 127 1 1 124:=tyf 1 underlying127
instance:TyF prog 127 2 2 125:=tyf 1 underlying127
instance:en prog 129 14:=gJ
theorem Tryz.z129:(prog.info? 129).map (·.zero)=ς (ς (.agg #[zvI,zvI,zvI,zvI,zvI,zvI,zvI,zvI,zvI,zvB,zvI,zvI,zvN,zvN])):=by kernel_rfl
instance:TyZ prog 129 [zcI,zcI,zcI,zcI,zcI,zcI,zcI,zcI,zcI,zcB,zcI,zcI,.nil,.nil]:=⟨cJ Tryz.z129⟩
instance:TyE prog 129 [zdI,zdI,zdI,zdI,zdI,zdI,zdI,zdI,zdI,zdB,zdI,zdI,zdL,zdL]:=⟨cJ Tryz.z129⟩
instance:TyB prog 129 [(0,4),(4,1),(5,1),(6,1),(7,1),(8,1),(9,1),(10,1),(11,3)]:=⟨_,underlying129,λw=>by kernel_rfl⟩
instance:TyF prog 129 0 0 123:=tyf 4 underlying129
instance:TyF prog 129 1 4 3:=tyf 1 underlying129
instance:TyF prog 129 2 5 3:=tyf 1 underlying129
instance:TyF prog 129 3 6 3:=tyf 1 underlying129
instance:TyF prog 129 4 7 3:=tyf 1 underlying129
instance:TyF prog 129 5 8 3:=tyf 1 underlying129
instance:TyF prog 129 6 9 4:=tyf 1 underlying129
instance:TyF prog 129 7 10 3:=tyf 1 underlying129
instance:TyF prog 129 8 11 127:=tyf 3 underlying129
instance:en prog 132 4:=gJ
theorem Tryz.z132:(prog.info? 132).map (·.zero)=ς (ς (.agg #[zvI,zvI,zvI,zvI])):=by kernel_rfl
instance:TyZ prog 132 [zcI,zcI,zcI,zcI]:=⟨cJ Tryz.z132⟩
instance:TyE prog 132 [zdI,zdI,zdI,zdI]:=⟨cJ Tryz.z132⟩
instance:TyB prog 132 [(0,2),(2,1),(3,1)]:=⟨_,underlying132,λw=>by kernel_rfl⟩
instance:TyF prog 132 0 0 121:=tyf 2 underlying132
instance:TyF prog 132 1 2 3:=tyf 1 underlying132
instance:TyF prog 132 2 3 3:=tyf 1 underlying132
instance:en prog 133 4:=gJ
theorem Tryz.z133:(prog.info? 133).map (·.zero)=ς (ς (.agg #[zvI,zvI,zvI,zvN])):=by kernel_rfl
instance:TyZ prog 133 [zcI,zcI,zcI,.nil]:=⟨cJ Tryz.z133⟩
instance:TyE prog 133 [zdI,zdI,zdI,zdL]:=⟨cJ Tryz.z133⟩
instance:TyB prog 133 [(0,1),(1,1),(2,1),(3,1)]:=⟨_,underlying133,λw=>by kernel_rfl⟩
instance:TyF prog 133 0 0 3:=tyf 1 underlying133
instance:TyF prog 133 1 1 3:=tyf 1 underlying133
instance:TyF prog 133 2 2 3:=tyf 1 underlying133
instance:TyF prog 133 3 3 93:=tyf 1 underlying133
instance:en prog 134 5:=gJ
theorem Tryz.z134:(prog.info? 134).map (·.zero)=ς (ς (.agg #[zvI,zvI,zvI,zvI,zvI])):=by kernel_rfl
instance:TyZ prog 134 [zcI,zcI,zcI,zcI,zcI]:=⟨cJ Tryz.z134⟩
instance:TyE prog 134 [zdI,zdI,zdI,zdI,zdI]:=⟨cJ Tryz.z134⟩
instance:TyB prog 134 [(0,1),(1,1),(2,1),(3,1),(4,1)]:=⟨_,underlying134,λw=>by kernel_rfl⟩
instance:TyF prog 134 0 0 3:=tyf 1 underlying134
instance:TyF prog 134 1 1 3:=tyf 1 underlying134
instance:TyF prog 134 2 2 3:=tyf 1 underlying134
instance:TyF prog 134 3 3 3:=tyf 1 underlying134
instance:TyF prog 134 4 4 3:=tyf 1 underlying134
instance:en prog 135 3:=gJ
theorem Tryz.z135:(prog.info? 135).map (·.zero)=ς (ς (.agg #[zvI,zvI,zvI])):=by kernel_rfl
instance:TyZ prog 135 [zcI,zcI,zcI]:=⟨cJ Tryz.z135⟩
instance:TyE prog 135 [zdI,zdI,zdI]:=⟨cJ Tryz.z135⟩
instance:TyB prog 135 [(0,1),(1,1),(2,1)]:=⟨_,underlying135,λw=>by kernel_rfl⟩
instance:TyF prog 135 0 0 3:=tyf 1 underlying135
instance:TyF prog 135 1 1 3:=tyf 1 underlying135
instance:TyF prog 135 2 2 3:=tyf 1 underlying135
instance:en prog 137 2:=gJ
theorem Tryz.z137:(prog.info? 137).map (·.zero)=ς (ς (.agg #[zvI,zvN])):=by kernel_rfl
instance:TyZ prog 137 [zcI,.nil]:=⟨cJ Tryz.z137⟩
instance:TyE prog 137 [zdI,zdL]:=⟨cJ Tryz.z137⟩
instance:TyB prog 137 [(0,1),(1,1)]:=⟨_,underlying137,λw=>by kernel_rfl⟩
instance:TyF prog 137 0 0 3:=tyf 1 underlying137
instance:TyF prog 137 1 1 124:=tyf 1 underlying137
instance:en prog 138 3:=gJ
theorem Tryz.z138:(prog.info? 138).map (·.zero)=ς (ς (.agg #[zvI,zvI,zvI])):=by kernel_rfl
instance:TyZ prog 138 [zcI,zcI,zcI]:=⟨cJ Tryz.z138⟩
instance:TyE prog 138 [zdI,zdI,zdI]:=⟨cJ Tryz.z138⟩
instance:TyB prog 138 [(0,1),(1,1),(2,1)]:=⟨_,underlying138,λw=>by kernel_rfl⟩
instance:TyF prog 138 0 0 3:=tyf 1 underlying138
instance:TyF prog 138 1 1 3:=tyf 1 underlying138
instance:TyF prog 138 2 2 3:=tyf 1 underlying138
instance:en prog 140 30:=gJ
theorem Tryz.z140:(prog.info? 140).map (·.zero)=ς (ς (.agg #[zvI,zvI,zvI,zvI,zvI,zvI,zvI,zvN,zvI,zvI,zvI,zvI,zvI,zvI,zvI,zvI,zvI,zvI,zvI,zvI,zvI,zvI,zvI,zvN,zvI,zvN,zvI,zvI,zvI,zvI])):=by kernel_rfl
instance:TyZ prog 140 [zcI,zcI,zcI,zcI,zcI,zcI,zcI,.nil,zcI,zcI,zcI,zcI,zcI,zcI,zcI,zcI,zcI,zcI,zcI,zcI,zcI,zcI,zcI,.nil,zcI,.nil,zcI,zcI,zcI,zcI]:=⟨cJ Tryz.z140⟩
instance:TyE prog 140 [zdI,zdI,zdI,zdI,zdI,zdI,zdI,zdL,zdI,zdI,zdI,zdI,zdI,zdI,zdI,zdI,zdI,zdI,zdI,zdI,zdI,zdI,zdI,zdL,zdI,zdL,zdI,zdI,zdI,zdI]:=⟨cJ Tryz.z140⟩
instance:TyB prog 140 [(0,4),(4,4),(8,1),(9,5),(14,1),(15,1),(16,1),(17,1),(18,1),(19,1),(20,3),(23,1),(24,2),(26,1),(27,3)]:=⟨_,underlying140,λw=>by kernel_rfl⟩
instance:TyF prog 140 0 0 132:=tyf 4 underlying140
instance:TyF prog 140 1 4 133:=tyf 4 underlying140
instance:TyF prog 140 2 8 3:=tyf 1 underlying140
instance:TyF prog 140 3 9 134:=tyf 5 underlying140
instance:TyF prog 140 4 14 3:=tyf 1 underlying140
instance:TyF prog 140 5 15 3:=tyf 1 underlying140
instance:TyF prog 140 6 16 3:=tyf 1 underlying140
instance:TyF prog 140 7 17 3:=tyf 1 underlying140
instance:TyF prog 140 8 18 3:=tyf 1 underlying140
instance:TyF prog 140 9 19 3:=tyf 1 underlying140
instance:TyF prog 140 10 20 135:=tyf 3 underlying140
instance:TyF prog 140 11 23 125:=tyf 1 underlying140
instance:TyF prog 140 12 24 137:=tyf 2 underlying140
instance:TyF prog 140 13 26 3:=tyf 1 underlying140
instance:TyF prog 140 14 27 138:=tyf 3 underlying140
instance:g9 prog 142:=sV
theorem Tryz.z142:(prog.info? 142).map (·.zero)=ς (ς zvN):=by kernel_rfl
instance:TyZ prog 142 [.nil]:=⟨cJ Tryz.z142⟩
instance:TyE prog 142 [zdL]:=⟨cJ Tryz.z142⟩
instance:en prog 144 4:=gJ
theorem Tryz.z144:(prog.info? 144).map (·.zero)=ς (ς (.agg #[zvI,zvI,zvI,zvN])):=by kernel_rfl
instance:TyZ prog 144 [zcI,zcI,zcI,.nil]:=⟨cJ Tryz.z144⟩
instance:TyE prog 144 [zdI,zdI,zdI,zdL]:=⟨cJ Tryz.z144⟩
instance:TyB prog 144 [(0,1),(1,1),(2,1),(3,1)]:=⟨_,underlying144,λw=>by kernel_rfl⟩
instance:TyF prog 144 0 0 3:=tyf 1 underlying144
instance:TyF prog 144 1 1 3:=tyf 1 underlying144
instance:TyF prog 144 2 2 3:=tyf 1 underlying144
instance:TyF prog 144 3 3 142:=tyf 1 underlying144
instance:en prog 147 11:=gJ
theorem Tryz.z147:(prog.info? 147).map (·.zero)=ς (ς (.agg #[zvI,zvI,zvI,zvI,zvI,zvI,zvI,zvI,zvI,zvI,zvI])):=by kernel_rfl
instance:TyZ prog 147 [zcI,zcI,zcI,zcI,zcI,zcI,zcI,zcI,zcI,zcI,zcI]:=⟨cJ Tryz.z147⟩
instance:TyE prog 147 [zdI,zdI,zdI,zdI,zdI,zdI,zdI,zdI,zdI,zdI,zdI]:=⟨cJ Tryz.z147⟩
instance:TyB prog 147 [(0,1),(1,1),(2,1),(3,1),(4,1),(5,5),(10,1)]:=⟨_,underlying147,λw=>by kernel_rfl⟩
instance:TyF prog 147 0 0 3:=tyf 1 underlying147
instance:TyF prog 147 1 1 3:=tyf 1 underlying147
instance:TyF prog 147 2 2 3:=tyf 1 underlying147
instance:TyF prog 147 3 3 3:=tyf 1 underlying147
instance:TyF prog 147 4 4 3:=tyf 1 underlying147
instance:TyF prog 147 5 5 134:=tyf 5 underlying147
instance:TyF prog 147 6 10 3:=tyf 1 underlying147
instance:en prog 148 4:=gJ
theorem Tryz.z148:(prog.info? 148).map (·.zero)=ς (ς (.agg #[zvI,zvI,zvN,zvI])):=by kernel_rfl
instance:TyZ prog 148 [zcI,zcI,.nil,zcI]:=⟨cJ Tryz.z148⟩
instance:TyE prog 148 [zdI,zdI,zdL,zdI]:=⟨cJ Tryz.z148⟩
instance:TyB prog 148 [(0,1),(1,1),(2,1),(3,1)]:=⟨_,underlying148,λw=>by kernel_rfl⟩
instance:TyF prog 148 0 0 3:=tyf 1 underlying148
instance:TyF prog 148 1 1 3:=tyf 1 underlying148
instance:TyF prog 148 2 2 113:=tyf 1 underlying148
instance:TyF prog 148 3 3 3:=tyf 1 underlying148
instance:en prog 150 6:=gJ
theorem Tryz.z150:(prog.info? 150).map (·.zero)=ς (ς (.agg #[zvI,zvI,zvI,zvI,zvN,zvI])):=by kernel_rfl
instance:TyZ prog 150 [zcI,zcI,zcI,zcI,.nil,zcI]:=⟨cJ Tryz.z150⟩
instance:TyE prog 150 [zdI,zdI,zdI,zdI,zdL,zdI]:=⟨cJ Tryz.z150⟩
instance:TyB prog 150 [(0,1),(1,1),(2,4)]:=⟨_,underlying150,λw=>by kernel_rfl⟩
instance:TyF prog 150 0 0 3:=tyf 1 underlying150
instance:TyF prog 150 1 1 3:=tyf 1 underlying150
instance:TyF prog 150 2 2 148:=tyf 4 underlying150
instance:en prog 152 21:=gJ
theorem Tryz.z152:(prog.info? 152).map (·.zero)=ς (ς (.agg #[zvI,zvB,zvB,zvI,zvI,zvI,zvI,zvI,zvI,zvI,zvI,zvI,zvI,zvI,zvI,zvI,zvI,zvI,zvI,zvN,zvI])):=by kernel_rfl
instance:TyZ prog 152 [zcI,zcB,zcB,zcI,zcI,zcI,zcI,zcI,zcI,zcI,zcI,zcI,zcI,zcI,zcI,zcI,zcI,zcI,zcI,.nil,zcI]:=⟨cJ Tryz.z152⟩
instance:TyE prog 152 [zdI,zdB,zdB,zdI,zdI,zdI,zdI,zdI,zdI,zdI,zdI,zdI,zdI,zdI,zdI,zdI,zdI,zdI,zdI,zdL,zdI]:=⟨cJ Tryz.z152⟩
instance:TyB prog 152 [(0,1),(1,1),(2,1),(3,1),(4,11),(15,6)]:=⟨_,underlying152,λw=>by kernel_rfl⟩
instance:TyF prog 152 0 0 3:=tyf 1 underlying152
instance:TyF prog 152 1 1 4:=tyf 1 underlying152
instance:TyF prog 152 2 2 4:=tyf 1 underlying152
instance:TyF prog 152 3 3 3:=tyf 1 underlying152
instance:TyF prog 152 4 4 147:=tyf 11 underlying152
instance:TyF prog 152 5 15 150:=tyf 6 underlying152
instance:g9 prog 179:=sV
theorem Tryz.z179:(prog.info? 179).map (·.zero)=ς (ς zvN):=by kernel_rfl
instance:TyZ prog 179 [.nil]:=⟨cJ Tryz.z179⟩
instance:TyE prog 179 [zdL]:=⟨cJ Tryz.z179⟩
instance:en prog 181 15:=gJ
theorem Tryz.z181:(prog.info? 181).map (·.zero)=ς (ς (.agg #[zvI,zvI,zvI,zvI,zvI,zvI,zvI,zvI,zvI,zvB,zvI,zvI,zvN,zvN,zvN])):=by kernel_rfl
instance:TyZ prog 181 [zcI,zcI,zcI,zcI,zcI,zcI,zcI,zcI,zcI,zcB,zcI,zcI,.nil,.nil,.nil]:=⟨cJ Tryz.z181⟩
instance:TyE prog 181 [zdI,zdI,zdI,zdI,zdI,zdI,zdI,zdI,zdI,zdB,zdI,zdI,zdL,zdL,zdL]:=⟨cJ Tryz.z181⟩
instance:TyB prog 181 [(0,14),(14,1)]:=⟨_,underlying181,λw=>by kernel_rfl⟩
instance:TyF prog 181 0 0 129:=tyf 14 underlying181
instance:TyF prog 181 1 14 179:=tyf 1 underlying181
instance:g9 prog 183:=sV
theorem Tryz.z183:(prog.info? 183).map (·.zero)=ς (ς zvN):=by kernel_rfl
instance:TyZ prog 183 [.nil]:=⟨cJ Tryz.z183⟩
instance:TyE prog 183 [zdL]:=⟨cJ Tryz.z183⟩
instance:en prog 185 36:=gJ
theorem Tryz.z185:(prog.info? 185).map (·.zero)=ς (ς (.agg #[zvI,zvI,zvI,zvI,zvI,zvI,zvI,zvN,zvI,zvI,zvI,zvI,zvI,zvI,zvI,zvI,zvI,zvI,zvI,zvI,zvI,zvI,zvI,zvN,zvI,zvN,zvI,zvI,zvI,zvI,zvI,zvI,zvI,zvN,zvN,zvN])):=by kernel_rfl
instance:TyZ prog 185 [zcI,zcI,zcI,zcI,zcI,zcI,zcI,.nil,zcI,zcI,zcI,zcI,zcI,zcI,zcI,zcI,zcI,zcI,zcI,zcI,zcI,zcI,zcI,.nil,zcI,.nil,zcI,zcI,zcI,zcI,zcI,zcI,zcI,.nil,.nil,.nil]:=⟨cJ Tryz.z185⟩
instance:TyE prog 185 [zdI,zdI,zdI,zdI,zdI,zdI,zdI,zdL,zdI,zdI,zdI,zdI,zdI,zdI,zdI,zdI,zdI,zdI,zdI,zdI,zdI,zdI,zdI,zdL,zdI,zdL,zdI,zdI,zdI,zdI,zdI,zdI,zdI,zdL,zdL,zdL]:=⟨cJ Tryz.z185⟩
instance:TyB prog 185 [(0,30),(30,4),(34,1),(35,1)]:=⟨_,underlying185,λw=>by kernel_rfl⟩
instance:TyF prog 185 0 0 140:=tyf 30 underlying185
instance:TyF prog 185 1 30 144:=tyf 4 underlying185
instance:TyF prog 185 2 34 179:=tyf 1 underlying185
instance:TyF prog 185 3 35 183:=tyf 1 underlying185
instance:en prog 191 2:=gJ
theorem Tryz.z191:(prog.info? 191).map (·.zero)=ς (ς (.agg #[zvI,zvN])):=by kernel_rfl
instance:TyZ prog 191 [zcI,.nil]:=⟨cJ Tryz.z191⟩
instance:TyE prog 191 [zdI,zdL]:=⟨cJ Tryz.z191⟩
instance:TyB prog 191 [(0,1),(1,1)]:=⟨_,underlying191,λw=>by kernel_rfl⟩
instance:TyF prog 191 0 0 3:=tyf 1 underlying191
instance:TyF prog 191 1 1 93:=tyf 1 underlying191
instance:en prog 198 2:=gJ
theorem Tryz.z198:(prog.info? 198).map (·.zero)=ς (ς (.agg #[zvI,zvN])):=by kernel_rfl
instance:TyZ prog 198 [zcI,.nil]:=⟨cJ Tryz.z198⟩
instance:TyE prog 198 [zdI,zdL]:=⟨cJ Tryz.z198⟩
instance:TyB prog 198 [(0,1),(1,1)]:=⟨_,underlying198,λw=>by kernel_rfl⟩
instance:TyF prog 198 0 0 3:=tyf 1 underlying198
instance:TyF prog 198 1 1 93:=tyf 1 underlying198
instance:en prog 211 31:=gJ
theorem Tryz.z211:(prog.info? 211).map (·.zero)=ς (ς (.agg #[zvI,zvI,zvI,zvI,zvI,zvI,zvI,zvN,zvI,zvI,zvI,zvI,zvI,zvI,zvI,zvI,zvI,zvI,zvI,zvI,zvI,zvI,zvI,zvN,zvI,zvN,zvI,zvI,zvI,zvI,zvN])):=by kernel_rfl
instance:TyZ prog 211 [zcI,zcI,zcI,zcI,zcI,zcI,zcI,.nil,zcI,zcI,zcI,zcI,zcI,zcI,zcI,zcI,zcI,zcI,zcI,zcI,zcI,zcI,zcI,.nil,zcI,.nil,zcI,zcI,zcI,zcI,.nil]:=⟨cJ Tryz.z211⟩
instance:TyE prog 211 [zdI,zdI,zdI,zdI,zdI,zdI,zdI,zdL,zdI,zdI,zdI,zdI,zdI,zdI,zdI,zdI,zdI,zdI,zdI,zdI,zdI,zdI,zdI,zdL,zdI,zdL,zdI,zdI,zdI,zdI,zdL]:=⟨cJ Tryz.z211⟩
instance:TyB prog 211 [(0,30),(30,1)]:=⟨_,underlying211,λw=>by kernel_rfl⟩
instance:TyF prog 211 0 0 140:=tyf 30 underlying211
instance:TyF prog 211 1 30 179:=tyf 1 underlying211
instance:en prog 232 2:=gJ
theorem Tryz.z232:(prog.info? 232).map (·.zero)=ς (ς (.agg #[zvI,zvI])):=by kernel_rfl
instance:TyZ prog 232 [zcI,zcI]:=⟨cJ Tryz.z232⟩
instance:TyE prog 232 [zdI,zdI]:=⟨cJ Tryz.z232⟩
instance:TyB prog 232 [(0,1),(1,1)]:=⟨_,underlying232,λw=>by kernel_rfl⟩
instance:TyF prog 232 0 0 3:=tyf 1 underlying232
instance:TyF prog 232 1 1 3:=tyf 1 underlying232
instance:en prog 249 2:=gJ
theorem Tryz.z249:(prog.info? 249).map (·.zero)=ς (ς (.agg #[zvI,zvN])):=by kernel_rfl
instance:TyZ prog 249 [zcI,.nil]:=⟨cJ Tryz.z249⟩
instance:TyE prog 249 [zdI,zdL]:=⟨cJ Tryz.z249⟩
instance:TyB prog 249 [(0,1),(1,1)]:=⟨_,underlying249,λw=>by kernel_rfl⟩
instance:TyF prog 249 0 0 3:=tyf 1 underlying249
instance:TyF prog 249 1 1 113:=tyf 1 underlying249
instance:en prog 251 1:=gJ
theorem Tryz.z251:(prog.info? 251).map (·.zero)=ς (ς (.agg #[zvN])):=by kernel_rfl
instance:TyZ prog 251 [.nil]:=⟨cJ Tryz.z251⟩
instance:TyE prog 251 [zdL]:=⟨cJ Tryz.z251⟩
instance:TyB prog 251 [(0,1)]:=⟨_,underlying251,λw=>by kernel_rfl⟩
instance:TyF prog 251 0 0 113:=tyf 1 underlying251
instance:en prog 261 1:=gJ
theorem Tryz.z261:(prog.info? 261).map (·.zero)=ς (ς (.agg #[zvN])):=by kernel_rfl
instance:TyZ prog 261 [.nil]:=⟨cJ Tryz.z261⟩
instance:TyE prog 261 [zdL]:=⟨cJ Tryz.z261⟩
instance:TyB prog 261 [(0,1)]:=⟨_,underlying261,λw=>by kernel_rfl⟩
instance:TyF prog 261 0 0 113:=tyf 1 underlying261
instance:en prog 284 2:=gJ
theorem Tryz.z284:(prog.info? 284).map (·.zero)=ς (ς (.agg #[zvI,zvI])):=by kernel_rfl
instance:TyZ prog 284 [zcI,zcI]:=⟨cJ Tryz.z284⟩
instance:TyE prog 284 [zdI,zdI]:=⟨cJ Tryz.z284⟩
instance:TyB prog 284 [(0,1),(1,1)]:=⟨_,underlying284,λw=>by kernel_rfl⟩
instance:TyF prog 284 0 0 3:=tyf 1 underlying284
instance:TyF prog 284 1 1 3:=tyf 1 underlying284
instance:en prog 312 2:=gJ
theorem Tryz.z312:(prog.info? 312).map (·.zero)=ς (ς (.agg #[zvI,zvN])):=by kernel_rfl
instance:TyZ prog 312 [zcI,.nil]:=⟨cJ Tryz.z312⟩
instance:TyE prog 312 [zdI,zdL]:=⟨cJ Tryz.z312⟩
instance:TyB prog 312 [(0,1),(1,1)]:=⟨_,underlying312,λw=>by kernel_rfl⟩
instance:TyF prog 312 0 0 3:=tyf 1 underlying312
instance:TyF prog 312 1 1 113:=tyf 1 underlying312
instance:en prog 329 4:=gJ
theorem Tryz.z329:(prog.info? 329).map (·.zero)=ς (ς (.agg #[zvI,zvI,zvI,zvI])):=by kernel_rfl
instance:TyZ prog 329 [zcI,zcI,zcI,zcI]:=⟨cJ Tryz.z329⟩
instance:TyE prog 329 [zdI,zdI,zdI,zdI]:=⟨cJ Tryz.z329⟩
instance:TyB prog 329 [(0,1),(1,1),(2,1),(3,1)]:=⟨_,underlying329,λw=>by kernel_rfl⟩
instance:TyF prog 329 0 0 3:=tyf 1 underlying329
instance:TyF prog 329 1 1 3:=tyf 1 underlying329
instance:TyF prog 329 2 2 3:=tyf 1 underlying329
instance:TyF prog 329 3 3 3:=tyf 1 underlying329
instance:en prog 349 1:=gJ
theorem Tryz.z349:(prog.info? 349).map (·.zero)=ς (ς (.agg #[zvN])):=by kernel_rfl
instance:TyZ prog 349 [.nil]:=⟨cJ Tryz.z349⟩
instance:TyE prog 349 [zdL]:=⟨cJ Tryz.z349⟩
instance:TyB prog 349 [(0,1)]:=⟨_,underlying349,λw=>by kernel_rfl⟩
instance:TyF prog 349 0 0 93:=tyf 1 underlying349
theorem Tryz.sh3:tc prog 3 [.i .i64]:=.int underlying3
theorem Tryz.sh32:tc prog 32 [.l [.i .i64,.l [.i .i64]],.l [.i .i64,.i .i64,.i .i64,.i .i64,.i .i64,.i .i64,.i .i64,.i .i64,.i .i64,.b,.i .i64,.i .i64,.l [.i .i64,.l [.i .u8]],.l [.l [.i .u8]]],.l [.i .i64,.i .i64,.i .i64,.i .i64,.i .i64,.i .i64,.i .i64,.l [.i .i64],.i .i64,.i .i64,.i .i64,.i .i64,.i .i64,.i .i64,.i .i64,.i .i64,.i .i64,.i .i64,.i .i64,.i .i64,.i .i64,.i .i64,.i .i64,.l [.l [.i .u8]],.i .i64,.l [.i .i64,.l [.i .u8]],.i .i64,.i .i64,.i .i64,.i .i64],.l [.i .i64,.i .i64,.i .i64,.l [.i .i64,.i .i64]],.l [.i .i64,.b,.b,.i .i64,.i .i64,.i .i64,.i .i64,.i .i64,.i .i64,.i .i64,.i .i64,.i .i64,.i .i64,.i .i64,.i .i64,.i .i64,.i .i64,.i .i64,.i .i64,.l [.i .u8],.i .i64],.i .i64,.i .i64,.i .i64,.i .i64,.i .i64]:=Rt (n:=9) (by kernel_rfl)
theorem Tryz.eqa30:EqA prog 2 30 [.i .i64,.i .i64]:=ed (k:=1) underlying30 (by kernel_rfl) (dQ rfl (by decide) inferInstance (cM underlying3) (dQ rfl (by decide) inferInstance (cM underlying3) (gS)))
instance:rZ prog 30 [.i .i64,.i .i64]:=⟨⟨2,by decide,Tryz.eqa30⟩,by kernel_rfl⟩
theorem Tryz.eqa41:EqA prog 2 41 [.i .i64,.i .i64]:=ed (k:=1) underlying41 (by kernel_rfl) (dQ rfl (by decide) inferInstance (cM underlying3) (dQ rfl (by decide) inferInstance (cM underlying3) (gS)))
instance:rZ prog 41 [.i .i64,.i .i64]:=⟨⟨2,by decide,Tryz.eqa41⟩,by kernel_rfl⟩
theorem Tryz.eqa81:EqA prog 2 81 [.i .i64,.i .i64]:=ed (k:=1) underlying81 (by kernel_rfl) (dQ rfl (by decide) inferInstance (cM underlying3) (dQ rfl (by decide) inferInstance (cM underlying3) (gS)))
instance:rZ prog 81 [.i .i64,.i .i64]:=⟨⟨2,by decide,Tryz.eqa81⟩,by kernel_rfl⟩
theorem Tryz.eqa83:EqA prog 3 83 [.i .i64,.i .i64,.i .i64,.i .i64]:=ed (k:=2) underlying83 (by kernel_rfl) (Ko (n:=2) (s1:=[.i .i64,.i .i64]) rfl (by decide) inferInstance rfl (by decide) Tryz.eqa81 (dQ rfl (by decide) inferInstance (cM underlying3) (dQ rfl (by decide) inferInstance (cM underlying3) (gS))))
instance:rZ prog 83 [.i .i64,.i .i64,.i .i64,.i .i64]:=⟨⟨3,by decide,Tryz.eqa83⟩,by kernel_rfl⟩
theorem Tryz.eqa92:EqA prog 3 92 [.i .i64,.i .i64,.i .i64,.i .i64]:=ed (k:=2) underlying92 (by kernel_rfl) (Ko (n:=2) (s1:=[.i .i64,.i .i64]) rfl (by decide) inferInstance rfl (by decide) Tryz.eqa81 (dQ rfl (by decide) inferInstance (cM underlying3) (dQ rfl (by decide) inferInstance (cM underlying3) (gS))))
instance:rZ prog 92 [.i .i64,.i .i64,.i .i64,.i .i64]:=⟨⟨3,by decide,Tryz.eqa92⟩,by kernel_rfl⟩
theorem Tryz.eqa97:EqA prog 2 97 [.i .i64,.i .i64,.i .i64,.i .i64,.i .i64]:=ed (k:=1) underlying97 (by kernel_rfl) (dQ rfl (by decide) inferInstance (cM underlying3) (dQ rfl (by decide) inferInstance (cM underlying3) (dQ rfl (by decide) inferInstance (cM underlying3) (dQ rfl (by decide) inferInstance (cM underlying3) (dQ rfl (by decide) inferInstance (cM underlying3) (gS))))))
instance:rZ prog 97 [.i .i64,.i .i64,.i .i64,.i .i64,.i .i64]:=⟨⟨2,by decide,Tryz.eqa97⟩,by kernel_rfl⟩
theorem Tryz.eqa99:EqA prog 2 99 [.i .i64,.i .i64,.i .i64]:=ed (k:=1) underlying99 (by kernel_rfl) (dQ rfl (by decide) inferInstance (cM underlying3) (dQ rfl (by decide) inferInstance (cM underlying3) (dQ rfl (by decide) inferInstance (cM underlying3) (gS))))
instance:rZ prog 99 [.i .i64,.i .i64,.i .i64]:=⟨⟨2,by decide,Tryz.eqa99⟩,by kernel_rfl⟩
theorem Tryz.eqa103:EqA prog 2 103 [.i .i64,.i .i64,.i .i64]:=ed (k:=1) underlying103 (by kernel_rfl) (dQ rfl (by decide) inferInstance (cM underlying3) (dQ rfl (by decide) inferInstance (cM underlying3) (dQ rfl (by decide) inferInstance (cM underlying3) (gS))))
instance:rZ prog 103 [.i .i64,.i .i64,.i .i64]:=⟨⟨2,by decide,Tryz.eqa103⟩,by kernel_rfl⟩
theorem Tryz.eqa112:EqA prog 3 112 [.i .i64,.i .i64,.i .i64,.i .i64,.i .i64,.i .i64,.i .i64,.i .i64,.i .i64,.i .i64,.i .i64]:=ed (k:=2) underlying112 (by kernel_rfl) (dQ rfl (by decide) inferInstance (cM underlying3) (dQ rfl (by decide) inferInstance (cM underlying3) (dQ rfl (by decide) inferInstance (cM underlying3) (dQ rfl (by decide) inferInstance (cM underlying3) (dQ rfl (by decide) inferInstance (cM underlying3) (Ko (n:=5) (s1:=[.i .i64,.i .i64,.i .i64,.i .i64,.i .i64]) rfl (by decide) inferInstance rfl (by decide) Tryz.eqa97 (dQ rfl (by decide) inferInstance (cM underlying3) (gS))))))))
instance:rZ prog 112 [.i .i64,.i .i64,.i .i64,.i .i64,.i .i64,.i .i64,.i .i64,.i .i64,.i .i64,.i .i64,.i .i64]:=⟨⟨3,by decide,Tryz.eqa112⟩,by kernel_rfl⟩
theorem Tryz.eqa121:EqA prog 2 121 [.i .i64,.i .i64]:=ed (k:=1) underlying121 (by kernel_rfl) (dQ rfl (by decide) inferInstance (cM underlying3) (dQ rfl (by decide) inferInstance (cM underlying3) (gS)))
instance:rZ prog 121 [.i .i64,.i .i64]:=⟨⟨2,by decide,Tryz.eqa121⟩,by kernel_rfl⟩
theorem Tryz.eqa123:EqA prog 3 123 [.i .i64,.i .i64,.i .i64,.i .i64]:=ed (k:=2) underlying123 (by kernel_rfl) (Ko (n:=2) (s1:=[.i .i64,.i .i64]) rfl (by decide) inferInstance rfl (by decide) Tryz.eqa121 (dQ rfl (by decide) inferInstance (cM underlying3) (dQ rfl (by decide) inferInstance (cM underlying3) (gS))))
instance:rZ prog 123 [.i .i64,.i .i64,.i .i64,.i .i64]:=⟨⟨3,by decide,Tryz.eqa123⟩,by kernel_rfl⟩
theorem Tryz.eqa132:EqA prog 3 132 [.i .i64,.i .i64,.i .i64,.i .i64]:=ed (k:=2) underlying132 (by kernel_rfl) (Ko (n:=2) (s1:=[.i .i64,.i .i64]) rfl (by decide) inferInstance rfl (by decide) Tryz.eqa121 (dQ rfl (by decide) inferInstance (cM underlying3) (dQ rfl (by decide) inferInstance (cM underlying3) (gS))))
instance:rZ prog 132 [.i .i64,.i .i64,.i .i64,.i .i64]:=⟨⟨3,by decide,Tryz.eqa132⟩,by kernel_rfl⟩
theorem Tryz.eqa134:EqA prog 2 134 [.i .i64,.i .i64,.i .i64,.i .i64,.i .i64]:=ed (k:=1) underlying134 (by kernel_rfl) (dQ rfl (by decide) inferInstance (cM underlying3) (dQ rfl (by decide) inferInstance (cM underlying3) (dQ rfl (by decide) inferInstance (cM underlying3) (dQ rfl (by decide) inferInstance (cM underlying3) (dQ rfl (by decide) inferInstance (cM underlying3) (gS))))))
instance:rZ prog 134 [.i .i64,.i .i64,.i .i64,.i .i64,.i .i64]:=⟨⟨2,by decide,Tryz.eqa134⟩,by kernel_rfl⟩
theorem Tryz.eqa135:EqA prog 2 135 [.i .i64,.i .i64,.i .i64]:=ed (k:=1) underlying135 (by kernel_rfl) (dQ rfl (by decide) inferInstance (cM underlying3) (dQ rfl (by decide) inferInstance (cM underlying3) (dQ rfl (by decide) inferInstance (cM underlying3) (gS))))
instance:rZ prog 135 [.i .i64,.i .i64,.i .i64]:=⟨⟨2,by decide,Tryz.eqa135⟩,by kernel_rfl⟩
theorem Tryz.eqa138:EqA prog 2 138 [.i .i64,.i .i64,.i .i64]:=ed (k:=1) underlying138 (by kernel_rfl) (dQ rfl (by decide) inferInstance (cM underlying3) (dQ rfl (by decide) inferInstance (cM underlying3) (dQ rfl (by decide) inferInstance (cM underlying3) (gS))))
instance:rZ prog 138 [.i .i64,.i .i64,.i .i64]:=⟨⟨2,by decide,Tryz.eqa138⟩,by kernel_rfl⟩
theorem Tryz.eqa147:EqA prog 3 147 [.i .i64,.i .i64,.i .i64,.i .i64,.i .i64,.i .i64,.i .i64,.i .i64,.i .i64,.i .i64,.i .i64]:=ed (k:=2) underlying147 (by kernel_rfl) (dQ rfl (by decide) inferInstance (cM underlying3) (dQ rfl (by decide) inferInstance (cM underlying3) (dQ rfl (by decide) inferInstance (cM underlying3) (dQ rfl (by decide) inferInstance (cM underlying3) (dQ rfl (by decide) inferInstance (cM underlying3) (Ko (n:=5) (s1:=[.i .i64,.i .i64,.i .i64,.i .i64,.i .i64]) rfl (by decide) inferInstance rfl (by decide) Tryz.eqa134 (dQ rfl (by decide) inferInstance (cM underlying3) (gS))))))))
instance:rZ prog 147 [.i .i64,.i .i64,.i .i64,.i .i64,.i .i64,.i .i64,.i .i64,.i .i64,.i .i64,.i .i64,.i .i64]:=⟨⟨3,by decide,Tryz.eqa147⟩,by kernel_rfl⟩
theorem Tryz.eqa232:EqA prog 2 232 [.i .i64,.i .i64]:=ed (k:=1) underlying232 (by kernel_rfl) (dQ rfl (by decide) inferInstance (cM underlying3) (dQ rfl (by decide) inferInstance (cM underlying3) (gS)))
instance:rZ prog 232 [.i .i64,.i .i64]:=⟨⟨2,by decide,Tryz.eqa232⟩,by kernel_rfl⟩
theorem Tryz.eqa284:EqA prog 2 284 [.i .i64,.i .i64]:=ed (k:=1) underlying284 (by kernel_rfl) (dQ rfl (by decide) inferInstance (cM underlying3) (dQ rfl (by decide) inferInstance (cM underlying3) (gS)))
instance:rZ prog 284 [.i .i64,.i .i64]:=⟨⟨2,by decide,Tryz.eqa284⟩,by kernel_rfl⟩
theorem Tryz.eqa329:EqA prog 2 329 [.i .i64,.i .i64,.i .i64,.i .i64]:=ed (k:=1) underlying329 (by kernel_rfl) (dQ rfl (by decide) inferInstance (cM underlying3) (dQ rfl (by decide) inferInstance (cM underlying3) (dQ rfl (by decide) inferInstance (cM underlying3) (dQ rfl (by decide) inferInstance (cM underlying3) (gS)))))
instance:rZ prog 329 [.i .i64,.i .i64,.i .i64,.i .i64]:=⟨⟨2,by decide,Tryz.eqa329⟩,by kernel_rfl⟩
theorem Tryz.follows:prog.follows .mixedOrders=true:=by kernel_rfl
instance:dz prog 22 191 2 32:=⟨underlying22,wL Tryz.z191,by decide⟩
instance:dz prog 25 89 14 144:=⟨underlying25,wL Tryz.z89,by decide⟩
instance:dz prog 26 105 30 288:=⟨underlying26,wL Tryz.z105,by decide⟩
instance:dz prog 27 109 4 48:=⟨underlying27,wL Tryz.z109,by decide⟩
instance:dz prog 28 119 21 176:=⟨underlying28,wL Tryz.z119,by decide⟩
instance:dz prog 34 198 2 32:=⟨underlying34,wL Tryz.z198,by decide⟩
instance:dz prog 37 129 14 144:=⟨underlying37,wL Tryz.z129,by decide⟩
instance:dz prog 38 140 30 288:=⟨underlying38,wL Tryz.z140,by decide⟩
instance:dz prog 39 144 4 48:=⟨underlying39,wL Tryz.z144,by decide⟩
instance:dz prog 40 152 21 176:=⟨underlying40,wL Tryz.z152,by decide⟩
instance:dz prog 84 312 2 32:=⟨underlying84,wL Tryz.z312,by decide⟩
instance:dz prog 85 261 1 24:=⟨underlying85,wL Tryz.z261,by decide⟩
instance:dz prog 93 3 1 8:=⟨underlying93,wL Tryz.z3,by decide⟩
instance:dz prog 107 284 2 16:=⟨underlying107,wL Tryz.z284,by decide⟩
instance:dz prog 113 5 1 1:=⟨underlying113,wL Tryz.z5,by decide⟩
instance:dz prog 124 249 2 32:=⟨underlying124,wL Tryz.z249,by decide⟩
instance:dz prog 125 251 1 24:=⟨underlying125,wL Tryz.z251,by decide⟩
instance:dz prog 142 232 2 16:=⟨underlying142,wL Tryz.z232,by decide⟩
instance:dz prog 179 147 11 88:=⟨underlying179,wL Tryz.z147,by decide⟩
instance:dz prog 183 150 6 64:=⟨underlying183,wL Tryz.z150,by decide⟩
structure cZ where
 eO:Int
 b7:List Int
 deriving DecidableEq,Inhabited
def de(a:cZ):List D:=[edI a.eO,.l (a.b7.map eI)]
def fTCell(a:cZ):List F:=[esI a.eO,.l 3 1 (a.b7.map eI) a.b7.length]
def Ju:cZ:=⟨0,[]⟩
structure aU where
 bh:List cZ
 deriving DecidableEq,Inhabited
def eh(a:aU):List D:=[.l (a.bh.map de)]
def V8:aU:=⟨[]⟩
structure dO where
 uy:Int
 jS:Int
 deriving DecidableEq,Inhabited
def ov(a:dO):List D:=[edI a.uy,edI a.jS]
def LH(a:dO):List F:=[esI a.uy,esI a.jS]
def Na:dO:=⟨0,0⟩
structure cG where
 dT:Int
 cj:Int
 deriving DecidableEq,Inhabited
def ie(a:cG):List D:=[edI a.dT,edI a.cj]
def Hl(a:cG):List F:=[esI a.dT,esI a.cj]
def Aq:cG:=⟨0,0⟩
structure ju where
 ID:cG
 f9:Int
 d7:Int
 deriving DecidableEq,Inhabited
def BJ(a:ju):List D:=[edI a.ID.dT,edI a.ID.cj,edI a.f9,edI a.d7]
def LI(a:ju):List F:=[esI a.ID.dT,esI a.ID.cj,esI a.f9,esI a.d7]
def zTUSIM:ju:=⟨Aq,0,0⟩
structure ab where
 df:Int
 be:List Int
 deriving DecidableEq,Inhabited
def an(a:ab):List D:=[edI a.df,.l (a.be.map eU8)]
def dv(a:ab):List F:=[esI a.df,.l 5 1 (a.be.map eU8) a.be.length]
def bE:ab:=⟨0,[]⟩
structure aP where
 be:List Int
 deriving DecidableEq,Inhabited
def b9(a:aP):List D:=[.l (a.be.map eU8)]
structure aB where
 bw:Int
 aA:List ab
 aY:List aP
 deriving DecidableEq,Inhabited
def dW(a:aB):List D:=[edI a.bw,.l (a.aA.map an),.l (a.aY.map b9)]
def cr(a:aB):List F:=[esI a.bw,.l 249 2 (a.aA.map an) a.aA.length,.l 251 1 (a.aY.map b9) a.aY.length]
def eV:aB:=⟨0,[],[]⟩
structure aF where
 ea:ju
 bF:Int
 bC:Int
 av:Int
 bp:Int
 a8:Int
 bR:Bool
 eG:Int
 ct:aB
 deriving DecidableEq,Inhabited
def bG(a:aF):List D:=[edI a.ea.ID.dT,edI a.ea.ID.cj,edI a.ea.f9,edI a.ea.d7,edI a.bF,edI a.bC,edI a.av,edI a.bp,edI a.a8,.b a.bR,edI a.eG,edI a.ct.bw,.l (a.ct.aA.map an),.l (a.ct.aY.map b9)]
def ku(a:aF):List F:=[esI a.ea.ID.dT,esI a.ea.ID.cj,esI a.ea.f9,esI a.ea.d7,esI a.bF,esI a.bC,esI a.av,esI a.bp,esI a.a8,.s (.b a.bR),esI a.eG,esI a.ct.bw,.l 249 2 (a.ct.aA.map an) a.ct.aA.length,.l 251 1 (a.ct.aY.map b9) a.ct.aY.length]
def Ap:aF:=⟨zTUSIM,0,0,0,0,0,η,0,eV⟩
structure bI where
 ID:cG
 f9:Int
 df:Int
 deriving DecidableEq,Inhabited
def eX(a:bI):List D:=[edI a.ID.dT,edI a.ID.cj,edI a.f9,edI a.df]
def nK(a:bI):List F:=[esI a.ID.dT,esI a.ID.cj,esI a.f9,esI a.df]
def Cs:bI:=⟨Aq,0,0⟩
structure bK where
 iB:Int
 iA:Int
 dR:Int
 bi:List Int
 deriving DecidableEq,Inhabited
def ga(a:bK):List D:=[edI a.iB,edI a.iA,edI a.dR,.l (a.bi.map eI)]
def tu(a:bK):List F:=[esI a.iB,esI a.iA,esI a.dR,.l 3 1 (a.bi.map eI) a.bi.length]
def Jv:bK:=⟨0,0,0,[]⟩
structure cb where
 ei:Int
 gL:Int
 nJ:Int
 D0:Int
 f9:Int
 deriving DecidableEq,Inhabited
def gR(a:cb):List D:=[edI a.ei,edI a.gL,edI a.nJ,edI a.D0,edI a.f9]
def ow(a:cb):List F:=[esI a.ei,esI a.gL,esI a.nJ,esI a.D0,esI a.f9]
def db:cb:=⟨0,0,0,0,0⟩
structure bL where
 eO:Int
 em:Int
 eG:Int
 deriving DecidableEq,Inhabited
def iY(a:bL):List D:=[edI a.eO,edI a.em,edI a.eG]
def kO(a:bL):List F:=[esI a.eO,esI a.em,esI a.eG]
def eA:bL:=⟨0,0,0⟩
structure aG where
 bw:Int
 ar:List ab
 deriving DecidableEq,Inhabited
def ec(a:aG):List D:=[edI a.bw,.l (a.ar.map an)]
def dF(a:aG):List F:=[esI a.bw,.l 249 2 (a.ar.map an) a.ar.length]
def sX:aG:=⟨0,[]⟩
structure cq where
 ax:Int
 cH:Int
 et:Int
 deriving DecidableEq,Inhabited
def jT(a:cq):List D:=[edI a.ax,edI a.cH,edI a.et]
def wZ(a:cq):List F:=[esI a.ax,esI a.cH,esI a.et]
def ac6:cq:=⟨0,0,0⟩
structure ag where
 bO:bI
 fr:bK
 bF:Int
 aA:cb
 bN:Int
 av:Int
 bp:Int
 a8:Int
 bC:Int
 dy:Int
 fJ:bL
 aS:List aP
 aC:aG
 du:Int
 bM:cq
 deriving DecidableEq,Inhabited
def aM(a:ag):List D:=[edI a.bO.ID.dT,edI a.bO.ID.cj,edI a.bO.f9,edI a.bO.df,edI a.fr.iB,edI a.fr.iA,edI a.fr.dR,.l (a.fr.bi.map eI),edI a.bF,edI a.aA.ei,edI a.aA.gL,edI a.aA.nJ,edI a.aA.D0,edI a.aA.f9,edI a.bN,edI a.av,edI a.bp,edI a.a8,edI a.bC,edI a.dy,edI a.fJ.eO,edI a.fJ.em,edI a.fJ.eG,.l (a.aS.map b9),edI a.aC.bw,.l (a.aC.ar.map an),edI a.du,edI a.bM.ax,edI a.bM.cH,edI a.bM.et]
def dh(a:ag):List F:=[esI a.bO.ID.dT,esI a.bO.ID.cj,esI a.bO.f9,esI a.bO.df,esI a.fr.iB,esI a.fr.iA,esI a.fr.dR,.l 3 1 (a.fr.bi.map eI) a.fr.bi.length,esI a.bF,esI a.aA.ei,esI a.aA.gL,esI a.aA.nJ,esI a.aA.D0,esI a.aA.f9,esI a.bN,esI a.av,esI a.bp,esI a.a8,esI a.bC,esI a.dy,esI a.fJ.eO,esI a.fJ.em,esI a.fJ.eG,.l 251 1 (a.aS.map b9) a.aS.length,esI a.aC.bw,.l 249 2 (a.aC.ar.map an) a.aC.ar.length,esI a.du,esI a.bM.ax,esI a.bM.cH,esI a.bM.et]
def s8:ag:=⟨Cs,Jv,0,db,0,0,0,0,0,0,eA,[],sX,0,ac6⟩
structure ah where
 ax:Int
 dq:Int
 deriving DecidableEq,Inhabited
def aO(a:ah):List D:=[edI a.ax,edI a.dq]
def JA(a:ah):List F:=[esI a.ax,esI a.dq]
def cS:ah:=⟨0,0⟩
structure aj where
 gu:Int
 bB:Int
 eW:Int
 ak:List ah
 deriving DecidableEq,Inhabited
def bj(a:aj):List D:=[edI a.gu,edI a.bB,edI a.eW,.l (a.ak.map aO)]
def cp(a:aj):List F:=[esI a.gu,esI a.bB,esI a.eW,.l 232 2 (a.ak.map aO) a.ak.length]
def jL:aj:=⟨0,0,0,[]⟩
structure aD where
 eb:Int
 bC:Int
 av:Int
 a8:Int
 cj:Int
 cW:cb
 nJ:Int
 deriving DecidableEq,Inhabited
def cP(a:aD):List D:=[edI a.eb,edI a.bC,edI a.av,edI a.a8,edI a.cj,edI a.cW.ei,edI a.cW.gL,edI a.cW.nJ,edI a.cW.D0,edI a.cW.f9,edI a.nJ]
def fM(a:aD):List F:=[esI a.eb,esI a.bC,esI a.av,esI a.a8,esI a.cj,esI a.cW.ei,esI a.cW.gL,esI a.cW.nJ,esI a.cW.D0,esI a.cW.f9,esI a.nJ]
def gq:aD:=⟨0,0,0,0,0,db,0⟩
structure aV where
 c7:Int
 f8:Int
 be:List Int
 nJ:Int
 deriving DecidableEq,Inhabited
def dL(a:aV):List D:=[edI a.c7,edI a.f8,.l (a.be.map eU8),edI a.nJ]
def lX(a:aV):List F:=[esI a.c7,esI a.f8,.l 5 1 (a.be.map eU8) a.be.length,esI a.nJ]
def wO:aV:=⟨0,0,[],0⟩
structure am where
 av:Int
 a8:Int
 bH:aV
 deriving DecidableEq,Inhabited
def cQ(a:am):List D:=[edI a.av,edI a.a8,edI a.bH.c7,edI a.bH.f8,.l (a.bH.be.map eU8),edI a.bH.nJ]
def gX(a:am):List F:=[esI a.av,esI a.a8,esI a.bH.c7,esI a.bH.f8,.l 5 1 (a.bH.be.map eU8) a.bH.be.length,esI a.bH.nJ]
def kU:am:=⟨0,0,wO⟩
structure a9 where
 bS:Int
 pK:Bool
 jQ:Bool
 bC:Int
 cg:aD
 cF:am
 deriving DecidableEq,Inhabited
def bA(a:a9):List D:=[edI a.bS,.b a.pK,.b a.jQ,edI a.bC,edI a.cg.eb,edI a.cg.bC,edI a.cg.av,edI a.cg.a8,edI a.cg.cj,edI a.cg.cW.ei,edI a.cg.cW.gL,edI a.cg.cW.nJ,edI a.cg.cW.D0,edI a.cg.cW.f9,edI a.cg.nJ,edI a.cF.av,edI a.cF.a8,edI a.cF.bH.c7,edI a.cF.bH.f8,.l (a.cF.bH.be.map eU8),edI a.cF.bH.nJ]
def ox(a:a9):List F:=[esI a.bS,.s (.b a.pK),.s (.b a.jQ),esI a.bC,esI a.cg.eb,esI a.cg.bC,esI a.cg.av,esI a.cg.a8,esI a.cg.cj,esI a.cg.cW.ei,esI a.cg.cW.gL,esI a.cg.cW.nJ,esI a.cg.cW.D0,esI a.cg.cW.f9,esI a.cg.nJ,esI a.cF.av,esI a.cF.a8,esI a.cF.bH.c7,esI a.cF.bH.f8,.l 5 1 (a.cF.bH.be.map eU8) a.cF.bH.be.length,esI a.cF.bH.nJ]
def jM:a9:=⟨0,η,η,0,gq,kU⟩
structure ae where
 fH:aU
 aH:List aF
 aT:List ag
 bu:List aj
 aJ:List a9
 dK:Int
 lA:dO
 vU:Int
 my:Int
 deriving DecidableEq,Inhabited
def eC(a:ae):List D:=[.l (a.fH.bh.map de),.l (a.aH.map bG),.l (a.aT.map aM),.l (a.bu.map bj),.l (a.aJ.map bA),edI a.dK,edI a.lA.uy,edI a.lA.jS,edI a.vU,edI a.my]
def cX(a:ae):List F:=[.l 198 2 (a.fH.bh.map de) a.fH.bh.length,.l 129 14 (a.aH.map bG) a.aH.length,.l 140 30 (a.aT.map aM) a.aT.length,.l 144 4 (a.bu.map bj) a.bu.length,.l 152 21 (a.aJ.map bA) a.aJ.length,esI a.dK,esI a.lA.uy,esI a.lA.jS,esI a.vU,esI a.my]
def Fc:ae:=⟨V8,[],[],[],[],0,Na,0,0⟩
structure aZ where
 bS:aF
 dV:List aD
 deriving DecidableEq,Inhabited
def cU(a:aZ):List F:=[esI a.bS.ea.ID.dT,esI a.bS.ea.ID.cj,esI a.bS.ea.f9,esI a.bS.ea.d7,esI a.bS.bF,esI a.bS.bC,esI a.bS.av,esI a.bS.bp,esI a.bS.a8,.s (.b a.bS.bR),esI a.bS.eG,esI a.bS.ct.bw,.l 249 2 (a.bS.ct.aA.map an) a.bS.ct.aA.length,.l 251 1 (a.bS.ct.aY.map b9) a.bS.ct.aY.length,.l 147 11 (a.dV.map cP) a.dV.length]
def iv:aZ:=⟨Ap,[]⟩
structure bk where
 aX:ag
 eu:aj
 ou:List aD
 cF:List am
 deriving DecidableEq,Inhabited
def bv(a:bk):List F:=[esI a.aX.bO.ID.dT,esI a.aX.bO.ID.cj,esI a.aX.bO.f9,esI a.aX.bO.df,esI a.aX.fr.iB,esI a.aX.fr.iA,esI a.aX.fr.dR,.l 3 1 (a.aX.fr.bi.map eI) a.aX.fr.bi.length,esI a.aX.bF,esI a.aX.aA.ei,esI a.aX.aA.gL,esI a.aX.aA.nJ,esI a.aX.aA.D0,esI a.aX.aA.f9,esI a.aX.bN,esI a.aX.av,esI a.aX.bp,esI a.aX.a8,esI a.aX.bC,esI a.aX.dy,esI a.aX.fJ.eO,esI a.aX.fJ.em,esI a.aX.fJ.eG,.l 251 1 (a.aX.aS.map b9) a.aX.aS.length,esI a.aX.aC.bw,.l 249 2 (a.aX.aC.ar.map an) a.aX.aC.ar.length,esI a.aX.du,esI a.aX.bM.ax,esI a.aX.bM.cH,esI a.aX.bM.et,esI a.eu.gu,esI a.eu.bB,esI a.eu.eW,.l 232 2 (a.eu.ak.map aO) a.eu.ak.length,.l 147 11 (a.ou.map cP) a.ou.length,.l 150 6 (a.cF.map cQ) a.cF.length]
def bU:bk:=⟨s8,jL,[],[]⟩
structure bm where
 aX:ag
 dV:List aD
 deriving DecidableEq,Inhabited
def cV(a:bm):List F:=[esI a.aX.bO.ID.dT,esI a.aX.bO.ID.cj,esI a.aX.bO.f9,esI a.aX.bO.df,esI a.aX.fr.iB,esI a.aX.fr.iA,esI a.aX.fr.dR,.l 3 1 (a.aX.fr.bi.map eI) a.aX.fr.bi.length,esI a.aX.bF,esI a.aX.aA.ei,esI a.aX.aA.gL,esI a.aX.aA.nJ,esI a.aX.aA.D0,esI a.aX.aA.f9,esI a.aX.bN,esI a.aX.av,esI a.aX.bp,esI a.aX.a8,esI a.aX.bC,esI a.aX.dy,esI a.aX.fJ.eO,esI a.aX.fJ.em,esI a.aX.fJ.eG,.l 251 1 (a.aX.aS.map b9) a.aX.aS.length,esI a.aX.aC.bw,.l 249 2 (a.aX.aC.ar.map an) a.aX.aC.ar.length,esI a.aX.du,esI a.aX.bM.ax,esI a.aX.bM.cH,esI a.aX.bM.et,.l 147 11 (a.dV.map cP) a.dV.length]
def gK:bm:=⟨s8,[]⟩
structure fX where
 Code:Int
 D0:Int
 wP:Int
 WJ:Int
 deriving DecidableEq,Inhabited
def tq(a:fX):List F:=[esI a.Code,esI a.D0,esI a.wP,esI a.WJ]
def iu:fX:=⟨0,0,0,0⟩
structure fj where
 Steps:List Int
 deriving DecidableEq,Inhabited
def Kn(a:fj):List D:=[.l (a.Steps.map eI)]
theorem Try.follows:prog.follows .mixedOrders=true:=Tryz.follows
end Go.AM
