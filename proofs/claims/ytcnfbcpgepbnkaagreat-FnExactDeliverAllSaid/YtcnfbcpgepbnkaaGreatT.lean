/- A part. -/
import Derived.Test.YtcnfbcpgepbnkaaGreatE4
import Derived.Test.YtcnfbcpgepbnkaaGreatProg
set_option linter.unusedVariables false
set_option linter.unusedSimpArgs false
open Option renaming some->ς,none->ξ
open Bool renaming true->ζ,false->η
open True renaming intro->θ
namespace Go.AM
open Go.Proofs
open Tryz
variable{P:Program}{t:TypeId}{n:Nat}
theorem Mt(h:(P.info? t).map (·.size)=ς n):∃i,P.info? t=ς i/\i.size=n:=by
 cases hi:P.info? t with
 |none=>simp[hi] at h
 |some i=>simp[hi] at h;exact⟨i,rfl,h⟩
theorem T5{z:Value}(h:(P.info? t).map (·.zero)=ς (ς z)):∃i,P.info? t=ς i/\i.zero=ς z:=by
 cases hi:P.info? t with
 |none=>simp[hi] at h
 |some i=>simp[hi] at h;exact⟨i,rfl,h⟩
theorem info_s{z:Value}{b:Nat}(h:(P.info? t).map (λi=>(i.size,i.bytes,i.zero))=ς (n,b,ς z))(hz:z.cells.size=n):∃i z,P.info? t=ς i/\i.size=n/\i.bytes=b/\i.zero=ς z/\z.cells.size=n:=by
 cases hi:P.info? t with
 |none=>simp[hi] at h
 |some i=>simp[hi] at h;exact⟨i,z,rfl,h.1,h.2.1,h.2.2,hz⟩
theorem info_f(h:(P.info? t).map (·.size)=ς n)(hn:n≠0):∃i,P.info? t=ς i/\i.size≠0:=by
 cases hi:P.info? t with
 |none=>simp[hi] at h
 |some i=>simp[hi] at h;exact⟨i,rfl,by omega⟩
theorem cg{z:Value}{Q:Value->Prop}(h:(P.info? t).map (·.zero)=ς (ς z))(q:Q z:=by exact rfl):∃i z,P.info? t=ς i/\i.zero=ς z/\Q z:=by
 obtain⟨i,h1,h2⟩:=T5 h
 exact⟨i,_,h1,h2,q⟩
theorem tynn(h:(P.info? t).map (·.size)=ς n:=by kernel_rfl):∃i,P.info? t=ς i/\i.size=n:=Mt h
theorem tyff(n:Nat)(h:(P.info? t).map (·.size)=ς n:=by kernel_rfl)(hn:n≠0:=by decide):∃i,P.info? t=ς i/\i.size≠0:=info_f h hn
theorem ua{z:Value}{b:Nat}(h1:(P.info? t).map (·.zero)=ς (ς z))(h:(P.info? t).map (λi=>(i.size,i.bytes))=ς (n,b):=by kernel_rfl)(hz:z.cells.size=n:=by exact rfl):∃i z,P.info? t=ς i/\i.size=n/\i.bytes=b/\i.zero=ς z/\z.cells.size=n:=by
 obtain⟨i,h2,h3⟩:=T5 h1
 simp[h2] at h
 exact⟨i,z,h2,h.1,h.2,h3,hz⟩
theorem tyf{t f off ft:Nat}{fs:Array Field}{fd:Field}(n:Nat)(hu:P.underlying t=ς (.struct fs))(h1:fs[f]?=ς fd:=by exact rfl)(h2:fd.offset=off:=by exact rfl)(h3:fd.type=ft:=by exact rfl)(h4:(P.info? ft).map (·.size)=ς n:=by kernel_rfl)(hn:n≠0:=by decide):TyF P t f off ft:=⟨_,_,hu,h1,h2,h3,tyff n h4 hn⟩
theorem fE{t:Nat}(h:∀w,(isAgg t).run P w= .ok ζ w:=by intro w;kernel_rfl)(hn:(P.info? t).map (·.size)=ς n:=by kernel_rfl):dV P t n:=⟨h,Mt hn⟩
theorem qA{t:Nat}(h:∀w,(isAgg t).run P w= .ok η w:=by intro w;kernel_rfl)(hn:(P.info? t).map (·.size)=ς 1:=by kernel_rfl):fY P t:=⟨h,Mt hn⟩
instance {P:Program} {t n:Nat} [h:dV P t n]:TyN P t n:=⟨h.n⟩
instance {P:Program} {t:Nat} [h:fY P t]:TyN P t 1:=⟨h.n⟩
abbrev zvI:Value:=.int .i64 0
abbrev zvB:Value:=.bool η
abbrev zvN:Value:=.slice ξ 0 0
abbrev zcI:C:=.d η (.i .i64 0)
abbrev zcB:C:=.d η (.b η)
abbrev zdI:D:=.i .i64 0
abbrev zdB:D:=.b η
abbrev zdL:D:=.l []
abbrev edI(n:Int):D:=.i .i64 n
abbrev esI(n:Int):F:=.s (.i .i64 n)
instance:fY prog 3:=qA
instance:TyU prog 3 (.int .i64):=⟨underlying3⟩
theorem Tryz.z3:(prog.info? 3).map (·.zero)=ς (ς zvI):=by kernel_rfl
instance:TyZ prog 3 [zcI]:=⟨cg Tryz.z3⟩
instance:TyE prog 3 [zdI]:=⟨cg Tryz.z3⟩
instance:fY prog 4:=qA
instance:TyU prog 4 (.bool):=⟨underlying4⟩
theorem Tryz.z4:(prog.info? 4).map (·.zero)=ς (ς zvB):=by kernel_rfl
instance:TyZ prog 4 [zcB]:=⟨cg Tryz.z4⟩
instance:TyE prog 4 [zdB]:=⟨cg Tryz.z4⟩
instance:fY prog 5:=qA
instance:TyU prog 5 (.int .u8):=⟨underlying5⟩
theorem Tryz.z5:(prog.info? 5).map (·.zero)=ς (ς (.int .u8 0)):=by kernel_rfl
instance:TyZ prog 5 [.d η (.i .u8 0)]:=⟨cg Tryz.z5⟩
instance:TyE prog 5 [.i .u8 0]:=⟨cg Tryz.z5⟩
instance:fY prog 9:=qA
instance:TyU prog 9 (.string):=⟨underlying9⟩
theorem Tryz.z9:(prog.info? 9).map (·.zero)=ς (ς (.string ⟨#[]⟩)):=by kernel_rfl
instance:TyZ prog 9 [.d η (.str ⟨#[]⟩)]:=⟨cg Tryz.z9⟩
instance:TyE prog 9 [.str ⟨#[]⟩]:=⟨cg Tryz.z9⟩
instance:fY prog 22:=qA
theorem Tryz.z22:(prog.info? 22).map (·.zero)=ς (ς zvN):=by kernel_rfl
instance:TyZ prog 22 [.nil]:=⟨cg Tryz.z22⟩
instance:TyE prog 22 [zdL]:=⟨cg Tryz.z22⟩
instance:dV prog 24 1:=fE
theorem Tryz.z24:(prog.info? 24).map (·.zero)=ς (ς (.agg #[zvN])):=by kernel_rfl
instance:TyZ prog 24 [.nil]:=⟨cg Tryz.z24⟩
instance:TyE prog 24 [zdL]:=⟨cg Tryz.z24⟩
instance:TyB prog 24 [(0,1)]:=⟨_,underlying24,λw=>by kernel_rfl⟩
instance:TyF prog 24 0 0 22:=tyf 1 underlying24
instance:fY prog 25:=qA
theorem Tryz.z25:(prog.info? 25).map (·.zero)=ς (ς zvN):=by kernel_rfl
instance:TyZ prog 25 [.nil]:=⟨cg Tryz.z25⟩
instance:TyE prog 25 [zdL]:=⟨cg Tryz.z25⟩
instance:fY prog 26:=qA
theorem Tryz.z26:(prog.info? 26).map (·.zero)=ς (ς zvN):=by kernel_rfl
instance:TyZ prog 26 [.nil]:=⟨cg Tryz.z26⟩
instance:TyE prog 26 [zdL]:=⟨cg Tryz.z26⟩
instance:fY prog 27:=qA
theorem Tryz.z27:(prog.info? 27).map (·.zero)=ς (ς zvN):=by kernel_rfl
instance:TyZ prog 27 [.nil]:=⟨cg Tryz.z27⟩
instance:TyE prog 27 [zdL]:=⟨cg Tryz.z27⟩
instance:fY prog 28:=qA
theorem Tryz.z28:(prog.info? 28).map (·.zero)=ς (ς zvN):=by kernel_rfl
instance:TyZ prog 28 [.nil]:=⟨cg Tryz.z28⟩
instance:TyE prog 28 [zdL]:=⟨cg Tryz.z28⟩
instance:dV prog 30 2:=fE
theorem Tryz.z30:(prog.info? 30).map (·.zero)=ς (ς (.agg #[zvI,zvI])):=by kernel_rfl
instance:TyZ prog 30 [zcI,zcI]:=⟨cg Tryz.z30⟩
instance:TyE prog 30 [zdI,zdI]:=⟨cg Tryz.z30⟩
instance:TyB prog 30 [(0,1),(1,1)]:=⟨_,underlying30,λw=>by kernel_rfl⟩
instance:TyF prog 30 0 0 3:=tyf 1 underlying30
instance:TyF prog 30 1 1 3:=tyf 1 underlying30
instance:dV prog 32 10:=fE
theorem Tryz.z32:(prog.info? 32).map (·.zero)=ς (ς (.agg #[zvN,zvN,zvN,zvN,zvN,zvI,zvI,zvI,zvI,zvI])):=by kernel_rfl
instance:TyZ prog 32 [.nil,.nil,.nil,.nil,.nil,zcI,zcI,zcI,zcI,zcI]:=⟨cg Tryz.z32⟩
instance:TyE prog 32 [zdL,zdL,zdL,zdL,zdL,zdI,zdI,zdI,zdI,zdI]:=⟨cg Tryz.z32⟩
instance:TyB prog 32 [(0,1),(1,1),(2,1),(3,1),(4,1),(5,1),(6,2),(8,1),(9,1)]:=⟨_,underlying32,λw=>by kernel_rfl⟩
instance:TyF prog 32 0 0 24:=tyf 1 underlying32
instance:TyF prog 32 1 1 25:=tyf 1 underlying32
instance:TyF prog 32 2 2 26:=tyf 1 underlying32
instance:TyF prog 32 3 3 27:=tyf 1 underlying32
instance:TyF prog 32 4 4 28:=tyf 1 underlying32
instance:TyF prog 32 5 5 3:=tyf 1 underlying32
instance:TyF prog 32 6 6 30:=tyf 2 underlying32
instance:TyF prog 32 7 8 3:=tyf 1 underlying32
instance:TyF prog 32 8 9 3:=tyf 1 underlying32
instance:fY prog 34:=qA
theorem Tryz.z34:(prog.info? 34).map (·.zero)=ς (ς zvN):=by kernel_rfl
instance:TyZ prog 34 [.nil]:=⟨cg Tryz.z34⟩
instance:TyE prog 34 [zdL]:=⟨cg Tryz.z34⟩
instance:dV prog 36 1:=fE
theorem Tryz.z36:(prog.info? 36).map (·.zero)=ς (ς (.agg #[zvN])):=by kernel_rfl
instance:TyZ prog 36 [.nil]:=⟨cg Tryz.z36⟩
instance:TyE prog 36 [zdL]:=⟨cg Tryz.z36⟩
instance:TyB prog 36 [(0,1)]:=⟨_,underlying36,λw=>by kernel_rfl⟩
instance:TyF prog 36 0 0 34:=tyf 1 underlying36
instance:fY prog 37:=qA
theorem Tryz.z37:(prog.info? 37).map (·.zero)=ς (ς zvN):=by kernel_rfl
instance:TyZ prog 37 [.nil]:=⟨cg Tryz.z37⟩
instance:TyE prog 37 [zdL]:=⟨cg Tryz.z37⟩
instance:fY prog 38:=qA
theorem Tryz.z38:(prog.info? 38).map (·.zero)=ς (ς zvN):=by kernel_rfl
instance:TyZ prog 38 [.nil]:=⟨cg Tryz.z38⟩
instance:TyE prog 38 [zdL]:=⟨cg Tryz.z38⟩
instance:fY prog 39:=qA
theorem Tryz.z39:(prog.info? 39).map (·.zero)=ς (ς zvN):=by kernel_rfl
instance:TyZ prog 39 [.nil]:=⟨cg Tryz.z39⟩
instance:TyE prog 39 [zdL]:=⟨cg Tryz.z39⟩
instance:fY prog 40:=qA
theorem Tryz.z40:(prog.info? 40).map (·.zero)=ς (ς zvN):=by kernel_rfl
instance:TyZ prog 40 [.nil]:=⟨cg Tryz.z40⟩
instance:TyE prog 40 [zdL]:=⟨cg Tryz.z40⟩
instance:dV prog 41 2:=fE
theorem Tryz.z41:(prog.info? 41).map (·.zero)=ς (ς (.agg #[zvI,zvI])):=by kernel_rfl
instance:TyZ prog 41 [zcI,zcI]:=⟨cg Tryz.z41⟩
instance:TyE prog 41 [zdI,zdI]:=⟨cg Tryz.z41⟩
instance:TyB prog 41 [(0,1),(1,1)]:=⟨_,underlying41,λw=>by kernel_rfl⟩
instance:TyF prog 41 0 0 3:=tyf 1 underlying41
instance:TyF prog 41 1 1 3:=tyf 1 underlying41
instance:dV prog 43 10:=fE
theorem Tryz.z43:(prog.info? 43).map (·.zero)=ς (ς (.agg #[zvN,zvN,zvN,zvN,zvN,zvI,zvI,zvI,zvI,zvI])):=by kernel_rfl
instance:TyZ prog 43 [.nil,.nil,.nil,.nil,.nil,zcI,zcI,zcI,zcI,zcI]:=⟨cg Tryz.z43⟩
instance:TyE prog 43 [zdL,zdL,zdL,zdL,zdL,zdI,zdI,zdI,zdI,zdI]:=⟨cg Tryz.z43⟩
instance:TyB prog 43 [(0,1),(1,1),(2,1),(3,1),(4,1),(5,1),(6,2),(8,1),(9,1)]:=⟨_,underlying43,λw=>by kernel_rfl⟩
instance:TyF prog 43 0 0 36:=tyf 1 underlying43
instance:TyF prog 43 1 1 37:=tyf 1 underlying43
instance:TyF prog 43 2 2 38:=tyf 1 underlying43
instance:TyF prog 43 3 3 39:=tyf 1 underlying43
instance:TyF prog 43 4 4 40:=tyf 1 underlying43
instance:TyF prog 43 5 5 3:=tyf 1 underlying43
instance:TyF prog 43 6 6 41:=tyf 2 underlying43
instance:TyF prog 43 7 8 3:=tyf 1 underlying43
instance:TyF prog 43 8 9 3:=tyf 1 underlying43
instance:dV prog 81 2:=fE
theorem Tryz.z81:(prog.info? 81).map (·.zero)=ς (ς (.agg #[zvI,zvI])):=by kernel_rfl
instance:TyZ prog 81 [zcI,zcI]:=⟨cg Tryz.z81⟩
instance:TyE prog 81 [zdI,zdI]:=⟨cg Tryz.z81⟩
instance:TyB prog 81 [(0,1),(1,1)]:=⟨_,underlying81,λw=>by kernel_rfl⟩
instance:TyF prog 81 0 0 3:=tyf 1 underlying81
instance:TyF prog 81 1 1 3:=tyf 1 underlying81
instance:dV prog 83 4:=fE
theorem Tryz.z83:(prog.info? 83).map (·.zero)=ς (ς (.agg #[zvI,zvI,zvI,zvI])):=by kernel_rfl
instance:TyZ prog 83 [zcI,zcI,zcI,zcI]:=⟨cg Tryz.z83⟩
instance:TyE prog 83 [zdI,zdI,zdI,zdI]:=⟨cg Tryz.z83⟩
instance:TyB prog 83 [(0,2),(2,1),(3,1)]:=⟨_,underlying83,λw=>by kernel_rfl⟩
instance:TyF prog 83 0 0 81:=tyf 2 underlying83
instance:TyF prog 83 1 2 3:=tyf 1 underlying83
instance:TyF prog 83 2 3 3:=tyf 1 underlying83
instance:fY prog 84:=qA
theorem Tryz.z84:(prog.info? 84).map (·.zero)=ς (ς zvN):=by kernel_rfl
instance:TyZ prog 84 [.nil]:=⟨cg Tryz.z84⟩
instance:TyE prog 84 [zdL]:=⟨cg Tryz.z84⟩
instance:fY prog 85:=qA
theorem Tryz.z85:(prog.info? 85).map (·.zero)=ς (ς zvN):=by kernel_rfl
instance:TyZ prog 85 [.nil]:=⟨cg Tryz.z85⟩
instance:TyE prog 85 [zdL]:=⟨cg Tryz.z85⟩
instance:dV prog 87 3:=fE
theorem Tryz.z87:(prog.info? 87).map (·.zero)=ς (ς (.agg #[zvI,zvN,zvN])):=by kernel_rfl
instance:TyZ prog 87 [zcI,.nil,.nil]:=⟨cg Tryz.z87⟩
instance:TyE prog 87 [zdI,zdL,zdL]:=⟨cg Tryz.z87⟩
instance:TyB prog 87 [(0,1),(1,1),(2,1)]:=⟨_,underlying87,λw=>by kernel_rfl⟩
instance:TyF prog 87 0 0 3:=tyf 1 underlying87
instance:TyF prog 87 1 1 84:=tyf 1 underlying87
instance:TyF prog 87 2 2 85:=tyf 1 underlying87
instance:dV prog 89 14:=fE
theorem Tryz.z89:(prog.info? 89).map (·.zero)=ς (ς (.agg #[zvI,zvI,zvI,zvI,zvI,zvI,zvI,zvI,zvI,zvB,zvI,zvI,zvN,zvN])):=by kernel_rfl
instance:TyZ prog 89 [zcI,zcI,zcI,zcI,zcI,zcI,zcI,zcI,zcI,zcB,zcI,zcI,.nil,.nil]:=⟨cg Tryz.z89⟩
instance:TyE prog 89 [zdI,zdI,zdI,zdI,zdI,zdI,zdI,zdI,zdI,zdB,zdI,zdI,zdL,zdL]:=⟨cg Tryz.z89⟩
instance:TyB prog 89 [(0,4),(4,1),(5,1),(6,1),(7,1),(8,1),(9,1),(10,1),(11,3)]:=⟨_,underlying89,λw=>by kernel_rfl⟩
instance:TyF prog 89 0 0 83:=tyf 4 underlying89
instance:TyF prog 89 1 4 3:=tyf 1 underlying89
instance:TyF prog 89 2 5 3:=tyf 1 underlying89
instance:TyF prog 89 3 6 3:=tyf 1 underlying89
instance:TyF prog 89 4 7 3:=tyf 1 underlying89
instance:TyF prog 89 5 8 3:=tyf 1 underlying89
instance:TyF prog 89 6 9 4:=tyf 1 underlying89
instance:TyF prog 89 7 10 3:=tyf 1 underlying89
instance:TyF prog 89 8 11 87:=tyf 3 underlying89
instance:dV prog 92 4:=fE
theorem Tryz.z92:(prog.info? 92).map (·.zero)=ς (ς (.agg #[zvI,zvI,zvI,zvI])):=by kernel_rfl
instance:TyZ prog 92 [zcI,zcI,zcI,zcI]:=⟨cg Tryz.z92⟩
instance:TyE prog 92 [zdI,zdI,zdI,zdI]:=⟨cg Tryz.z92⟩
instance:TyB prog 92 [(0,2),(2,1),(3,1)]:=⟨_,underlying92,λw=>by kernel_rfl⟩
instance:TyF prog 92 0 0 81:=tyf 2 underlying92
instance:TyF prog 92 1 2 3:=tyf 1 underlying92
instance:TyF prog 92 2 3 3:=tyf 1 underlying92
instance:fY prog 93:=qA
theorem Tryz.z93:(prog.info? 93).map (·.zero)=ς (ς zvN):=by kernel_rfl
instance:TyZ prog 93 [.nil]:=⟨cg Tryz.z93⟩
instance:TyE prog 93 [zdL]:=⟨cg Tryz.z93⟩
instance:dV prog 95 4:=fE
theorem Tryz.z95:(prog.info? 95).map (·.zero)=ς (ς (.agg #[zvI,zvI,zvI,zvN])):=by kernel_rfl
instance:TyZ prog 95 [zcI,zcI,zcI,.nil]:=⟨cg Tryz.z95⟩
instance:TyE prog 95 [zdI,zdI,zdI,zdL]:=⟨cg Tryz.z95⟩
instance:TyB prog 95 [(0,1),(1,1),(2,1),(3,1)]:=⟨_,underlying95,λw=>by kernel_rfl⟩
instance:TyF prog 95 0 0 3:=tyf 1 underlying95
instance:TyF prog 95 1 1 3:=tyf 1 underlying95
instance:TyF prog 95 2 2 3:=tyf 1 underlying95
instance:TyF prog 95 3 3 93:=tyf 1 underlying95
instance:dV prog 97 5:=fE
theorem Tryz.z97:(prog.info? 97).map (·.zero)=ς (ς (.agg #[zvI,zvI,zvI,zvI,zvI])):=by kernel_rfl
instance:TyZ prog 97 [zcI,zcI,zcI,zcI,zcI]:=⟨cg Tryz.z97⟩
instance:TyE prog 97 [zdI,zdI,zdI,zdI,zdI]:=⟨cg Tryz.z97⟩
instance:TyB prog 97 [(0,1),(1,1),(2,1),(3,1),(4,1)]:=⟨_,underlying97,λw=>by kernel_rfl⟩
instance:TyF prog 97 0 0 3:=tyf 1 underlying97
instance:TyF prog 97 1 1 3:=tyf 1 underlying97
instance:TyF prog 97 2 2 3:=tyf 1 underlying97
instance:TyF prog 97 3 3 3:=tyf 1 underlying97
instance:TyF prog 97 4 4 3:=tyf 1 underlying97
instance:dV prog 99 3:=fE
theorem Tryz.z99:(prog.info? 99).map (·.zero)=ς (ς (.agg #[zvI,zvI,zvI])):=by kernel_rfl
instance:TyZ prog 99 [zcI,zcI,zcI]:=⟨cg Tryz.z99⟩
instance:TyE prog 99 [zdI,zdI,zdI]:=⟨cg Tryz.z99⟩
instance:TyB prog 99 [(0,1),(1,1),(2,1)]:=⟨_,underlying99,λw=>by kernel_rfl⟩
instance:TyF prog 99 0 0 3:=tyf 1 underlying99
instance:TyF prog 99 1 1 3:=tyf 1 underlying99
instance:TyF prog 99 2 2 3:=tyf 1 underlying99
instance:dV prog 101 2:=fE
theorem Tryz.z101:(prog.info? 101).map (·.zero)=ς (ς (.agg #[zvI,zvN])):=by kernel_rfl
instance:TyZ prog 101 [zcI,.nil]:=⟨cg Tryz.z101⟩
instance:TyE prog 101 [zdI,zdL]:=⟨cg Tryz.z101⟩
instance:TyB prog 101 [(0,1),(1,1)]:=⟨_,underlying101,λw=>by kernel_rfl⟩
instance:TyF prog 101 0 0 3:=tyf 1 underlying101
instance:TyF prog 101 1 1 84:=tyf 1 underlying101
instance:dV prog 103 3:=fE
theorem Tryz.z103:(prog.info? 103).map (·.zero)=ς (ς (.agg #[zvI,zvI,zvI])):=by kernel_rfl
instance:TyZ prog 103 [zcI,zcI,zcI]:=⟨cg Tryz.z103⟩
instance:TyE prog 103 [zdI,zdI,zdI]:=⟨cg Tryz.z103⟩
instance:TyB prog 103 [(0,1),(1,1),(2,1)]:=⟨_,underlying103,λw=>by kernel_rfl⟩
instance:TyF prog 103 0 0 3:=tyf 1 underlying103
instance:TyF prog 103 1 1 3:=tyf 1 underlying103
instance:TyF prog 103 2 2 3:=tyf 1 underlying103
instance:dV prog 105 30:=fE
theorem Tryz.z105:(prog.info? 105).map (·.zero)=ς (ς (.agg #[zvI,zvI,zvI,zvI,zvI,zvI,zvI,zvN,zvI,zvI,zvI,zvI,zvI,zvI,zvI,zvI,zvI,zvI,zvI,zvI,zvI,zvI,zvI,zvN,zvI,zvN,zvI,zvI,zvI,zvI])):=by kernel_rfl
instance:TyZ prog 105 [zcI,zcI,zcI,zcI,zcI,zcI,zcI,.nil,zcI,zcI,zcI,zcI,zcI,zcI,zcI,zcI,zcI,zcI,zcI,zcI,zcI,zcI,zcI,.nil,zcI,.nil,zcI,zcI,zcI,zcI]:=⟨cg Tryz.z105⟩
instance:TyE prog 105 [zdI,zdI,zdI,zdI,zdI,zdI,zdI,zdL,zdI,zdI,zdI,zdI,zdI,zdI,zdI,zdI,zdI,zdI,zdI,zdI,zdI,zdI,zdI,zdL,zdI,zdL,zdI,zdI,zdI,zdI]:=⟨cg Tryz.z105⟩
instance:TyB prog 105 [(0,4),(4,4),(8,1),(9,5),(14,1),(15,1),(16,1),(17,1),(18,1),(19,1),(20,3),(23,1),(24,2),(26,1),(27,3)]:=⟨_,underlying105,λw=>by kernel_rfl⟩
instance:TyF prog 105 0 0 92:=tyf 4 underlying105
instance:TyF prog 105 1 4 95:=tyf 4 underlying105
instance:TyF prog 105 2 8 3:=tyf 1 underlying105
instance:TyF prog 105 3 9 97:=tyf 5 underlying105
instance:TyF prog 105 4 14 3:=tyf 1 underlying105
instance:TyF prog 105 5 15 3:=tyf 1 underlying105
instance:TyF prog 105 6 16 3:=tyf 1 underlying105
instance:TyF prog 105 7 17 3:=tyf 1 underlying105
instance:TyF prog 105 8 18 3:=tyf 1 underlying105
instance:TyF prog 105 9 19 3:=tyf 1 underlying105
instance:TyF prog 105 10 20 99:=tyf 3 underlying105
instance:TyF prog 105 11 23 85:=tyf 1 underlying105
instance:TyF prog 105 12 24 101:=tyf 2 underlying105
instance:TyF prog 105 13 26 3:=tyf 1 underlying105
instance:TyF prog 105 14 27 103:=tyf 3 underlying105
instance:fY prog 107:=qA
theorem Tryz.z107:(prog.info? 107).map (·.zero)=ς (ς zvN):=by kernel_rfl
instance:TyZ prog 107 [.nil]:=⟨cg Tryz.z107⟩
instance:TyE prog 107 [zdL]:=⟨cg Tryz.z107⟩
instance:dV prog 109 4:=fE
theorem Tryz.z109:(prog.info? 109).map (·.zero)=ς (ς (.agg #[zvI,zvI,zvI,zvN])):=by kernel_rfl
instance:TyZ prog 109 [zcI,zcI,zcI,.nil]:=⟨cg Tryz.z109⟩
instance:TyE prog 109 [zdI,zdI,zdI,zdL]:=⟨cg Tryz.z109⟩
instance:TyB prog 109 [(0,1),(1,1),(2,1),(3,1)]:=⟨_,underlying109,λw=>by kernel_rfl⟩
instance:TyF prog 109 0 0 3:=tyf 1 underlying109
instance:TyF prog 109 1 1 3:=tyf 1 underlying109
instance:TyF prog 109 2 2 3:=tyf 1 underlying109
instance:TyF prog 109 3 3 107:=tyf 1 underlying109
instance:dV prog 112 11:=fE
theorem Tryz.z112:(prog.info? 112).map (·.zero)=ς (ς (.agg #[zvI,zvI,zvI,zvI,zvI,zvI,zvI,zvI,zvI,zvI,zvI])):=by kernel_rfl
instance:TyZ prog 112 [zcI,zcI,zcI,zcI,zcI,zcI,zcI,zcI,zcI,zcI,zcI]:=⟨cg Tryz.z112⟩
instance:TyE prog 112 [zdI,zdI,zdI,zdI,zdI,zdI,zdI,zdI,zdI,zdI,zdI]:=⟨cg Tryz.z112⟩
instance:TyB prog 112 [(0,1),(1,1),(2,1),(3,1),(4,1),(5,5),(10,1)]:=⟨_,underlying112,λw=>by kernel_rfl⟩
instance:TyF prog 112 0 0 3:=tyf 1 underlying112
instance:TyF prog 112 1 1 3:=tyf 1 underlying112
instance:TyF prog 112 2 2 3:=tyf 1 underlying112
instance:TyF prog 112 3 3 3:=tyf 1 underlying112
instance:TyF prog 112 4 4 3:=tyf 1 underlying112
instance:TyF prog 112 5 5 97:=tyf 5 underlying112
instance:TyF prog 112 6 10 3:=tyf 1 underlying112
instance:fY prog 113:=qA
theorem Tryz.z113:(prog.info? 113).map (·.zero)=ς (ς zvN):=by kernel_rfl
instance:TyZ prog 113 [.nil]:=⟨cg Tryz.z113⟩
instance:TyE prog 113 [zdL]:=⟨cg Tryz.z113⟩
instance:dV prog 115 4:=fE
theorem Tryz.z115:(prog.info? 115).map (·.zero)=ς (ς (.agg #[zvI,zvI,zvN,zvI])):=by kernel_rfl
instance:TyZ prog 115 [zcI,zcI,.nil,zcI]:=⟨cg Tryz.z115⟩
instance:TyE prog 115 [zdI,zdI,zdL,zdI]:=⟨cg Tryz.z115⟩
instance:TyB prog 115 [(0,1),(1,1),(2,1),(3,1)]:=⟨_,underlying115,λw=>by kernel_rfl⟩
instance:TyF prog 115 0 0 3:=tyf 1 underlying115
instance:TyF prog 115 1 1 3:=tyf 1 underlying115
instance:TyF prog 115 2 2 113:=tyf 1 underlying115
instance:TyF prog 115 3 3 3:=tyf 1 underlying115
instance:dV prog 117 6:=fE
theorem Tryz.z117:(prog.info? 117).map (·.zero)=ς (ς (.agg #[zvI,zvI,zvI,zvI,zvN,zvI])):=by kernel_rfl
instance:TyZ prog 117 [zcI,zcI,zcI,zcI,.nil,zcI]:=⟨cg Tryz.z117⟩
instance:TyE prog 117 [zdI,zdI,zdI,zdI,zdL,zdI]:=⟨cg Tryz.z117⟩
instance:TyB prog 117 [(0,1),(1,1),(2,4)]:=⟨_,underlying117,λw=>by kernel_rfl⟩
instance:TyF prog 117 0 0 3:=tyf 1 underlying117
instance:TyF prog 117 1 1 3:=tyf 1 underlying117
instance:TyF prog 117 2 2 115:=tyf 4 underlying117
instance:dV prog 119 21:=fE
theorem Tryz.z119:(prog.info? 119).map (·.zero)=ς (ς (.agg #[zvI,zvB,zvB,zvI,zvI,zvI,zvI,zvI,zvI,zvI,zvI,zvI,zvI,zvI,zvI,zvI,zvI,zvI,zvI,zvN,zvI])):=by kernel_rfl
instance:TyZ prog 119 [zcI,zcB,zcB,zcI,zcI,zcI,zcI,zcI,zcI,zcI,zcI,zcI,zcI,zcI,zcI,zcI,zcI,zcI,zcI,.nil,zcI]:=⟨cg Tryz.z119⟩
instance:TyE prog 119 [zdI,zdB,zdB,zdI,zdI,zdI,zdI,zdI,zdI,zdI,zdI,zdI,zdI,zdI,zdI,zdI,zdI,zdI,zdI,zdL,zdI]:=⟨cg Tryz.z119⟩
instance:TyB prog 119 [(0,1),(1,1),(2,1),(3,1),(4,11),(15,6)]:=⟨_,underlying119,λw=>by kernel_rfl⟩
instance:TyF prog 119 0 0 3:=tyf 1 underlying119
instance:TyF prog 119 1 1 4:=tyf 1 underlying119
instance:TyF prog 119 2 2 4:=tyf 1 underlying119
instance:TyF prog 119 3 3 3:=tyf 1 underlying119
instance:TyF prog 119 4 4 112:=tyf 11 underlying119
instance:TyF prog 119 5 15 117:=tyf 6 underlying119
instance:dV prog 121 2:=fE
theorem Tryz.z121:(prog.info? 121).map (·.zero)=ς (ς (.agg #[zvI,zvI])):=by kernel_rfl
instance:TyZ prog 121 [zcI,zcI]:=⟨cg Tryz.z121⟩
instance:TyE prog 121 [zdI,zdI]:=⟨cg Tryz.z121⟩
instance:TyB prog 121 [(0,1),(1,1)]:=⟨_,underlying121,λw=>by kernel_rfl⟩
instance:TyF prog 121 0 0 3:=tyf 1 underlying121
instance:TyF prog 121 1 1 3:=tyf 1 underlying121
instance:dV prog 123 4:=fE
theorem Tryz.z123:(prog.info? 123).map (·.zero)=ς (ς (.agg #[zvI,zvI,zvI,zvI])):=by kernel_rfl
instance:TyZ prog 123 [zcI,zcI,zcI,zcI]:=⟨cg Tryz.z123⟩
instance:TyE prog 123 [zdI,zdI,zdI,zdI]:=⟨cg Tryz.z123⟩
instance:TyB prog 123 [(0,2),(2,1),(3,1)]:=⟨_,underlying123,λw=>by kernel_rfl⟩
instance:TyF prog 123 0 0 121:=tyf 2 underlying123
instance:TyF prog 123 1 2 3:=tyf 1 underlying123
instance:TyF prog 123 2 3 3:=tyf 1 underlying123
instance:fY prog 124:=qA
theorem Tryz.z124:(prog.info? 124).map (·.zero)=ς (ς zvN):=by kernel_rfl
instance:TyZ prog 124 [.nil]:=⟨cg Tryz.z124⟩
instance:TyE prog 124 [zdL]:=⟨cg Tryz.z124⟩
instance:fY prog 125:=qA
theorem Tryz.z125:(prog.info? 125).map (·.zero)=ς (ς zvN):=by kernel_rfl
instance:TyZ prog 125 [.nil]:=⟨cg Tryz.z125⟩
instance:TyE prog 125 [zdL]:=⟨cg Tryz.z125⟩
instance:dV prog 127 3:=fE
theorem Tryz.z127:(prog.info? 127).map (·.zero)=ς (ς (.agg #[zvI,zvN,zvN])):=by kernel_rfl
instance:TyZ prog 127 [zcI,.nil,.nil]:=⟨cg Tryz.z127⟩
instance:TyE prog 127 [zdI,zdL,zdL]:=⟨cg Tryz.z127⟩
instance:TyB prog 127 [(0,1),(1,1),(2,1)]:=⟨_,underlying127,λw=>by kernel_rfl⟩
instance:TyF prog 127 0 0 3:=tyf 1 underlying127
instance:TyF prog 127 1 1 124:=tyf 1 underlying127
instance:TyF prog 127 2 2 125:=tyf 1 underlying127
instance:dV prog 129 14:=fE
theorem Tryz.z129:(prog.info? 129).map (·.zero)=ς (ς (.agg #[zvI,zvI,zvI,zvI,zvI,zvI,zvI,zvI,zvI,zvB,zvI,zvI,zvN,zvN])):=by kernel_rfl
instance:TyZ prog 129 [zcI,zcI,zcI,zcI,zcI,zcI,zcI,zcI,zcI,zcB,zcI,zcI,.nil,.nil]:=⟨cg Tryz.z129⟩
instance:TyE prog 129 [zdI,zdI,zdI,zdI,zdI,zdI,zdI,zdI,zdI,zdB,zdI,zdI,zdL,zdL]:=⟨cg Tryz.z129⟩
instance:TyB prog 129 [(0,4),(4,1),(5,1),(6,1),(7,1),(8,1),(9,1),(10,1),(11,3)]:=⟨_,underlying129,λw=>by kernel_rfl⟩
instance:TyF prog 129 0 0 123:=tyf 4 underlying129
instance:TyF prog 129 1 4 3:=tyf 1 underlying129
instance:TyF prog 129 2 5 3:=tyf 1 underlying129
instance:TyF prog 129 3 6 3:=tyf 1 underlying129
instance:TyF prog 129 4 7 3:=tyf 1 underlying129
instance:TyF prog 129 5 8 3:=tyf 1 underlying129
instance:TyF prog 129 6 9 4:=tyf 1 underlying129
instance:TyF prog 129 7 10 3:=tyf 1 underlying129
instance:TyF prog 129 8 11 127:=tyf 3 underlying129
instance:dV prog 132 4:=fE
theorem Tryz.z132:(prog.info? 132).map (·.zero)=ς (ς (.agg #[zvI,zvI,zvI,zvI])):=by kernel_rfl
instance:TyZ prog 132 [zcI,zcI,zcI,zcI]:=⟨cg Tryz.z132⟩
instance:TyE prog 132 [zdI,zdI,zdI,zdI]:=⟨cg Tryz.z132⟩
instance:TyB prog 132 [(0,2),(2,1),(3,1)]:=⟨_,underlying132,λw=>by kernel_rfl⟩
instance:TyF prog 132 0 0 121:=tyf 2 underlying132
instance:TyF prog 132 1 2 3:=tyf 1 underlying132
instance:TyF prog 132 2 3 3:=tyf 1 underlying132
instance:dV prog 133 4:=fE
theorem Tryz.z133:(prog.info? 133).map (·.zero)=ς (ς (.agg #[zvI,zvI,zvI,zvN])):=by kernel_rfl
instance:TyZ prog 133 [zcI,zcI,zcI,.nil]:=⟨cg Tryz.z133⟩
instance:TyE prog 133 [zdI,zdI,zdI,zdL]:=⟨cg Tryz.z133⟩
instance:TyB prog 133 [(0,1),(1,1),(2,1),(3,1)]:=⟨_,underlying133,λw=>by kernel_rfl⟩
instance:TyF prog 133 0 0 3:=tyf 1 underlying133
instance:TyF prog 133 1 1 3:=tyf 1 underlying133
instance:TyF prog 133 2 2 3:=tyf 1 underlying133
instance:TyF prog 133 3 3 93:=tyf 1 underlying133
instance:dV prog 134 5:=fE
theorem Tryz.z134:(prog.info? 134).map (·.zero)=ς (ς (.agg #[zvI,zvI,zvI,zvI,zvI])):=by kernel_rfl
instance:TyZ prog 134 [zcI,zcI,zcI,zcI,zcI]:=⟨cg Tryz.z134⟩
instance:TyE prog 134 [zdI,zdI,zdI,zdI,zdI]:=⟨cg Tryz.z134⟩
instance:TyB prog 134 [(0,1),(1,1),(2,1),(3,1),(4,1)]:=⟨_,underlying134,λw=>by kernel_rfl⟩
instance:TyF prog 134 0 0 3:=tyf 1 underlying134
instance:TyF prog 134 1 1 3:=tyf 1 underlying134
instance:TyF prog 134 2 2 3:=tyf 1 underlying134
instance:TyF prog 134 3 3 3:=tyf 1 underlying134
instance:TyF prog 134 4 4 3:=tyf 1 underlying134
instance:dV prog 135 3:=fE
theorem Tryz.z135:(prog.info? 135).map (·.zero)=ς (ς (.agg #[zvI,zvI,zvI])):=by kernel_rfl
instance:TyZ prog 135 [zcI,zcI,zcI]:=⟨cg Tryz.z135⟩
instance:TyE prog 135 [zdI,zdI,zdI]:=⟨cg Tryz.z135⟩
instance:TyB prog 135 [(0,1),(1,1),(2,1)]:=⟨_,underlying135,λw=>by kernel_rfl⟩
instance:TyF prog 135 0 0 3:=tyf 1 underlying135
instance:TyF prog 135 1 1 3:=tyf 1 underlying135
instance:TyF prog 135 2 2 3:=tyf 1 underlying135
instance:dV prog 137 2:=fE
theorem Tryz.z137:(prog.info? 137).map (·.zero)=ς (ς (.agg #[zvI,zvN])):=by kernel_rfl
instance:TyZ prog 137 [zcI,.nil]:=⟨cg Tryz.z137⟩
instance:TyE prog 137 [zdI,zdL]:=⟨cg Tryz.z137⟩
instance:TyB prog 137 [(0,1),(1,1)]:=⟨_,underlying137,λw=>by kernel_rfl⟩
instance:TyF prog 137 0 0 3:=tyf 1 underlying137
instance:TyF prog 137 1 1 124:=tyf 1 underlying137
instance:dV prog 138 3:=fE
theorem Tryz.z138:(prog.info? 138).map (·.zero)=ς (ς (.agg #[zvI,zvI,zvI])):=by kernel_rfl
instance:TyZ prog 138 [zcI,zcI,zcI]:=⟨cg Tryz.z138⟩
instance:TyE prog 138 [zdI,zdI,zdI]:=⟨cg Tryz.z138⟩
instance:TyB prog 138 [(0,1),(1,1),(2,1)]:=⟨_,underlying138,λw=>by kernel_rfl⟩
instance:TyF prog 138 0 0 3:=tyf 1 underlying138
instance:TyF prog 138 1 1 3:=tyf 1 underlying138
instance:TyF prog 138 2 2 3:=tyf 1 underlying138
instance:dV prog 140 30:=fE
theorem Tryz.z140:(prog.info? 140).map (·.zero)=ς (ς (.agg #[zvI,zvI,zvI,zvI,zvI,zvI,zvI,zvN,zvI,zvI,zvI,zvI,zvI,zvI,zvI,zvI,zvI,zvI,zvI,zvI,zvI,zvI,zvI,zvN,zvI,zvN,zvI,zvI,zvI,zvI])):=by kernel_rfl
instance:TyZ prog 140 [zcI,zcI,zcI,zcI,zcI,zcI,zcI,.nil,zcI,zcI,zcI,zcI,zcI,zcI,zcI,zcI,zcI,zcI,zcI,zcI,zcI,zcI,zcI,.nil,zcI,.nil,zcI,zcI,zcI,zcI]:=⟨cg Tryz.z140⟩
instance:TyE prog 140 [zdI,zdI,zdI,zdI,zdI,zdI,zdI,zdL,zdI,zdI,zdI,zdI,zdI,zdI,zdI,zdI,zdI,zdI,zdI,zdI,zdI,zdI,zdI,zdL,zdI,zdL,zdI,zdI,zdI,zdI]:=⟨cg Tryz.z140⟩
instance:TyB prog 140 [(0,4),(4,4),(8,1),(9,5),(14,1),(15,1),(16,1),(17,1),(18,1),(19,1),(20,3),(23,1),(24,2),(26,1),(27,3)]:=⟨_,underlying140,λw=>by kernel_rfl⟩
instance:TyF prog 140 0 0 132:=tyf 4 underlying140
instance:TyF prog 140 1 4 133:=tyf 4 underlying140
instance:TyF prog 140 2 8 3:=tyf 1 underlying140
instance:TyF prog 140 3 9 134:=tyf 5 underlying140
instance:TyF prog 140 4 14 3:=tyf 1 underlying140
instance:TyF prog 140 5 15 3:=tyf 1 underlying140
instance:TyF prog 140 6 16 3:=tyf 1 underlying140
instance:TyF prog 140 7 17 3:=tyf 1 underlying140
instance:TyF prog 140 8 18 3:=tyf 1 underlying140
instance:TyF prog 140 9 19 3:=tyf 1 underlying140
instance:TyF prog 140 10 20 135:=tyf 3 underlying140
instance:TyF prog 140 11 23 125:=tyf 1 underlying140
instance:TyF prog 140 12 24 137:=tyf 2 underlying140
instance:TyF prog 140 13 26 3:=tyf 1 underlying140
instance:TyF prog 140 14 27 138:=tyf 3 underlying140
instance:fY prog 142:=qA
theorem Tryz.z142:(prog.info? 142).map (·.zero)=ς (ς zvN):=by kernel_rfl
instance:TyZ prog 142 [.nil]:=⟨cg Tryz.z142⟩
instance:TyE prog 142 [zdL]:=⟨cg Tryz.z142⟩
instance:dV prog 144 4:=fE
theorem Tryz.z144:(prog.info? 144).map (·.zero)=ς (ς (.agg #[zvI,zvI,zvI,zvN])):=by kernel_rfl
instance:TyZ prog 144 [zcI,zcI,zcI,.nil]:=⟨cg Tryz.z144⟩
instance:TyE prog 144 [zdI,zdI,zdI,zdL]:=⟨cg Tryz.z144⟩
instance:TyB prog 144 [(0,1),(1,1),(2,1),(3,1)]:=⟨_,underlying144,λw=>by kernel_rfl⟩
instance:TyF prog 144 0 0 3:=tyf 1 underlying144
instance:TyF prog 144 1 1 3:=tyf 1 underlying144
instance:TyF prog 144 2 2 3:=tyf 1 underlying144
instance:TyF prog 144 3 3 142:=tyf 1 underlying144
instance:dV prog 147 11:=fE
theorem Tryz.z147:(prog.info? 147).map (·.zero)=ς (ς (.agg #[zvI,zvI,zvI,zvI,zvI,zvI,zvI,zvI,zvI,zvI,zvI])):=by kernel_rfl
instance:TyZ prog 147 [zcI,zcI,zcI,zcI,zcI,zcI,zcI,zcI,zcI,zcI,zcI]:=⟨cg Tryz.z147⟩
instance:TyE prog 147 [zdI,zdI,zdI,zdI,zdI,zdI,zdI,zdI,zdI,zdI,zdI]:=⟨cg Tryz.z147⟩
instance:TyB prog 147 [(0,1),(1,1),(2,1),(3,1),(4,1),(5,5),(10,1)]:=⟨_,underlying147,λw=>by kernel_rfl⟩
instance:TyF prog 147 0 0 3:=tyf 1 underlying147
instance:TyF prog 147 1 1 3:=tyf 1 underlying147
instance:TyF prog 147 2 2 3:=tyf 1 underlying147
instance:TyF prog 147 3 3 3:=tyf 1 underlying147
instance:TyF prog 147 4 4 3:=tyf 1 underlying147
instance:TyF prog 147 5 5 134:=tyf 5 underlying147
instance:TyF prog 147 6 10 3:=tyf 1 underlying147
instance:dV prog 148 4:=fE
theorem Tryz.z148:(prog.info? 148).map (·.zero)=ς (ς (.agg #[zvI,zvI,zvN,zvI])):=by kernel_rfl
instance:TyZ prog 148 [zcI,zcI,.nil,zcI]:=⟨cg Tryz.z148⟩
instance:TyE prog 148 [zdI,zdI,zdL,zdI]:=⟨cg Tryz.z148⟩
instance:TyB prog 148 [(0,1),(1,1),(2,1),(3,1)]:=⟨_,underlying148,λw=>by kernel_rfl⟩
instance:TyF prog 148 0 0 3:=tyf 1 underlying148
instance:TyF prog 148 1 1 3:=tyf 1 underlying148
instance:TyF prog 148 2 2 113:=tyf 1 underlying148
instance:TyF prog 148 3 3 3:=tyf 1 underlying148
instance:dV prog 150 6:=fE
theorem Tryz.z150:(prog.info? 150).map (·.zero)=ς (ς (.agg #[zvI,zvI,zvI,zvI,zvN,zvI])):=by kernel_rfl
instance:TyZ prog 150 [zcI,zcI,zcI,zcI,.nil,zcI]:=⟨cg Tryz.z150⟩
instance:TyE prog 150 [zdI,zdI,zdI,zdI,zdL,zdI]:=⟨cg Tryz.z150⟩
instance:TyB prog 150 [(0,1),(1,1),(2,4)]:=⟨_,underlying150,λw=>by kernel_rfl⟩
instance:TyF prog 150 0 0 3:=tyf 1 underlying150
instance:TyF prog 150 1 1 3:=tyf 1 underlying150
instance:TyF prog 150 2 2 148:=tyf 4 underlying150
instance:dV prog 152 21:=fE
theorem Tryz.z152:(prog.info? 152).map (·.zero)=ς (ς (.agg #[zvI,zvB,zvB,zvI,zvI,zvI,zvI,zvI,zvI,zvI,zvI,zvI,zvI,zvI,zvI,zvI,zvI,zvI,zvI,zvN,zvI])):=by kernel_rfl
instance:TyZ prog 152 [zcI,zcB,zcB,zcI,zcI,zcI,zcI,zcI,zcI,zcI,zcI,zcI,zcI,zcI,zcI,zcI,zcI,zcI,zcI,.nil,zcI]:=⟨cg Tryz.z152⟩
instance:TyE prog 152 [zdI,zdB,zdB,zdI,zdI,zdI,zdI,zdI,zdI,zdI,zdI,zdI,zdI,zdI,zdI,zdI,zdI,zdI,zdI,zdL,zdI]:=⟨cg Tryz.z152⟩
instance:TyB prog 152 [(0,1),(1,1),(2,1),(3,1),(4,11),(15,6)]:=⟨_,underlying152,λw=>by kernel_rfl⟩
instance:TyF prog 152 0 0 3:=tyf 1 underlying152
instance:TyF prog 152 1 1 4:=tyf 1 underlying152
instance:TyF prog 152 2 2 4:=tyf 1 underlying152
instance:TyF prog 152 3 3 3:=tyf 1 underlying152
instance:TyF prog 152 4 4 147:=tyf 11 underlying152
instance:TyF prog 152 5 15 150:=tyf 6 underlying152
instance:fY prog 179:=qA
theorem Tryz.z179:(prog.info? 179).map (·.zero)=ς (ς zvN):=by kernel_rfl
instance:TyZ prog 179 [.nil]:=⟨cg Tryz.z179⟩
instance:TyE prog 179 [zdL]:=⟨cg Tryz.z179⟩
instance:dV prog 181 15:=fE
theorem Tryz.z181:(prog.info? 181).map (·.zero)=ς (ς (.agg #[zvI,zvI,zvI,zvI,zvI,zvI,zvI,zvI,zvI,zvB,zvI,zvI,zvN,zvN,zvN])):=by kernel_rfl
instance:TyZ prog 181 [zcI,zcI,zcI,zcI,zcI,zcI,zcI,zcI,zcI,zcB,zcI,zcI,.nil,.nil,.nil]:=⟨cg Tryz.z181⟩
instance:TyE prog 181 [zdI,zdI,zdI,zdI,zdI,zdI,zdI,zdI,zdI,zdB,zdI,zdI,zdL,zdL,zdL]:=⟨cg Tryz.z181⟩
instance:TyB prog 181 [(0,14),(14,1)]:=⟨_,underlying181,λw=>by kernel_rfl⟩
instance:TyF prog 181 0 0 129:=tyf 14 underlying181
instance:TyF prog 181 1 14 179:=tyf 1 underlying181
instance:fY prog 183:=qA
theorem Tryz.z183:(prog.info? 183).map (·.zero)=ς (ς zvN):=by kernel_rfl
instance:TyZ prog 183 [.nil]:=⟨cg Tryz.z183⟩
instance:TyE prog 183 [zdL]:=⟨cg Tryz.z183⟩
instance:dV prog 185 36:=fE
theorem Tryz.z185:(prog.info? 185).map (·.zero)=ς (ς (.agg #[zvI,zvI,zvI,zvI,zvI,zvI,zvI,zvN,zvI,zvI,zvI,zvI,zvI,zvI,zvI,zvI,zvI,zvI,zvI,zvI,zvI,zvI,zvI,zvN,zvI,zvN,zvI,zvI,zvI,zvI,zvI,zvI,zvI,zvN,zvN,zvN])):=by kernel_rfl
instance:TyZ prog 185 [zcI,zcI,zcI,zcI,zcI,zcI,zcI,.nil,zcI,zcI,zcI,zcI,zcI,zcI,zcI,zcI,zcI,zcI,zcI,zcI,zcI,zcI,zcI,.nil,zcI,.nil,zcI,zcI,zcI,zcI,zcI,zcI,zcI,.nil,.nil,.nil]:=⟨cg Tryz.z185⟩
instance:TyE prog 185 [zdI,zdI,zdI,zdI,zdI,zdI,zdI,zdL,zdI,zdI,zdI,zdI,zdI,zdI,zdI,zdI,zdI,zdI,zdI,zdI,zdI,zdI,zdI,zdL,zdI,zdL,zdI,zdI,zdI,zdI,zdI,zdI,zdI,zdL,zdL,zdL]:=⟨cg Tryz.z185⟩
instance:TyB prog 185 [(0,30),(30,4),(34,1),(35,1)]:=⟨_,underlying185,λw=>by kernel_rfl⟩
instance:TyF prog 185 0 0 140:=tyf 30 underlying185
instance:TyF prog 185 1 30 144:=tyf 4 underlying185
instance:TyF prog 185 2 34 179:=tyf 1 underlying185
instance:TyF prog 185 3 35 183:=tyf 1 underlying185
instance:dV prog 191 2:=fE
theorem Tryz.z191:(prog.info? 191).map (·.zero)=ς (ς (.agg #[zvI,zvN])):=by kernel_rfl
instance:TyZ prog 191 [zcI,.nil]:=⟨cg Tryz.z191⟩
instance:TyE prog 191 [zdI,zdL]:=⟨cg Tryz.z191⟩
instance:TyB prog 191 [(0,1),(1,1)]:=⟨_,underlying191,λw=>by kernel_rfl⟩
instance:TyF prog 191 0 0 3:=tyf 1 underlying191
instance:TyF prog 191 1 1 93:=tyf 1 underlying191
instance:dV prog 198 2:=fE
theorem Tryz.z198:(prog.info? 198).map (·.zero)=ς (ς (.agg #[zvI,zvN])):=by kernel_rfl
instance:TyZ prog 198 [zcI,.nil]:=⟨cg Tryz.z198⟩
instance:TyE prog 198 [zdI,zdL]:=⟨cg Tryz.z198⟩
instance:TyB prog 198 [(0,1),(1,1)]:=⟨_,underlying198,λw=>by kernel_rfl⟩
instance:TyF prog 198 0 0 3:=tyf 1 underlying198
instance:TyF prog 198 1 1 93:=tyf 1 underlying198
instance:dV prog 211 31:=fE
theorem Tryz.z211:(prog.info? 211).map (·.zero)=ς (ς (.agg #[zvI,zvI,zvI,zvI,zvI,zvI,zvI,zvN,zvI,zvI,zvI,zvI,zvI,zvI,zvI,zvI,zvI,zvI,zvI,zvI,zvI,zvI,zvI,zvN,zvI,zvN,zvI,zvI,zvI,zvI,zvN])):=by kernel_rfl
instance:TyZ prog 211 [zcI,zcI,zcI,zcI,zcI,zcI,zcI,.nil,zcI,zcI,zcI,zcI,zcI,zcI,zcI,zcI,zcI,zcI,zcI,zcI,zcI,zcI,zcI,.nil,zcI,.nil,zcI,zcI,zcI,zcI,.nil]:=⟨cg Tryz.z211⟩
instance:TyE prog 211 [zdI,zdI,zdI,zdI,zdI,zdI,zdI,zdL,zdI,zdI,zdI,zdI,zdI,zdI,zdI,zdI,zdI,zdI,zdI,zdI,zdI,zdI,zdI,zdL,zdI,zdL,zdI,zdI,zdI,zdI,zdL]:=⟨cg Tryz.z211⟩
instance:TyB prog 211 [(0,30),(30,1)]:=⟨_,underlying211,λw=>by kernel_rfl⟩
instance:TyF prog 211 0 0 140:=tyf 30 underlying211
instance:TyF prog 211 1 30 179:=tyf 1 underlying211
instance:dV prog 232 2:=fE
theorem Tryz.z232:(prog.info? 232).map (·.zero)=ς (ς (.agg #[zvI,zvI])):=by kernel_rfl
instance:TyZ prog 232 [zcI,zcI]:=⟨cg Tryz.z232⟩
instance:TyE prog 232 [zdI,zdI]:=⟨cg Tryz.z232⟩
instance:TyB prog 232 [(0,1),(1,1)]:=⟨_,underlying232,λw=>by kernel_rfl⟩
instance:TyF prog 232 0 0 3:=tyf 1 underlying232
instance:TyF prog 232 1 1 3:=tyf 1 underlying232
instance:dV prog 249 2:=fE
theorem Tryz.z249:(prog.info? 249).map (·.zero)=ς (ς (.agg #[zvI,zvN])):=by kernel_rfl
instance:TyZ prog 249 [zcI,.nil]:=⟨cg Tryz.z249⟩
instance:TyE prog 249 [zdI,zdL]:=⟨cg Tryz.z249⟩
instance:TyB prog 249 [(0,1),(1,1)]:=⟨_,underlying249,λw=>by kernel_rfl⟩
instance:TyF prog 249 0 0 3:=tyf 1 underlying249
instance:TyF prog 249 1 1 113:=tyf 1 underlying249
instance:dV prog 251 1:=fE
theorem Tryz.z251:(prog.info? 251).map (·.zero)=ς (ς (.agg #[zvN])):=by kernel_rfl
instance:TyZ prog 251 [.nil]:=⟨cg Tryz.z251⟩
instance:TyE prog 251 [zdL]:=⟨cg Tryz.z251⟩
instance:TyB prog 251 [(0,1)]:=⟨_,underlying251,λw=>by kernel_rfl⟩
instance:TyF prog 251 0 0 113:=tyf 1 underlying251
instance:dV prog 261 1:=fE
theorem Tryz.z261:(prog.info? 261).map (·.zero)=ς (ς (.agg #[zvN])):=by kernel_rfl
instance:TyZ prog 261 [.nil]:=⟨cg Tryz.z261⟩
instance:TyE prog 261 [zdL]:=⟨cg Tryz.z261⟩
instance:TyB prog 261 [(0,1)]:=⟨_,underlying261,λw=>by kernel_rfl⟩
instance:TyF prog 261 0 0 113:=tyf 1 underlying261
instance:dV prog 284 2:=fE
theorem Tryz.z284:(prog.info? 284).map (·.zero)=ς (ς (.agg #[zvI,zvI])):=by kernel_rfl
instance:TyZ prog 284 [zcI,zcI]:=⟨cg Tryz.z284⟩
instance:TyE prog 284 [zdI,zdI]:=⟨cg Tryz.z284⟩
instance:TyB prog 284 [(0,1),(1,1)]:=⟨_,underlying284,λw=>by kernel_rfl⟩
instance:TyF prog 284 0 0 3:=tyf 1 underlying284
instance:TyF prog 284 1 1 3:=tyf 1 underlying284
instance:dV prog 312 2:=fE
theorem Tryz.z312:(prog.info? 312).map (·.zero)=ς (ς (.agg #[zvI,zvN])):=by kernel_rfl
instance:TyZ prog 312 [zcI,.nil]:=⟨cg Tryz.z312⟩
instance:TyE prog 312 [zdI,zdL]:=⟨cg Tryz.z312⟩
instance:TyB prog 312 [(0,1),(1,1)]:=⟨_,underlying312,λw=>by kernel_rfl⟩
instance:TyF prog 312 0 0 3:=tyf 1 underlying312
instance:TyF prog 312 1 1 113:=tyf 1 underlying312
instance:dV prog 329 4:=fE
theorem Tryz.z329:(prog.info? 329).map (·.zero)=ς (ς (.agg #[zvI,zvI,zvI,zvI])):=by kernel_rfl
instance:TyZ prog 329 [zcI,zcI,zcI,zcI]:=⟨cg Tryz.z329⟩
instance:TyE prog 329 [zdI,zdI,zdI,zdI]:=⟨cg Tryz.z329⟩
instance:TyB prog 329 [(0,1),(1,1),(2,1),(3,1)]:=⟨_,underlying329,λw=>by kernel_rfl⟩
instance:TyF prog 329 0 0 3:=tyf 1 underlying329
instance:TyF prog 329 1 1 3:=tyf 1 underlying329
instance:TyF prog 329 2 2 3:=tyf 1 underlying329
instance:TyF prog 329 3 3 3:=tyf 1 underlying329
instance:dV prog 349 1:=fE
theorem Tryz.z349:(prog.info? 349).map (·.zero)=ς (ς (.agg #[zvN])):=by kernel_rfl
instance:TyZ prog 349 [.nil]:=⟨cg Tryz.z349⟩
instance:TyE prog 349 [zdL]:=⟨cg Tryz.z349⟩
instance:TyB prog 349 [(0,1)]:=⟨_,underlying349,λw=>by kernel_rfl⟩
instance:TyF prog 349 0 0 93:=tyf 1 underlying349
theorem Tryz.sh3:dY prog 3 [.i .i64]:=.int underlying3
theorem Tryz.sh4:dY prog 4 [.b]:=.bool underlying4
theorem Tryz.sh5:dY prog 5 [.i .u8]:=.int underlying5
theorem Tryz.sh93:dY prog 93 [.l [.i .i64]]:=.slice underlying93 Tryz.sh3 (by kernel_rfl) (by decide)
theorem Tryz.sh191:dY prog 191 [.i .i64,.l [.i .i64]]:=.struct (ss:=[.i .i64,.l [.i .i64]]) underlying191 (HasFs.cons (s1:=[.i .i64]) (s2:=[.l [.i .i64]]) rfl Tryz.sh3 (by kernel_rfl) (HasFs.cons (s1:=[.l [.i .i64]]) (s2:=[]) rfl Tryz.sh93 (by kernel_rfl) (HasFs.nil))) (by kernel_rfl)
theorem Tryz.sh22:dY prog 22 [.l [.i .i64,.l [.i .i64]]]:=.slice underlying22 Tryz.sh191 (by kernel_rfl) (by decide)
theorem Tryz.sh24:dY prog 24 [.l [.i .i64,.l [.i .i64]]]:=.struct (ss:=[.l [.i .i64,.l [.i .i64]]]) underlying24 (HasFs.cons (s1:=[.l [.i .i64,.l [.i .i64]]]) (s2:=[]) rfl Tryz.sh22 (by kernel_rfl) (HasFs.nil)) (by kernel_rfl)
theorem Tryz.sh81:dY prog 81 [.i .i64,.i .i64]:=.struct (ss:=[.i .i64,.i .i64]) underlying81 (HasFs.cons (s1:=[.i .i64]) (s2:=[.i .i64]) rfl Tryz.sh3 (by kernel_rfl) (HasFs.cons (s1:=[.i .i64]) (s2:=[]) rfl Tryz.sh3 (by kernel_rfl) (HasFs.nil))) (by kernel_rfl)
theorem Tryz.sh83:dY prog 83 [.i .i64,.i .i64,.i .i64,.i .i64]:=.struct (ss:=[.i .i64,.i .i64,.i .i64,.i .i64]) underlying83 (HasFs.cons (s1:=[.i .i64,.i .i64]) (s2:=[.i .i64,.i .i64]) rfl Tryz.sh81 (by kernel_rfl) (HasFs.cons (s1:=[.i .i64]) (s2:=[.i .i64]) rfl Tryz.sh3 (by kernel_rfl) (HasFs.cons (s1:=[.i .i64]) (s2:=[]) rfl Tryz.sh3 (by kernel_rfl) (HasFs.nil)))) (by kernel_rfl)
theorem Tryz.sh113:dY prog 113 [.l [.i .u8]]:=.slice underlying113 Tryz.sh5 (by kernel_rfl) (by decide)
theorem Tryz.sh312:dY prog 312 [.i .i64,.l [.i .u8]]:=.struct (ss:=[.i .i64,.l [.i .u8]]) underlying312 (HasFs.cons (s1:=[.i .i64]) (s2:=[.l [.i .u8]]) rfl Tryz.sh3 (by kernel_rfl) (HasFs.cons (s1:=[.l [.i .u8]]) (s2:=[]) rfl Tryz.sh113 (by kernel_rfl) (HasFs.nil))) (by kernel_rfl)
theorem Tryz.sh84:dY prog 84 [.l [.i .i64,.l [.i .u8]]]:=.slice underlying84 Tryz.sh312 (by kernel_rfl) (by decide)
theorem Tryz.sh261:dY prog 261 [.l [.i .u8]]:=.struct (ss:=[.l [.i .u8]]) underlying261 (HasFs.cons (s1:=[.l [.i .u8]]) (s2:=[]) rfl Tryz.sh113 (by kernel_rfl) (HasFs.nil)) (by kernel_rfl)
theorem Tryz.sh85:dY prog 85 [.l [.l [.i .u8]]]:=.slice underlying85 Tryz.sh261 (by kernel_rfl) (by decide)
theorem Tryz.sh87:dY prog 87 [.i .i64,.l [.i .i64,.l [.i .u8]],.l [.l [.i .u8]]]:=.struct (ss:=[.i .i64,.l [.i .i64,.l [.i .u8]],.l [.l [.i .u8]]]) underlying87 (HasFs.cons (s1:=[.i .i64]) (s2:=[.l [.i .i64,.l [.i .u8]],.l [.l [.i .u8]]]) rfl Tryz.sh3 (by kernel_rfl) (HasFs.cons (s1:=[.l [.i .i64,.l [.i .u8]]]) (s2:=[.l [.l [.i .u8]]]) rfl Tryz.sh84 (by kernel_rfl) (HasFs.cons (s1:=[.l [.l [.i .u8]]]) (s2:=[]) rfl Tryz.sh85 (by kernel_rfl) (HasFs.nil)))) (by kernel_rfl)
theorem Tryz.sh89:dY prog 89 [.i .i64,.i .i64,.i .i64,.i .i64,.i .i64,.i .i64,.i .i64,.i .i64,.i .i64,.b,.i .i64,.i .i64,.l [.i .i64,.l [.i .u8]],.l [.l [.i .u8]]]:=.struct (ss:=[.i .i64,.i .i64,.i .i64,.i .i64,.i .i64,.i .i64,.i .i64,.i .i64,.i .i64,.b,.i .i64,.i .i64,.l [.i .i64,.l [.i .u8]],.l [.l [.i .u8]]]) underlying89 (HasFs.cons (s1:=[.i .i64,.i .i64,.i .i64,.i .i64]) (s2:=[.i .i64,.i .i64,.i .i64,.i .i64,.i .i64,.b,.i .i64,.i .i64,.l [.i .i64,.l [.i .u8]],.l [.l [.i .u8]]]) rfl Tryz.sh83 (by kernel_rfl) (HasFs.cons (s1:=[.i .i64]) (s2:=[.i .i64,.i .i64,.i .i64,.i .i64,.b,.i .i64,.i .i64,.l [.i .i64,.l [.i .u8]],.l [.l [.i .u8]]]) rfl Tryz.sh3 (by kernel_rfl) (HasFs.cons (s1:=[.i .i64]) (s2:=[.i .i64,.i .i64,.i .i64,.b,.i .i64,.i .i64,.l [.i .i64,.l [.i .u8]],.l [.l [.i .u8]]]) rfl Tryz.sh3 (by kernel_rfl) (HasFs.cons (s1:=[.i .i64]) (s2:=[.i .i64,.i .i64,.b,.i .i64,.i .i64,.l [.i .i64,.l [.i .u8]],.l [.l [.i .u8]]]) rfl Tryz.sh3 (by kernel_rfl) (HasFs.cons (s1:=[.i .i64]) (s2:=[.i .i64,.b,.i .i64,.i .i64,.l [.i .i64,.l [.i .u8]],.l [.l [.i .u8]]]) rfl Tryz.sh3 (by kernel_rfl) (HasFs.cons (s1:=[.i .i64]) (s2:=[.b,.i .i64,.i .i64,.l [.i .i64,.l [.i .u8]],.l [.l [.i .u8]]]) rfl Tryz.sh3 (by kernel_rfl) (HasFs.cons (s1:=[.b]) (s2:=[.i .i64,.i .i64,.l [.i .i64,.l [.i .u8]],.l [.l [.i .u8]]]) rfl Tryz.sh4 (by kernel_rfl) (HasFs.cons (s1:=[.i .i64]) (s2:=[.i .i64,.l [.i .i64,.l [.i .u8]],.l [.l [.i .u8]]]) rfl Tryz.sh3 (by kernel_rfl) (HasFs.cons (s1:=[.i .i64,.l [.i .i64,.l [.i .u8]],.l [.l [.i .u8]]]) (s2:=[]) rfl Tryz.sh87 (by kernel_rfl) (HasFs.nil)))))))))) (by kernel_rfl)
theorem Tryz.sh25:dY prog 25 [.l [.i .i64,.i .i64,.i .i64,.i .i64,.i .i64,.i .i64,.i .i64,.i .i64,.i .i64,.b,.i .i64,.i .i64,.l [.i .i64,.l [.i .u8]],.l [.l [.i .u8]]]]:=.slice underlying25 Tryz.sh89 (by kernel_rfl) (by decide)
theorem Tryz.sh92:dY prog 92 [.i .i64,.i .i64,.i .i64,.i .i64]:=.struct (ss:=[.i .i64,.i .i64,.i .i64,.i .i64]) underlying92 (HasFs.cons (s1:=[.i .i64,.i .i64]) (s2:=[.i .i64,.i .i64]) rfl Tryz.sh81 (by kernel_rfl) (HasFs.cons (s1:=[.i .i64]) (s2:=[.i .i64]) rfl Tryz.sh3 (by kernel_rfl) (HasFs.cons (s1:=[.i .i64]) (s2:=[]) rfl Tryz.sh3 (by kernel_rfl) (HasFs.nil)))) (by kernel_rfl)
theorem Tryz.sh95:dY prog 95 [.i .i64,.i .i64,.i .i64,.l [.i .i64]]:=.struct (ss:=[.i .i64,.i .i64,.i .i64,.l [.i .i64]]) underlying95 (HasFs.cons (s1:=[.i .i64]) (s2:=[.i .i64,.i .i64,.l [.i .i64]]) rfl Tryz.sh3 (by kernel_rfl) (HasFs.cons (s1:=[.i .i64]) (s2:=[.i .i64,.l [.i .i64]]) rfl Tryz.sh3 (by kernel_rfl) (HasFs.cons (s1:=[.i .i64]) (s2:=[.l [.i .i64]]) rfl Tryz.sh3 (by kernel_rfl) (HasFs.cons (s1:=[.l [.i .i64]]) (s2:=[]) rfl Tryz.sh93 (by kernel_rfl) (HasFs.nil))))) (by kernel_rfl)
theorem Tryz.sh97:dY prog 97 [.i .i64,.i .i64,.i .i64,.i .i64,.i .i64]:=.struct (ss:=[.i .i64,.i .i64,.i .i64,.i .i64,.i .i64]) underlying97 (HasFs.cons (s1:=[.i .i64]) (s2:=[.i .i64,.i .i64,.i .i64,.i .i64]) rfl Tryz.sh3 (by kernel_rfl) (HasFs.cons (s1:=[.i .i64]) (s2:=[.i .i64,.i .i64,.i .i64]) rfl Tryz.sh3 (by kernel_rfl) (HasFs.cons (s1:=[.i .i64]) (s2:=[.i .i64,.i .i64]) rfl Tryz.sh3 (by kernel_rfl) (HasFs.cons (s1:=[.i .i64]) (s2:=[.i .i64]) rfl Tryz.sh3 (by kernel_rfl) (HasFs.cons (s1:=[.i .i64]) (s2:=[]) rfl Tryz.sh3 (by kernel_rfl) (HasFs.nil)))))) (by kernel_rfl)
theorem Tryz.sh99:dY prog 99 [.i .i64,.i .i64,.i .i64]:=.struct (ss:=[.i .i64,.i .i64,.i .i64]) underlying99 (HasFs.cons (s1:=[.i .i64]) (s2:=[.i .i64,.i .i64]) rfl Tryz.sh3 (by kernel_rfl) (HasFs.cons (s1:=[.i .i64]) (s2:=[.i .i64]) rfl Tryz.sh3 (by kernel_rfl) (HasFs.cons (s1:=[.i .i64]) (s2:=[]) rfl Tryz.sh3 (by kernel_rfl) (HasFs.nil)))) (by kernel_rfl)
theorem Tryz.sh101:dY prog 101 [.i .i64,.l [.i .i64,.l [.i .u8]]]:=.struct (ss:=[.i .i64,.l [.i .i64,.l [.i .u8]]]) underlying101 (HasFs.cons (s1:=[.i .i64]) (s2:=[.l [.i .i64,.l [.i .u8]]]) rfl Tryz.sh3 (by kernel_rfl) (HasFs.cons (s1:=[.l [.i .i64,.l [.i .u8]]]) (s2:=[]) rfl Tryz.sh84 (by kernel_rfl) (HasFs.nil))) (by kernel_rfl)
theorem Tryz.sh103:dY prog 103 [.i .i64,.i .i64,.i .i64]:=.struct (ss:=[.i .i64,.i .i64,.i .i64]) underlying103 (HasFs.cons (s1:=[.i .i64]) (s2:=[.i .i64,.i .i64]) rfl Tryz.sh3 (by kernel_rfl) (HasFs.cons (s1:=[.i .i64]) (s2:=[.i .i64]) rfl Tryz.sh3 (by kernel_rfl) (HasFs.cons (s1:=[.i .i64]) (s2:=[]) rfl Tryz.sh3 (by kernel_rfl) (HasFs.nil)))) (by kernel_rfl)
theorem Tryz.sh105:dY prog 105 [.i .i64,.i .i64,.i .i64,.i .i64,.i .i64,.i .i64,.i .i64,.l [.i .i64],.i .i64,.i .i64,.i .i64,.i .i64,.i .i64,.i .i64,.i .i64,.i .i64,.i .i64,.i .i64,.i .i64,.i .i64,.i .i64,.i .i64,.i .i64,.l [.l [.i .u8]],.i .i64,.l [.i .i64,.l [.i .u8]],.i .i64,.i .i64,.i .i64,.i .i64]:=.struct (ss:=[.i .i64,.i .i64,.i .i64,.i .i64,.i .i64,.i .i64,.i .i64,.l [.i .i64],.i .i64,.i .i64,.i .i64,.i .i64,.i .i64,.i .i64,.i .i64,.i .i64,.i .i64,.i .i64,.i .i64,.i .i64,.i .i64,.i .i64,.i .i64,.l [.l [.i .u8]],.i .i64,.l [.i .i64,.l [.i .u8]],.i .i64,.i .i64,.i .i64,.i .i64]) underlying105 (HasFs.cons (s1:=[.i .i64,.i .i64,.i .i64,.i .i64]) (s2:=[.i .i64,.i .i64,.i .i64,.l [.i .i64],.i .i64,.i .i64,.i .i64,.i .i64,.i .i64,.i .i64,.i .i64,.i .i64,.i .i64,.i .i64,.i .i64,.i .i64,.i .i64,.i .i64,.i .i64,.l [.l [.i .u8]],.i .i64,.l [.i .i64,.l [.i .u8]],.i .i64,.i .i64,.i .i64,.i .i64]) rfl Tryz.sh92 (by kernel_rfl) (HasFs.cons (s1:=[.i .i64,.i .i64,.i .i64,.l [.i .i64]]) (s2:=[.i .i64,.i .i64,.i .i64,.i .i64,.i .i64,.i .i64,.i .i64,.i .i64,.i .i64,.i .i64,.i .i64,.i .i64,.i .i64,.i .i64,.i .i64,.l [.l [.i .u8]],.i .i64,.l [.i .i64,.l [.i .u8]],.i .i64,.i .i64,.i .i64,.i .i64]) rfl Tryz.sh95 (by kernel_rfl) (HasFs.cons (s1:=[.i .i64]) (s2:=[.i .i64,.i .i64,.i .i64,.i .i64,.i .i64,.i .i64,.i .i64,.i .i64,.i .i64,.i .i64,.i .i64,.i .i64,.i .i64,.i .i64,.l [.l [.i .u8]],.i .i64,.l [.i .i64,.l [.i .u8]],.i .i64,.i .i64,.i .i64,.i .i64]) rfl Tryz.sh3 (by kernel_rfl) (HasFs.cons (s1:=[.i .i64,.i .i64,.i .i64,.i .i64,.i .i64]) (s2:=[.i .i64,.i .i64,.i .i64,.i .i64,.i .i64,.i .i64,.i .i64,.i .i64,.i .i64,.l [.l [.i .u8]],.i .i64,.l [.i .i64,.l [.i .u8]],.i .i64,.i .i64,.i .i64,.i .i64]) rfl Tryz.sh97 (by kernel_rfl) (HasFs.cons (s1:=[.i .i64]) (s2:=[.i .i64,.i .i64,.i .i64,.i .i64,.i .i64,.i .i64,.i .i64,.i .i64,.l [.l [.i .u8]],.i .i64,.l [.i .i64,.l [.i .u8]],.i .i64,.i .i64,.i .i64,.i .i64]) rfl Tryz.sh3 (by kernel_rfl) (HasFs.cons (s1:=[.i .i64]) (s2:=[.i .i64,.i .i64,.i .i64,.i .i64,.i .i64,.i .i64,.i .i64,.l [.l [.i .u8]],.i .i64,.l [.i .i64,.l [.i .u8]],.i .i64,.i .i64,.i .i64,.i .i64]) rfl Tryz.sh3 (by kernel_rfl) (HasFs.cons (s1:=[.i .i64]) (s2:=[.i .i64,.i .i64,.i .i64,.i .i64,.i .i64,.i .i64,.l [.l [.i .u8]],.i .i64,.l [.i .i64,.l [.i .u8]],.i .i64,.i .i64,.i .i64,.i .i64]) rfl Tryz.sh3 (by kernel_rfl) (HasFs.cons (s1:=[.i .i64]) (s2:=[.i .i64,.i .i64,.i .i64,.i .i64,.i .i64,.l [.l [.i .u8]],.i .i64,.l [.i .i64,.l [.i .u8]],.i .i64,.i .i64,.i .i64,.i .i64]) rfl Tryz.sh3 (by kernel_rfl) (HasFs.cons (s1:=[.i .i64]) (s2:=[.i .i64,.i .i64,.i .i64,.i .i64,.l [.l [.i .u8]],.i .i64,.l [.i .i64,.l [.i .u8]],.i .i64,.i .i64,.i .i64,.i .i64]) rfl Tryz.sh3 (by kernel_rfl) (HasFs.cons (s1:=[.i .i64]) (s2:=[.i .i64,.i .i64,.i .i64,.l [.l [.i .u8]],.i .i64,.l [.i .i64,.l [.i .u8]],.i .i64,.i .i64,.i .i64,.i .i64]) rfl Tryz.sh3 (by kernel_rfl) (HasFs.cons (s1:=[.i .i64,.i .i64,.i .i64]) (s2:=[.l [.l [.i .u8]],.i .i64,.l [.i .i64,.l [.i .u8]],.i .i64,.i .i64,.i .i64,.i .i64]) rfl Tryz.sh99 (by kernel_rfl) (HasFs.cons (s1:=[.l [.l [.i .u8]]]) (s2:=[.i .i64,.l [.i .i64,.l [.i .u8]],.i .i64,.i .i64,.i .i64,.i .i64]) rfl Tryz.sh85 (by kernel_rfl) (HasFs.cons (s1:=[.i .i64,.l [.i .i64,.l [.i .u8]]]) (s2:=[.i .i64,.i .i64,.i .i64,.i .i64]) rfl Tryz.sh101 (by kernel_rfl) (HasFs.cons (s1:=[.i .i64]) (s2:=[.i .i64,.i .i64,.i .i64]) rfl Tryz.sh3 (by kernel_rfl) (HasFs.cons (s1:=[.i .i64,.i .i64,.i .i64]) (s2:=[]) rfl Tryz.sh103 (by kernel_rfl) (HasFs.nil)))))))))))))))) (by kernel_rfl)
theorem Tryz.sh26:dY prog 26 [.l [.i .i64,.i .i64,.i .i64,.i .i64,.i .i64,.i .i64,.i .i64,.l [.i .i64],.i .i64,.i .i64,.i .i64,.i .i64,.i .i64,.i .i64,.i .i64,.i .i64,.i .i64,.i .i64,.i .i64,.i .i64,.i .i64,.i .i64,.i .i64,.l [.l [.i .u8]],.i .i64,.l [.i .i64,.l [.i .u8]],.i .i64,.i .i64,.i .i64,.i .i64]]:=.slice underlying26 Tryz.sh105 (by kernel_rfl) (by decide)
theorem Tryz.sh284:dY prog 284 [.i .i64,.i .i64]:=.struct (ss:=[.i .i64,.i .i64]) underlying284 (HasFs.cons (s1:=[.i .i64]) (s2:=[.i .i64]) rfl Tryz.sh3 (by kernel_rfl) (HasFs.cons (s1:=[.i .i64]) (s2:=[]) rfl Tryz.sh3 (by kernel_rfl) (HasFs.nil))) (by kernel_rfl)
theorem Tryz.sh107:dY prog 107 [.l [.i .i64,.i .i64]]:=.slice underlying107 Tryz.sh284 (by kernel_rfl) (by decide)
theorem Tryz.sh109:dY prog 109 [.i .i64,.i .i64,.i .i64,.l [.i .i64,.i .i64]]:=.struct (ss:=[.i .i64,.i .i64,.i .i64,.l [.i .i64,.i .i64]]) underlying109 (HasFs.cons (s1:=[.i .i64]) (s2:=[.i .i64,.i .i64,.l [.i .i64,.i .i64]]) rfl Tryz.sh3 (by kernel_rfl) (HasFs.cons (s1:=[.i .i64]) (s2:=[.i .i64,.l [.i .i64,.i .i64]]) rfl Tryz.sh3 (by kernel_rfl) (HasFs.cons (s1:=[.i .i64]) (s2:=[.l [.i .i64,.i .i64]]) rfl Tryz.sh3 (by kernel_rfl) (HasFs.cons (s1:=[.l [.i .i64,.i .i64]]) (s2:=[]) rfl Tryz.sh107 (by kernel_rfl) (HasFs.nil))))) (by kernel_rfl)
theorem Tryz.sh27:dY prog 27 [.l [.i .i64,.i .i64,.i .i64,.l [.i .i64,.i .i64]]]:=.slice underlying27 Tryz.sh109 (by kernel_rfl) (by decide)
theorem Tryz.sh112:dY prog 112 [.i .i64,.i .i64,.i .i64,.i .i64,.i .i64,.i .i64,.i .i64,.i .i64,.i .i64,.i .i64,.i .i64]:=.struct (ss:=[.i .i64,.i .i64,.i .i64,.i .i64,.i .i64,.i .i64,.i .i64,.i .i64,.i .i64,.i .i64,.i .i64]) underlying112 (HasFs.cons (s1:=[.i .i64]) (s2:=[.i .i64,.i .i64,.i .i64,.i .i64,.i .i64,.i .i64,.i .i64,.i .i64,.i .i64,.i .i64]) rfl Tryz.sh3 (by kernel_rfl) (HasFs.cons (s1:=[.i .i64]) (s2:=[.i .i64,.i .i64,.i .i64,.i .i64,.i .i64,.i .i64,.i .i64,.i .i64,.i .i64]) rfl Tryz.sh3 (by kernel_rfl) (HasFs.cons (s1:=[.i .i64]) (s2:=[.i .i64,.i .i64,.i .i64,.i .i64,.i .i64,.i .i64,.i .i64,.i .i64]) rfl Tryz.sh3 (by kernel_rfl) (HasFs.cons (s1:=[.i .i64]) (s2:=[.i .i64,.i .i64,.i .i64,.i .i64,.i .i64,.i .i64,.i .i64]) rfl Tryz.sh3 (by kernel_rfl) (HasFs.cons (s1:=[.i .i64]) (s2:=[.i .i64,.i .i64,.i .i64,.i .i64,.i .i64,.i .i64]) rfl Tryz.sh3 (by kernel_rfl) (HasFs.cons (s1:=[.i .i64,.i .i64,.i .i64,.i .i64,.i .i64]) (s2:=[.i .i64]) rfl Tryz.sh97 (by kernel_rfl) (HasFs.cons (s1:=[.i .i64]) (s2:=[]) rfl Tryz.sh3 (by kernel_rfl) (HasFs.nil)))))))) (by kernel_rfl)
theorem Tryz.sh115:dY prog 115 [.i .i64,.i .i64,.l [.i .u8],.i .i64]:=.struct (ss:=[.i .i64,.i .i64,.l [.i .u8],.i .i64]) underlying115 (HasFs.cons (s1:=[.i .i64]) (s2:=[.i .i64,.l [.i .u8],.i .i64]) rfl Tryz.sh3 (by kernel_rfl) (HasFs.cons (s1:=[.i .i64]) (s2:=[.l [.i .u8],.i .i64]) rfl Tryz.sh3 (by kernel_rfl) (HasFs.cons (s1:=[.l [.i .u8]]) (s2:=[.i .i64]) rfl Tryz.sh113 (by kernel_rfl) (HasFs.cons (s1:=[.i .i64]) (s2:=[]) rfl Tryz.sh3 (by kernel_rfl) (HasFs.nil))))) (by kernel_rfl)
theorem Tryz.sh117:dY prog 117 [.i .i64,.i .i64,.i .i64,.i .i64,.l [.i .u8],.i .i64]:=.struct (ss:=[.i .i64,.i .i64,.i .i64,.i .i64,.l [.i .u8],.i .i64]) underlying117 (HasFs.cons (s1:=[.i .i64]) (s2:=[.i .i64,.i .i64,.i .i64,.l [.i .u8],.i .i64]) rfl Tryz.sh3 (by kernel_rfl) (HasFs.cons (s1:=[.i .i64]) (s2:=[.i .i64,.i .i64,.l [.i .u8],.i .i64]) rfl Tryz.sh3 (by kernel_rfl) (HasFs.cons (s1:=[.i .i64,.i .i64,.l [.i .u8],.i .i64]) (s2:=[]) rfl Tryz.sh115 (by kernel_rfl) (HasFs.nil)))) (by kernel_rfl)
theorem Tryz.sh119:dY prog 119 [.i .i64,.b,.b,.i .i64,.i .i64,.i .i64,.i .i64,.i .i64,.i .i64,.i .i64,.i .i64,.i .i64,.i .i64,.i .i64,.i .i64,.i .i64,.i .i64,.i .i64,.i .i64,.l [.i .u8],.i .i64]:=.struct (ss:=[.i .i64,.b,.b,.i .i64,.i .i64,.i .i64,.i .i64,.i .i64,.i .i64,.i .i64,.i .i64,.i .i64,.i .i64,.i .i64,.i .i64,.i .i64,.i .i64,.i .i64,.i .i64,.l [.i .u8],.i .i64]) underlying119 (HasFs.cons (s1:=[.i .i64]) (s2:=[.b,.b,.i .i64,.i .i64,.i .i64,.i .i64,.i .i64,.i .i64,.i .i64,.i .i64,.i .i64,.i .i64,.i .i64,.i .i64,.i .i64,.i .i64,.i .i64,.i .i64,.l [.i .u8],.i .i64]) rfl Tryz.sh3 (by kernel_rfl) (HasFs.cons (s1:=[.b]) (s2:=[.b,.i .i64,.i .i64,.i .i64,.i .i64,.i .i64,.i .i64,.i .i64,.i .i64,.i .i64,.i .i64,.i .i64,.i .i64,.i .i64,.i .i64,.i .i64,.i .i64,.l [.i .u8],.i .i64]) rfl Tryz.sh4 (by kernel_rfl) (HasFs.cons (s1:=[.b]) (s2:=[.i .i64,.i .i64,.i .i64,.i .i64,.i .i64,.i .i64,.i .i64,.i .i64,.i .i64,.i .i64,.i .i64,.i .i64,.i .i64,.i .i64,.i .i64,.i .i64,.l [.i .u8],.i .i64]) rfl Tryz.sh4 (by kernel_rfl) (HasFs.cons (s1:=[.i .i64]) (s2:=[.i .i64,.i .i64,.i .i64,.i .i64,.i .i64,.i .i64,.i .i64,.i .i64,.i .i64,.i .i64,.i .i64,.i .i64,.i .i64,.i .i64,.i .i64,.l [.i .u8],.i .i64]) rfl Tryz.sh3 (by kernel_rfl) (HasFs.cons (s1:=[.i .i64,.i .i64,.i .i64,.i .i64,.i .i64,.i .i64,.i .i64,.i .i64,.i .i64,.i .i64,.i .i64]) (s2:=[.i .i64,.i .i64,.i .i64,.i .i64,.l [.i .u8],.i .i64]) rfl Tryz.sh112 (by kernel_rfl) (HasFs.cons (s1:=[.i .i64,.i .i64,.i .i64,.i .i64,.l [.i .u8],.i .i64]) (s2:=[]) rfl Tryz.sh117 (by kernel_rfl) (HasFs.nil))))))) (by kernel_rfl)
theorem Tryz.sh28:dY prog 28 [.l [.i .i64,.b,.b,.i .i64,.i .i64,.i .i64,.i .i64,.i .i64,.i .i64,.i .i64,.i .i64,.i .i64,.i .i64,.i .i64,.i .i64,.i .i64,.i .i64,.i .i64,.i .i64,.l [.i .u8],.i .i64]]:=.slice underlying28 Tryz.sh119 (by kernel_rfl) (by decide)
theorem Tryz.sh30:dY prog 30 [.i .i64,.i .i64]:=.struct (ss:=[.i .i64,.i .i64]) underlying30 (HasFs.cons (s1:=[.i .i64]) (s2:=[.i .i64]) rfl Tryz.sh3 (by kernel_rfl) (HasFs.cons (s1:=[.i .i64]) (s2:=[]) rfl Tryz.sh3 (by kernel_rfl) (HasFs.nil))) (by kernel_rfl)
theorem Tryz.sh32:dY prog 32 [.l [.i .i64,.l [.i .i64]],.l [.i .i64,.i .i64,.i .i64,.i .i64,.i .i64,.i .i64,.i .i64,.i .i64,.i .i64,.b,.i .i64,.i .i64,.l [.i .i64,.l [.i .u8]],.l [.l [.i .u8]]],.l [.i .i64,.i .i64,.i .i64,.i .i64,.i .i64,.i .i64,.i .i64,.l [.i .i64],.i .i64,.i .i64,.i .i64,.i .i64,.i .i64,.i .i64,.i .i64,.i .i64,.i .i64,.i .i64,.i .i64,.i .i64,.i .i64,.i .i64,.i .i64,.l [.l [.i .u8]],.i .i64,.l [.i .i64,.l [.i .u8]],.i .i64,.i .i64,.i .i64,.i .i64],.l [.i .i64,.i .i64,.i .i64,.l [.i .i64,.i .i64]],.l [.i .i64,.b,.b,.i .i64,.i .i64,.i .i64,.i .i64,.i .i64,.i .i64,.i .i64,.i .i64,.i .i64,.i .i64,.i .i64,.i .i64,.i .i64,.i .i64,.i .i64,.i .i64,.l [.i .u8],.i .i64],.i .i64,.i .i64,.i .i64,.i .i64,.i .i64]:=.struct (ss:=[.l [.i .i64,.l [.i .i64]],.l [.i .i64,.i .i64,.i .i64,.i .i64,.i .i64,.i .i64,.i .i64,.i .i64,.i .i64,.b,.i .i64,.i .i64,.l [.i .i64,.l [.i .u8]],.l [.l [.i .u8]]],.l [.i .i64,.i .i64,.i .i64,.i .i64,.i .i64,.i .i64,.i .i64,.l [.i .i64],.i .i64,.i .i64,.i .i64,.i .i64,.i .i64,.i .i64,.i .i64,.i .i64,.i .i64,.i .i64,.i .i64,.i .i64,.i .i64,.i .i64,.i .i64,.l [.l [.i .u8]],.i .i64,.l [.i .i64,.l [.i .u8]],.i .i64,.i .i64,.i .i64,.i .i64],.l [.i .i64,.i .i64,.i .i64,.l [.i .i64,.i .i64]],.l [.i .i64,.b,.b,.i .i64,.i .i64,.i .i64,.i .i64,.i .i64,.i .i64,.i .i64,.i .i64,.i .i64,.i .i64,.i .i64,.i .i64,.i .i64,.i .i64,.i .i64,.i .i64,.l [.i .u8],.i .i64],.i .i64,.i .i64,.i .i64,.i .i64,.i .i64]) underlying32 (HasFs.cons (s1:=[.l [.i .i64,.l [.i .i64]]]) (s2:=[.l [.i .i64,.i .i64,.i .i64,.i .i64,.i .i64,.i .i64,.i .i64,.i .i64,.i .i64,.b,.i .i64,.i .i64,.l [.i .i64,.l [.i .u8]],.l [.l [.i .u8]]],.l [.i .i64,.i .i64,.i .i64,.i .i64,.i .i64,.i .i64,.i .i64,.l [.i .i64],.i .i64,.i .i64,.i .i64,.i .i64,.i .i64,.i .i64,.i .i64,.i .i64,.i .i64,.i .i64,.i .i64,.i .i64,.i .i64,.i .i64,.i .i64,.l [.l [.i .u8]],.i .i64,.l [.i .i64,.l [.i .u8]],.i .i64,.i .i64,.i .i64,.i .i64],.l [.i .i64,.i .i64,.i .i64,.l [.i .i64,.i .i64]],.l [.i .i64,.b,.b,.i .i64,.i .i64,.i .i64,.i .i64,.i .i64,.i .i64,.i .i64,.i .i64,.i .i64,.i .i64,.i .i64,.i .i64,.i .i64,.i .i64,.i .i64,.i .i64,.l [.i .u8],.i .i64],.i .i64,.i .i64,.i .i64,.i .i64,.i .i64]) rfl Tryz.sh24 (by kernel_rfl) (HasFs.cons (s1:=[.l [.i .i64,.i .i64,.i .i64,.i .i64,.i .i64,.i .i64,.i .i64,.i .i64,.i .i64,.b,.i .i64,.i .i64,.l [.i .i64,.l [.i .u8]],.l [.l [.i .u8]]]]) (s2:=[.l [.i .i64,.i .i64,.i .i64,.i .i64,.i .i64,.i .i64,.i .i64,.l [.i .i64],.i .i64,.i .i64,.i .i64,.i .i64,.i .i64,.i .i64,.i .i64,.i .i64,.i .i64,.i .i64,.i .i64,.i .i64,.i .i64,.i .i64,.i .i64,.l [.l [.i .u8]],.i .i64,.l [.i .i64,.l [.i .u8]],.i .i64,.i .i64,.i .i64,.i .i64],.l [.i .i64,.i .i64,.i .i64,.l [.i .i64,.i .i64]],.l [.i .i64,.b,.b,.i .i64,.i .i64,.i .i64,.i .i64,.i .i64,.i .i64,.i .i64,.i .i64,.i .i64,.i .i64,.i .i64,.i .i64,.i .i64,.i .i64,.i .i64,.i .i64,.l [.i .u8],.i .i64],.i .i64,.i .i64,.i .i64,.i .i64,.i .i64]) rfl Tryz.sh25 (by kernel_rfl) (HasFs.cons (s1:=[.l [.i .i64,.i .i64,.i .i64,.i .i64,.i .i64,.i .i64,.i .i64,.l [.i .i64],.i .i64,.i .i64,.i .i64,.i .i64,.i .i64,.i .i64,.i .i64,.i .i64,.i .i64,.i .i64,.i .i64,.i .i64,.i .i64,.i .i64,.i .i64,.l [.l [.i .u8]],.i .i64,.l [.i .i64,.l [.i .u8]],.i .i64,.i .i64,.i .i64,.i .i64]]) (s2:=[.l [.i .i64,.i .i64,.i .i64,.l [.i .i64,.i .i64]],.l [.i .i64,.b,.b,.i .i64,.i .i64,.i .i64,.i .i64,.i .i64,.i .i64,.i .i64,.i .i64,.i .i64,.i .i64,.i .i64,.i .i64,.i .i64,.i .i64,.i .i64,.i .i64,.l [.i .u8],.i .i64],.i .i64,.i .i64,.i .i64,.i .i64,.i .i64]) rfl Tryz.sh26 (by kernel_rfl) (HasFs.cons (s1:=[.l [.i .i64,.i .i64,.i .i64,.l [.i .i64,.i .i64]]]) (s2:=[.l [.i .i64,.b,.b,.i .i64,.i .i64,.i .i64,.i .i64,.i .i64,.i .i64,.i .i64,.i .i64,.i .i64,.i .i64,.i .i64,.i .i64,.i .i64,.i .i64,.i .i64,.i .i64,.l [.i .u8],.i .i64],.i .i64,.i .i64,.i .i64,.i .i64,.i .i64]) rfl Tryz.sh27 (by kernel_rfl) (HasFs.cons (s1:=[.l [.i .i64,.b,.b,.i .i64,.i .i64,.i .i64,.i .i64,.i .i64,.i .i64,.i .i64,.i .i64,.i .i64,.i .i64,.i .i64,.i .i64,.i .i64,.i .i64,.i .i64,.i .i64,.l [.i .u8],.i .i64]]) (s2:=[.i .i64,.i .i64,.i .i64,.i .i64,.i .i64]) rfl Tryz.sh28 (by kernel_rfl) (HasFs.cons (s1:=[.i .i64]) (s2:=[.i .i64,.i .i64,.i .i64,.i .i64]) rfl Tryz.sh3 (by kernel_rfl) (HasFs.cons (s1:=[.i .i64,.i .i64]) (s2:=[.i .i64,.i .i64]) rfl Tryz.sh30 (by kernel_rfl) (HasFs.cons (s1:=[.i .i64]) (s2:=[.i .i64]) rfl Tryz.sh3 (by kernel_rfl) (HasFs.cons (s1:=[.i .i64]) (s2:=[]) rfl Tryz.sh3 (by kernel_rfl) (HasFs.nil)))))))))) (by kernel_rfl)
theorem Tryz.eqa30:EqA prog 2 30 [.i .i64,.i .i64]:=dK (k:=1) underlying30 (by kernel_rfl) (dr rfl (by decide) inferInstance (ci underlying3) (dr rfl (by decide) inferInstance (ci underlying3) (fN)))
instance:p9 prog 30 [.i .i64,.i .i64]:=⟨⟨2,by decide,Tryz.eqa30⟩,by kernel_rfl⟩
theorem Tryz.eqa41:EqA prog 2 41 [.i .i64,.i .i64]:=dK (k:=1) underlying41 (by kernel_rfl) (dr rfl (by decide) inferInstance (ci underlying3) (dr rfl (by decide) inferInstance (ci underlying3) (fN)))
instance:p9 prog 41 [.i .i64,.i .i64]:=⟨⟨2,by decide,Tryz.eqa41⟩,by kernel_rfl⟩
theorem Tryz.eqa81:EqA prog 2 81 [.i .i64,.i .i64]:=dK (k:=1) underlying81 (by kernel_rfl) (dr rfl (by decide) inferInstance (ci underlying3) (dr rfl (by decide) inferInstance (ci underlying3) (fN)))
instance:p9 prog 81 [.i .i64,.i .i64]:=⟨⟨2,by decide,Tryz.eqa81⟩,by kernel_rfl⟩
theorem Tryz.eqa83:EqA prog 3 83 [.i .i64,.i .i64,.i .i64,.i .i64]:=dK (k:=2) underlying83 (by kernel_rfl) (Gi (n:=2) (s1:=[.i .i64,.i .i64]) rfl (by decide) inferInstance rfl (by decide) Tryz.eqa81 (dr rfl (by decide) inferInstance (ci underlying3) (dr rfl (by decide) inferInstance (ci underlying3) (fN))))
instance:p9 prog 83 [.i .i64,.i .i64,.i .i64,.i .i64]:=⟨⟨3,by decide,Tryz.eqa83⟩,by kernel_rfl⟩
theorem Tryz.eqa92:EqA prog 3 92 [.i .i64,.i .i64,.i .i64,.i .i64]:=dK (k:=2) underlying92 (by kernel_rfl) (Gi (n:=2) (s1:=[.i .i64,.i .i64]) rfl (by decide) inferInstance rfl (by decide) Tryz.eqa81 (dr rfl (by decide) inferInstance (ci underlying3) (dr rfl (by decide) inferInstance (ci underlying3) (fN))))
instance:p9 prog 92 [.i .i64,.i .i64,.i .i64,.i .i64]:=⟨⟨3,by decide,Tryz.eqa92⟩,by kernel_rfl⟩
theorem Tryz.eqa97:EqA prog 2 97 [.i .i64,.i .i64,.i .i64,.i .i64,.i .i64]:=dK (k:=1) underlying97 (by kernel_rfl) (dr rfl (by decide) inferInstance (ci underlying3) (dr rfl (by decide) inferInstance (ci underlying3) (dr rfl (by decide) inferInstance (ci underlying3) (dr rfl (by decide) inferInstance (ci underlying3) (dr rfl (by decide) inferInstance (ci underlying3) (fN))))))
instance:p9 prog 97 [.i .i64,.i .i64,.i .i64,.i .i64,.i .i64]:=⟨⟨2,by decide,Tryz.eqa97⟩,by kernel_rfl⟩
theorem Tryz.eqa99:EqA prog 2 99 [.i .i64,.i .i64,.i .i64]:=dK (k:=1) underlying99 (by kernel_rfl) (dr rfl (by decide) inferInstance (ci underlying3) (dr rfl (by decide) inferInstance (ci underlying3) (dr rfl (by decide) inferInstance (ci underlying3) (fN))))
instance:p9 prog 99 [.i .i64,.i .i64,.i .i64]:=⟨⟨2,by decide,Tryz.eqa99⟩,by kernel_rfl⟩
theorem Tryz.eqa103:EqA prog 2 103 [.i .i64,.i .i64,.i .i64]:=dK (k:=1) underlying103 (by kernel_rfl) (dr rfl (by decide) inferInstance (ci underlying3) (dr rfl (by decide) inferInstance (ci underlying3) (dr rfl (by decide) inferInstance (ci underlying3) (fN))))
instance:p9 prog 103 [.i .i64,.i .i64,.i .i64]:=⟨⟨2,by decide,Tryz.eqa103⟩,by kernel_rfl⟩
theorem Tryz.eqa112:EqA prog 3 112 [.i .i64,.i .i64,.i .i64,.i .i64,.i .i64,.i .i64,.i .i64,.i .i64,.i .i64,.i .i64,.i .i64]:=dK (k:=2) underlying112 (by kernel_rfl) (dr rfl (by decide) inferInstance (ci underlying3) (dr rfl (by decide) inferInstance (ci underlying3) (dr rfl (by decide) inferInstance (ci underlying3) (dr rfl (by decide) inferInstance (ci underlying3) (dr rfl (by decide) inferInstance (ci underlying3) (Gi (n:=5) (s1:=[.i .i64,.i .i64,.i .i64,.i .i64,.i .i64]) rfl (by decide) inferInstance rfl (by decide) Tryz.eqa97 (dr rfl (by decide) inferInstance (ci underlying3) (fN))))))))
instance:p9 prog 112 [.i .i64,.i .i64,.i .i64,.i .i64,.i .i64,.i .i64,.i .i64,.i .i64,.i .i64,.i .i64,.i .i64]:=⟨⟨3,by decide,Tryz.eqa112⟩,by kernel_rfl⟩
theorem Tryz.eqa121:EqA prog 2 121 [.i .i64,.i .i64]:=dK (k:=1) underlying121 (by kernel_rfl) (dr rfl (by decide) inferInstance (ci underlying3) (dr rfl (by decide) inferInstance (ci underlying3) (fN)))
instance:p9 prog 121 [.i .i64,.i .i64]:=⟨⟨2,by decide,Tryz.eqa121⟩,by kernel_rfl⟩
theorem Tryz.eqa123:EqA prog 3 123 [.i .i64,.i .i64,.i .i64,.i .i64]:=dK (k:=2) underlying123 (by kernel_rfl) (Gi (n:=2) (s1:=[.i .i64,.i .i64]) rfl (by decide) inferInstance rfl (by decide) Tryz.eqa121 (dr rfl (by decide) inferInstance (ci underlying3) (dr rfl (by decide) inferInstance (ci underlying3) (fN))))
instance:p9 prog 123 [.i .i64,.i .i64,.i .i64,.i .i64]:=⟨⟨3,by decide,Tryz.eqa123⟩,by kernel_rfl⟩
theorem Tryz.eqa132:EqA prog 3 132 [.i .i64,.i .i64,.i .i64,.i .i64]:=dK (k:=2) underlying132 (by kernel_rfl) (Gi (n:=2) (s1:=[.i .i64,.i .i64]) rfl (by decide) inferInstance rfl (by decide) Tryz.eqa121 (dr rfl (by decide) inferInstance (ci underlying3) (dr rfl (by decide) inferInstance (ci underlying3) (fN))))
instance:p9 prog 132 [.i .i64,.i .i64,.i .i64,.i .i64]:=⟨⟨3,by decide,Tryz.eqa132⟩,by kernel_rfl⟩
theorem Tryz.eqa134:EqA prog 2 134 [.i .i64,.i .i64,.i .i64,.i .i64,.i .i64]:=dK (k:=1) underlying134 (by kernel_rfl) (dr rfl (by decide) inferInstance (ci underlying3) (dr rfl (by decide) inferInstance (ci underlying3) (dr rfl (by decide) inferInstance (ci underlying3) (dr rfl (by decide) inferInstance (ci underlying3) (dr rfl (by decide) inferInstance (ci underlying3) (fN))))))
instance:p9 prog 134 [.i .i64,.i .i64,.i .i64,.i .i64,.i .i64]:=⟨⟨2,by decide,Tryz.eqa134⟩,by kernel_rfl⟩
theorem Tryz.eqa135:EqA prog 2 135 [.i .i64,.i .i64,.i .i64]:=dK (k:=1) underlying135 (by kernel_rfl) (dr rfl (by decide) inferInstance (ci underlying3) (dr rfl (by decide) inferInstance (ci underlying3) (dr rfl (by decide) inferInstance (ci underlying3) (fN))))
instance:p9 prog 135 [.i .i64,.i .i64,.i .i64]:=⟨⟨2,by decide,Tryz.eqa135⟩,by kernel_rfl⟩
theorem Tryz.eqa138:EqA prog 2 138 [.i .i64,.i .i64,.i .i64]:=dK (k:=1) underlying138 (by kernel_rfl) (dr rfl (by decide) inferInstance (ci underlying3) (dr rfl (by decide) inferInstance (ci underlying3) (dr rfl (by decide) inferInstance (ci underlying3) (fN))))
instance:p9 prog 138 [.i .i64,.i .i64,.i .i64]:=⟨⟨2,by decide,Tryz.eqa138⟩,by kernel_rfl⟩
theorem Tryz.eqa147:EqA prog 3 147 [.i .i64,.i .i64,.i .i64,.i .i64,.i .i64,.i .i64,.i .i64,.i .i64,.i .i64,.i .i64,.i .i64]:=dK (k:=2) underlying147 (by kernel_rfl) (dr rfl (by decide) inferInstance (ci underlying3) (dr rfl (by decide) inferInstance (ci underlying3) (dr rfl (by decide) inferInstance (ci underlying3) (dr rfl (by decide) inferInstance (ci underlying3) (dr rfl (by decide) inferInstance (ci underlying3) (Gi (n:=5) (s1:=[.i .i64,.i .i64,.i .i64,.i .i64,.i .i64]) rfl (by decide) inferInstance rfl (by decide) Tryz.eqa134 (dr rfl (by decide) inferInstance (ci underlying3) (fN))))))))
instance:p9 prog 147 [.i .i64,.i .i64,.i .i64,.i .i64,.i .i64,.i .i64,.i .i64,.i .i64,.i .i64,.i .i64,.i .i64]:=⟨⟨3,by decide,Tryz.eqa147⟩,by kernel_rfl⟩
theorem Tryz.eqa232:EqA prog 2 232 [.i .i64,.i .i64]:=dK (k:=1) underlying232 (by kernel_rfl) (dr rfl (by decide) inferInstance (ci underlying3) (dr rfl (by decide) inferInstance (ci underlying3) (fN)))
instance:p9 prog 232 [.i .i64,.i .i64]:=⟨⟨2,by decide,Tryz.eqa232⟩,by kernel_rfl⟩
theorem Tryz.eqa284:EqA prog 2 284 [.i .i64,.i .i64]:=dK (k:=1) underlying284 (by kernel_rfl) (dr rfl (by decide) inferInstance (ci underlying3) (dr rfl (by decide) inferInstance (ci underlying3) (fN)))
instance:p9 prog 284 [.i .i64,.i .i64]:=⟨⟨2,by decide,Tryz.eqa284⟩,by kernel_rfl⟩
theorem Tryz.eqa329:EqA prog 2 329 [.i .i64,.i .i64,.i .i64,.i .i64]:=dK (k:=1) underlying329 (by kernel_rfl) (dr rfl (by decide) inferInstance (ci underlying3) (dr rfl (by decide) inferInstance (ci underlying3) (dr rfl (by decide) inferInstance (ci underlying3) (dr rfl (by decide) inferInstance (ci underlying3) (fN)))))
instance:p9 prog 329 [.i .i64,.i .i64,.i .i64,.i .i64]:=⟨⟨2,by decide,Tryz.eqa329⟩,by kernel_rfl⟩
theorem Tryz.follows:prog.follows .mixedOrders=true:=by kernel_rfl
instance:c9 prog 22 191 2 32:=⟨underlying22,ua Tryz.z191,by decide⟩
instance:c9 prog 25 89 14 144:=⟨underlying25,ua Tryz.z89,by decide⟩
instance:c9 prog 26 105 30 288:=⟨underlying26,ua Tryz.z105,by decide⟩
instance:c9 prog 27 109 4 48:=⟨underlying27,ua Tryz.z109,by decide⟩
instance:c9 prog 28 119 21 176:=⟨underlying28,ua Tryz.z119,by decide⟩
instance:c9 prog 34 198 2 32:=⟨underlying34,ua Tryz.z198,by decide⟩
instance:c9 prog 37 129 14 144:=⟨underlying37,ua Tryz.z129,by decide⟩
instance:c9 prog 38 140 30 288:=⟨underlying38,ua Tryz.z140,by decide⟩
instance:c9 prog 39 144 4 48:=⟨underlying39,ua Tryz.z144,by decide⟩
instance:c9 prog 40 152 21 176:=⟨underlying40,ua Tryz.z152,by decide⟩
instance:c9 prog 84 312 2 32:=⟨underlying84,ua Tryz.z312,by decide⟩
instance:c9 prog 85 261 1 24:=⟨underlying85,ua Tryz.z261,by decide⟩
instance:c9 prog 93 3 1 8:=⟨underlying93,ua Tryz.z3,by decide⟩
instance:c9 prog 107 284 2 16:=⟨underlying107,ua Tryz.z284,by decide⟩
instance:c9 prog 113 5 1 1:=⟨underlying113,ua Tryz.z5,by decide⟩
instance:c9 prog 124 249 2 32:=⟨underlying124,ua Tryz.z249,by decide⟩
instance:c9 prog 125 251 1 24:=⟨underlying125,ua Tryz.z251,by decide⟩
instance:c9 prog 142 232 2 16:=⟨underlying142,ua Tryz.z232,by decide⟩
instance:c9 prog 179 147 11 88:=⟨underlying179,ua Tryz.z147,by decide⟩
instance:c9 prog 183 150 6 64:=⟨underlying183,ua Tryz.z150,by decide⟩
structure cA where
 mG:Int
 bI:List Int
 deriving DecidableEq,Inhabited
def cQ(a:cA):List D:=[edI a.mG,.l (a.bI.map eI)]
def fTCell(a:cA):List F:=[esI a.mG,.l 3 1 (a.bI.map eI) a.bI.length]
def Fl:cA:=⟨0,[]⟩
structure bz where
 bD:List cA
 deriving DecidableEq,Inhabited
def gm(a:bz):List D:=[.l (a.bD.map cQ)]
def RO:bz:=⟨[]⟩
structure dh where
 sk:Int
 iK:Int
 deriving DecidableEq,Inhabited
def mK(a:dh):List D:=[edI a.sk,edI a.iK]
def HK(a:dh):List F:=[esI a.sk,esI a.iK]
def Jh:dh:=⟨0,0⟩
structure cf where
 dF:Int
 bW:Int
 deriving DecidableEq,Inhabited
def f5(a:cf):List D:=[edI a.dF,edI a.bW]
def DL(a:cf):List F:=[esI a.dF,esI a.bW]
def xk:cf:=⟨0,0⟩
structure ik where
 ID:cf
 fg:Int
 dE:Int
 deriving DecidableEq,Inhabited
def yS(a:ik):List D:=[edI a.ID.dF,edI a.ID.bW,edI a.fg,edI a.dE]
def HM(a:ik):List F:=[esI a.ID.dF,esI a.ID.bW,esI a.fg,esI a.dE]
def zTUSIM:ik:=⟨xk,0,0⟩
structure ab where
 cP:Int
 bk:List Int
 deriving DecidableEq,Inhabited
def ah(a:ab):List D:=[edI a.cP,.l (a.bk.map eU8)]
def dR(a:ab):List F:=[esI a.cP,.l 5 1 (a.bk.map eU8) a.bk.length]
def bg:ab:=⟨0,[]⟩
structure aC where
 bk:List Int
 deriving DecidableEq,Inhabited
def bQ(a:aC):List D:=[.l (a.bk.map eU8)]
structure aj where
 bK:Int
 am:List ab
 aD:List aC
 deriving DecidableEq,Inhabited
def dw(a:aj):List D:=[edI a.bK,.l (a.am.map ah),.l (a.aD.map bQ)]
def bX(a:aj):List F:=[esI a.bK,.l 249 2 (a.am.map ah) a.am.length,.l 251 1 (a.aD.map bQ) a.aD.length]
def eh:aj:=⟨0,[],[]⟩
structure av where
 dJ:ik
 bV:Int
 bJ:Int
 ak:Int
 bj:Int
 aU:Int
 bZ:Bool
 mH:Int
 bY:aj
 deriving DecidableEq,Inhabited
def aZ(a:av):List D:=[edI a.dJ.ID.dF,edI a.dJ.ID.bW,edI a.dJ.fg,edI a.dJ.dE,edI a.bV,edI a.bJ,edI a.ak,edI a.bj,edI a.aU,.b a.bZ,edI a.mH,edI a.bY.bK,.l (a.bY.am.map ah),.l (a.bY.aD.map bQ)]
def gv(a:av):List F:=[esI a.dJ.ID.dF,esI a.dJ.ID.bW,esI a.dJ.fg,esI a.dJ.dE,esI a.bV,esI a.bJ,esI a.ak,esI a.bj,esI a.aU,.s (.b a.bZ),esI a.mH,esI a.bY.bK,.l 249 2 (a.bY.am.map ah) a.bY.am.length,.l 251 1 (a.bY.aD.map bQ) a.bY.aD.length]
def xj:av:=⟨zTUSIM,0,0,0,0,0,η,0,eh⟩
structure be where
 ID:cf
 fg:Int
 cP:Int
 deriving DecidableEq,Inhabited
def ei(a:be):List D:=[edI a.ID.dF,edI a.ID.bW,edI a.fg,edI a.cP]
def mh(a:be):List F:=[esI a.ID.dF,esI a.ID.bW,esI a.fg,esI a.cP]
def zK:be:=⟨xk,0,0⟩
structure bh where
 ij:Int
 ic:Int
 ig:Int
 aV:List Int
 deriving DecidableEq,Inhabited
def eB(a:bh):List D:=[edI a.ij,edI a.ic,edI a.ig,.l (a.aV.map eI)]
def mM(a:bh):List F:=[esI a.ij,esI a.ic,esI a.ig,.l 3 1 (a.aV.map eI) a.aV.length]
def Fo:bh:=⟨0,0,0,[]⟩
structure bL where
 dT:Int
 fK:Int
 mu:Int
 A2:Int
 fg:Int
 deriving DecidableEq,Inhabited
def fM(a:bL):List D:=[edI a.dT,edI a.fK,edI a.mu,edI a.A2,edI a.fg]
def mL(a:bL):List F:=[esI a.dT,esI a.fK,esI a.mu,esI a.A2,esI a.fg]
def cF:bL:=⟨0,0,0,0,0⟩
structure cT where
 mG:Int
 kF:Int
 mH:Int
 deriving DecidableEq,Inhabited
def lr(a:cT):List D:=[edI a.mG,edI a.kF,edI a.mH]
def Fu(a:cT):List F:=[esI a.mG,esI a.kF,esI a.mH]
def d8:cT:=⟨0,0,0⟩
structure aF where
 bK:Int
 aJ:List ab
 deriving DecidableEq,Inhabited
def eA(a:aF):List D:=[edI a.bK,.l (a.aJ.map ah)]
def dW(a:aF):List F:=[esI a.bK,.l 249 2 (a.aJ.map ah) a.aJ.length]
def qC:aF:=⟨0,[]⟩
structure cU where
 bi:Int
 dg:Int
 gO:Int
 deriving DecidableEq,Inhabited
def mJ(a:cU):List D:=[edI a.bi,edI a.dg,edI a.gO]
def HI(a:cU):List F:=[esI a.bi,esI a.dg,esI a.gO]
def Y2:cU:=⟨0,0,0⟩
structure ag where
 bF:be
 gu:bh
 bV:Int
 am:bL
 bw:Int
 ak:Int
 bj:Int
 aU:Int
 bJ:Int
 kY:Int
 oy:cT
 aX:List aC
 aY:aF
 kf:Int
 dq:cU
 deriving DecidableEq,Inhabited
def aB(a:ag):List D:=[edI a.bF.ID.dF,edI a.bF.ID.bW,edI a.bF.fg,edI a.bF.cP,edI a.gu.ij,edI a.gu.ic,edI a.gu.ig,.l (a.gu.aV.map eI),edI a.bV,edI a.am.dT,edI a.am.fK,edI a.am.mu,edI a.am.A2,edI a.am.fg,edI a.bw,edI a.ak,edI a.bj,edI a.aU,edI a.bJ,edI a.kY,edI a.oy.mG,edI a.oy.kF,edI a.oy.mH,.l (a.aX.map bQ),edI a.aY.bK,.l (a.aY.aJ.map ah),edI a.kf,edI a.dq.bi,edI a.dq.dg,edI a.dq.gO]
def gp(a:ag):List F:=[esI a.bF.ID.dF,esI a.bF.ID.bW,esI a.bF.fg,esI a.bF.cP,esI a.gu.ij,esI a.gu.ic,esI a.gu.ig,.l 3 1 (a.gu.aV.map eI) a.gu.aV.length,esI a.bV,esI a.am.dT,esI a.am.fK,esI a.am.mu,esI a.am.A2,esI a.am.fg,esI a.bw,esI a.ak,esI a.bj,esI a.aU,esI a.bJ,esI a.kY,esI a.oy.mG,esI a.oy.kF,esI a.oy.mH,.l 251 1 (a.aX.map bQ) a.aX.length,esI a.aY.bK,.l 249 2 (a.aY.aJ.map ah) a.aY.aJ.length,esI a.kf,esI a.dq.bi,esI a.dq.dg,esI a.dq.gO]
def ud:ag:=⟨zK,Fo,0,cF,0,0,0,0,0,0,d8,[],qC,0,Y2⟩
structure aA where
 bi:Int
 dX:Int
 deriving DecidableEq,Inhabited
def bT(a:aA):List D:=[edI a.bi,edI a.dX]
def Fv(a:aA):List F:=[esI a.bi,esI a.dX]
def tx:aA:=⟨0,0⟩
structure an where
 jf:Int
 er:Int
 pv:Int
 aG:List aA
 deriving DecidableEq,Inhabited
def bu(a:an):List D:=[edI a.jf,edI a.er,edI a.pv,.l (a.aG.map bT)]
def xo(a:an):List F:=[esI a.jf,esI a.er,esI a.pv,.l 232 2 (a.aG.map bT) a.aG.length]
def xV:an:=⟨0,0,0,[]⟩
structure ar where
 d9:Int
 bJ:Int
 ak:Int
 aU:Int
 bW:Int
 cy:bL
 mu:Int
 deriving DecidableEq,Inhabited
def cb(a:ar):List D:=[edI a.d9,edI a.bJ,edI a.ak,edI a.aU,edI a.bW,edI a.cy.dT,edI a.cy.fK,edI a.cy.mu,edI a.cy.A2,edI a.cy.fg,edI a.mu]
def fH(a:ar):List F:=[esI a.d9,esI a.bJ,esI a.ak,esI a.aU,esI a.bW,esI a.cy.dT,esI a.cy.fK,esI a.cy.mu,esI a.cy.A2,esI a.cy.fg,esI a.mu]
def Fm:ar:=⟨0,0,0,0,0,cF,0⟩
structure aS where
 cH:Int
 fj:Int
 bk:List Int
 mu:Int
 deriving DecidableEq,Inhabited
def cZ(a:aS):List D:=[edI a.cH,edI a.fj,.l (a.bk.map eU8),edI a.mu]
def oG(a:aS):List F:=[esI a.cH,esI a.fj,.l 5 1 (a.bk.map eU8) a.bk.length,esI a.mu]
def uc:aS:=⟨0,0,[],0⟩
structure aT where
 ak:Int
 aU:Int
 a9:aS
 deriving DecidableEq,Inhabited
def db(a:aT):List D:=[edI a.ak,edI a.aU,edI a.a9.cH,edI a.a9.fj,.l (a.a9.bk.map eU8),edI a.a9.mu]
def jy(a:aT):List F:=[esI a.ak,esI a.aU,esI a.a9.cH,esI a.a9.fj,.l 5 1 (a.a9.bk.map eU8) a.a9.bk.length,esI a.a9.mu]
def jH:aT:=⟨0,0,uc⟩
structure aH where
 bC:Int
 oE:Bool
 iJ:Bool
 bJ:Int
 bS:ar
 cY:aT
 deriving DecidableEq,Inhabited
def aW(a:aH):List D:=[edI a.bC,.b a.oE,.b a.iJ,edI a.bJ,edI a.bS.d9,edI a.bS.bJ,edI a.bS.ak,edI a.bS.aU,edI a.bS.bW,edI a.bS.cy.dT,edI a.bS.cy.fK,edI a.bS.cy.mu,edI a.bS.cy.A2,edI a.bS.cy.fg,edI a.bS.mu,edI a.cY.ak,edI a.cY.aU,edI a.cY.a9.cH,edI a.cY.a9.fj,.l (a.cY.a9.bk.map eU8),edI a.cY.a9.mu]
def jh(a:aH):List F:=[esI a.bC,.s (.b a.oE),.s (.b a.iJ),esI a.bJ,esI a.bS.d9,esI a.bS.bJ,esI a.bS.ak,esI a.bS.aU,esI a.bS.bW,esI a.bS.cy.dT,esI a.bS.cy.fK,esI a.bS.cy.mu,esI a.bS.cy.A2,esI a.bS.cy.fg,esI a.bS.mu,esI a.cY.ak,esI a.cY.aU,esI a.cY.a9.cH,esI a.cY.a9.fj,.l 5 1 (a.cY.a9.bk.map eU8) a.cY.a9.bk.length,esI a.cY.a9.mu]
def iF:aH:=⟨0,η,η,0,Fm,jH⟩
structure ae where
 gr:bz
 aO:List av
 a8:List ag
 bU:List an
 ax:List aH
 dy:Int
 kG:dh
 Fr:Int
 lb:Int
 deriving DecidableEq,Inhabited
def ev(a:ae):List D:=[.l (a.gr.bD.map cQ),.l (a.aO.map aZ),.l (a.a8.map aB),.l (a.bU.map bu),.l (a.ax.map aW),edI a.dy,edI a.kG.sk,edI a.kG.iK,edI a.Fr,edI a.lb]
def c7(a:ae):List F:=[.l 198 2 (a.gr.bD.map cQ) a.gr.bD.length,.l 129 14 (a.aO.map aZ) a.aO.length,.l 140 30 (a.a8.map aB) a.a8.length,.l 144 4 (a.bU.map bu) a.bU.length,.l 152 21 (a.ax.map aW) a.ax.length,esI a.dy,esI a.kG.sk,esI a.kG.iK,esI a.Fr,esI a.lb]
def Hb:ae:=⟨RO,[],[],[],[],0,Jh,0,0⟩
structure aK where
 bC:av
 dQ:List ar
 deriving DecidableEq,Inhabited
def cd(a:aK):List F:=[esI a.bC.dJ.ID.dF,esI a.bC.dJ.ID.bW,esI a.bC.dJ.fg,esI a.bC.dJ.dE,esI a.bC.bV,esI a.bC.bJ,esI a.bC.ak,esI a.bC.bj,esI a.bC.aU,.s (.b a.bC.bZ),esI a.bC.mH,esI a.bC.bY.bK,.l 249 2 (a.bC.bY.am.map ah) a.bC.bY.am.length,.l 251 1 (a.bC.bY.aD.map bQ) a.bC.bY.aD.length,.l 147 11 (a.dQ.map cb) a.dQ.length]
def iC:aK:=⟨xj,[]⟩
structure Fs where
 ck:ag
 Account:an
 Y6:List ar
 cY:List aT
 deriving DecidableEq,Inhabited
structure aP where
 ck:ag
 dQ:List ar
 deriving DecidableEq,Inhabited
def bP(a:aP):List F:=[esI a.ck.bF.ID.dF,esI a.ck.bF.ID.bW,esI a.ck.bF.fg,esI a.ck.bF.cP,esI a.ck.gu.ij,esI a.ck.gu.ic,esI a.ck.gu.ig,.l 3 1 (a.ck.gu.aV.map eI) a.ck.gu.aV.length,esI a.ck.bV,esI a.ck.am.dT,esI a.ck.am.fK,esI a.ck.am.mu,esI a.ck.am.A2,esI a.ck.am.fg,esI a.ck.bw,esI a.ck.ak,esI a.ck.bj,esI a.ck.aU,esI a.ck.bJ,esI a.ck.kY,esI a.ck.oy.mG,esI a.ck.oy.kF,esI a.ck.oy.mH,.l 251 1 (a.ck.aX.map bQ) a.ck.aX.length,esI a.ck.aY.bK,.l 249 2 (a.ck.aY.aJ.map ah) a.ck.aY.aJ.length,esI a.ck.kf,esI a.ck.dq.bi,esI a.ck.dq.dg,esI a.ck.dq.gO,.l 147 11 (a.dQ.map cb) a.dQ.length]
def fF:aP:=⟨ud,[]⟩
structure eU where
 Code:Int
 A2:Int
 ue:Int
 Sx:Int
 deriving DecidableEq,Inhabited
def qS(a:eU):List F:=[esI a.Code,esI a.A2,esI a.ue,esI a.Sx]
def gj:eU:=⟨0,0,0,0⟩
structure eu where
 Steps:List Int
 deriving DecidableEq,Inhabited
def Gh(a:eu):List D:=[.l (a.Steps.map eI)]
theorem Try.follows:prog.follows .mixedOrders=true:=Tryz.follows
end Go.AM
