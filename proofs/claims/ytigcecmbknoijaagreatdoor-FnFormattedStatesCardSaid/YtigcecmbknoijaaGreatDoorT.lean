/- A part. -/
import Derived.Test.YtigcecmbknoijaaGreatDoorE3
import Derived.Test.YtigcecmbknoijaaGreatDoorProg
import Derived.Lib.LaidTab
import Derived.Lib.ItoaNum
set_option linter.unusedVariables false
set_option linter.unusedSimpArgs false
open Option renaming some->ς,none->ξ
open Bool renaming true->ζ,false->η
open True renaming intro->θ
namespace Go.AM
open Go.Proofs
open Tryz
variable{P:Program}{t:TypeId}{n:Nat}
theorem JH(h:(P.info? t).map (·.size)=ς n):∃i,P.info? t=ς i/\i.size=n:=by
 cases hi:P.info? t with
 |none=>simp[hi] at h
 |some i=>simp[hi] at h;exact⟨i,rfl,h⟩
theorem Qo{z:Value}(h:(P.info? t).map (·.zero)=ς (ς z)):∃i,P.info? t=ς i/\i.zero=ς z:=by
 cases hi:P.info? t with
 |none=>simp[hi] at h
 |some i=>simp[hi] at h;exact⟨i,rfl,h⟩
theorem info_s{z:Value}{b:Nat}(h:(P.info? t).map (λi=>(i.size,i.bytes,i.zero))=ς (n,b,ς z))(hz:z.cells.size=n):∃i z,P.info? t=ς i/\i.size=n/\i.bytes=b/\i.zero=ς z/\z.cells.size=n:=by
 cases hi:P.info? t with
 |none=>simp[hi] at h
 |some i=>simp[hi] at h;exact⟨i,z,rfl,h.1,h.2.1,h.2.2,hz⟩
theorem Ww(h:(P.info? t).map (·.size)=ς n)(hn:n≠0):∃i,P.info? t=ς i/\i.size≠0:=by
 cases hi:P.info? t with
 |none=>simp[hi] at h
 |some i=>simp[hi] at h;exact⟨i,rfl,by omega⟩
theorem dD{z:Value}{Q:Value->Prop}(h:(P.info? t).map (·.zero)=ς (ς z))(q:Q z:=by exact rfl):∃i z,P.info? t=ς i/\i.zero=ς z/\Q z:=by
 obtain⟨i,h1,h2⟩:=Qo h
 exact⟨i,_,h1,h2,q⟩
theorem tynn(h:(P.info? t).map (·.size)=ς n:=by kernel_rfl):∃i,P.info? t=ς i/\i.size=n:=JH h
theorem tyff(n:Nat)(h:(P.info? t).map (·.size)=ς n:=by kernel_rfl)(hn:n≠0:=by decide):∃i,P.info? t=ς i/\i.size≠0:=Ww h hn
theorem wZ{z:Value}{b:Nat}(h1:(P.info? t).map (·.zero)=ς (ς z))(h:(P.info? t).map (λi=>(i.size,i.bytes))=ς (n,b):=by kernel_rfl)(hz:z.cells.size=n:=by exact rfl):∃i z,P.info? t=ς i/\i.size=n/\i.bytes=b/\i.zero=ς z/\z.cells.size=n:=by
 obtain⟨i,h2,h3⟩:=Qo h1
 simp[h2] at h
 exact⟨i,z,h2,h.1,h.2,h3,hz⟩
theorem tyf{t f off ft:Nat}{fs:Array Field}{fd:Field}(n:Nat)(hu:P.underlying t=ς (.struct fs))(h1:fs[f]?=ς fd:=by exact rfl)(h2:fd.offset=off:=by exact rfl)(h3:fd.type=ft:=by exact rfl)(h4:(P.info? ft).map (·.size)=ς n:=by kernel_rfl)(hn:n≠0:=by decide):TyF P t f off ft:=⟨_,_,hu,h1,h2,h3,tyff n h4 hn⟩
theorem ma{t:Nat}(h:∀w,(isAgg t).run P w= .ok ζ w:=by intro w;kernel_rfl)(hn:(P.info? t).map (·.size)=ς n:=by kernel_rfl):fU P t n:=⟨h,JH hn⟩
theorem ta{t:Nat}(h:∀w,(isAgg t).run P w= .ok η w:=by intro w;kernel_rfl)(hn:(P.info? t).map (·.size)=ς 1:=by kernel_rfl):ic P t:=⟨h,JH hn⟩
instance {P:Program} {t n:Nat} [h:fU P t n]:TyN P t n:=⟨h.n⟩
instance {P:Program} {t:Nat} [h:ic P t]:TyN P t 1:=⟨h.n⟩
abbrev zvI:Value:=.int .i64 0
abbrev zvB:Value:=.bool η
abbrev zvN:Value:=.slice ξ 0 0
abbrev zcI:C:=.d η (.i .i64 0)
abbrev zcB:C:=.d η (.b η)
abbrev zdI:D:=.i .i64 0
abbrev zdB:D:=.b η
abbrev zdL:D:=.l []
abbrev edI(n:Int):D:=.i .i64 n
abbrev esI(n:Int):F:=.s (.i .i64 n)
instance:ic prog 3:=ta
instance:TyU prog 3 (.int .i64):=⟨underlying3⟩
theorem Tryz.z3:(prog.info? 3).map (·.zero)=ς (ς zvI):=by kernel_rfl
instance:TyZ prog 3 [zcI]:=⟨dD Tryz.z3⟩
instance:TyE prog 3 [zdI]:=⟨dD Tryz.z3⟩
instance:ic prog 4:=ta
instance:TyU prog 4 (.bool):=⟨underlying4⟩
theorem Tryz.z4:(prog.info? 4).map (·.zero)=ς (ς zvB):=by kernel_rfl
instance:TyZ prog 4 [zcB]:=⟨dD Tryz.z4⟩
instance:TyE prog 4 [zdB]:=⟨dD Tryz.z4⟩
instance:ic prog 5:=ta
instance:TyU prog 5 (.int .u8):=⟨underlying5⟩
theorem Tryz.z5:(prog.info? 5).map (·.zero)=ς (ς (.int .u8 0)):=by kernel_rfl
instance:TyZ prog 5 [.d η (.i .u8 0)]:=⟨dD Tryz.z5⟩
instance:TyE prog 5 [.i .u8 0]:=⟨dD Tryz.z5⟩
instance:ic prog 9:=ta
instance:TyU prog 9 (.string):=⟨underlying9⟩
theorem Tryz.z9:(prog.info? 9).map (·.zero)=ς (ς (.string ⟨#[]⟩)):=by kernel_rfl
instance:TyZ prog 9 [.d η (.str ⟨#[]⟩)]:=⟨dD Tryz.z9⟩
instance:TyE prog 9 [.str ⟨#[]⟩]:=⟨dD Tryz.z9⟩
instance:ic prog 22:=ta
theorem Tryz.z22:(prog.info? 22).map (·.zero)=ς (ς zvN):=by kernel_rfl
instance:TyZ prog 22 [.nil]:=⟨dD Tryz.z22⟩
instance:TyE prog 22 [zdL]:=⟨dD Tryz.z22⟩
instance:ic prog 24:=ta
theorem Tryz.z24:(prog.info? 24).map (·.zero)=ς (ς zvN):=by kernel_rfl
instance:TyZ prog 24 [.nil]:=⟨dD Tryz.z24⟩
instance:TyE prog 24 [zdL]:=⟨dD Tryz.z24⟩
instance:fU prog 26 4:=ma
theorem Tryz.z26:(prog.info? 26).map (·.zero)=ς (ς (.agg #[zvI,zvI,zvI,zvN])):=by kernel_rfl
instance:TyZ prog 26 [zcI,zcI,zcI,.nil]:=⟨dD Tryz.z26⟩
instance:TyE prog 26 [zdI,zdI,zdI,zdL]:=⟨dD Tryz.z26⟩
instance:TyB prog 26 [(0,1),(1,1),(2,1),(3,1)]:=⟨_,underlying26,λw=>by kernel_rfl⟩
instance:TyF prog 26 0 0 3:=tyf 1 underlying26
instance:TyF prog 26 1 1 3:=tyf 1 underlying26
instance:TyF prog 26 2 2 3:=tyf 1 underlying26
instance:TyF prog 26 3 3 24:=tyf 1 underlying26
instance:ic prog 28:=ta
theorem Tryz.z28:(prog.info? 28).map (·.zero)=ς (ς zvN):=by kernel_rfl
instance:TyZ prog 28 [.nil]:=⟨dD Tryz.z28⟩
instance:TyE prog 28 [zdL]:=⟨dD Tryz.z28⟩
instance:fU prog 32 3:=ma
theorem Tryz.z32:(prog.info? 32).map (·.zero)=ς (ς (.agg #[zvI,zvI,zvI])):=by kernel_rfl
instance:TyZ prog 32 [zcI,zcI,zcI]:=⟨dD Tryz.z32⟩
instance:TyE prog 32 [zdI,zdI,zdI]:=⟨dD Tryz.z32⟩
instance:TyB prog 32 [(0,1),(1,1),(2,1)]:=⟨_,underlying32,λw=>by kernel_rfl⟩
instance:TyF prog 32 0 0 3:=tyf 1 underlying32
instance:TyF prog 32 1 1 3:=tyf 1 underlying32
instance:TyF prog 32 2 2 3:=tyf 1 underlying32
instance:ic prog 33:=ta
theorem Tryz.z33:(prog.info? 33).map (·.zero)=ς (ς zvN):=by kernel_rfl
instance:TyZ prog 33 [.nil]:=⟨dD Tryz.z33⟩
instance:TyE prog 33 [zdL]:=⟨dD Tryz.z33⟩
instance:fU prog 35 1:=ma
theorem Tryz.z35:(prog.info? 35).map (·.zero)=ς (ς (.agg #[zvN])):=by kernel_rfl
instance:TyZ prog 35 [.nil]:=⟨dD Tryz.z35⟩
instance:TyE prog 35 [zdL]:=⟨dD Tryz.z35⟩
instance:TyB prog 35 [(0,1)]:=⟨_,underlying35,λw=>by kernel_rfl⟩
instance:TyF prog 35 0 0 33:=tyf 1 underlying35
instance:ic prog 36:=ta
theorem Tryz.z36:(prog.info? 36).map (·.zero)=ς (ς zvN):=by kernel_rfl
instance:TyZ prog 36 [.nil]:=⟨dD Tryz.z36⟩
instance:TyE prog 36 [zdL]:=⟨dD Tryz.z36⟩
instance:ic prog 37:=ta
theorem Tryz.z37:(prog.info? 37).map (·.zero)=ς (ς zvN):=by kernel_rfl
instance:TyZ prog 37 [.nil]:=⟨dD Tryz.z37⟩
instance:TyE prog 37 [zdL]:=⟨dD Tryz.z37⟩
instance:ic prog 38:=ta
theorem Tryz.z38:(prog.info? 38).map (·.zero)=ς (ς zvN):=by kernel_rfl
instance:TyZ prog 38 [.nil]:=⟨dD Tryz.z38⟩
instance:TyE prog 38 [zdL]:=⟨dD Tryz.z38⟩
instance:ic prog 39:=ta
theorem Tryz.z39:(prog.info? 39).map (·.zero)=ς (ς zvN):=by kernel_rfl
instance:TyZ prog 39 [.nil]:=⟨dD Tryz.z39⟩
instance:TyE prog 39 [zdL]:=⟨dD Tryz.z39⟩
instance:fU prog 41 2:=ma
theorem Tryz.z41:(prog.info? 41).map (·.zero)=ς (ς (.agg #[zvI,zvI])):=by kernel_rfl
instance:TyZ prog 41 [zcI,zcI]:=⟨dD Tryz.z41⟩
instance:TyE prog 41 [zdI,zdI]:=⟨dD Tryz.z41⟩
instance:TyB prog 41 [(0,1),(1,1)]:=⟨_,underlying41,λw=>by kernel_rfl⟩
instance:TyF prog 41 0 0 3:=tyf 1 underlying41
instance:TyF prog 41 1 1 3:=tyf 1 underlying41
instance:fU prog 43 10:=ma
theorem Tryz.z43:(prog.info? 43).map (·.zero)=ς (ς (.agg #[zvN,zvN,zvN,zvN,zvN,zvI,zvI,zvI,zvI,zvI])):=by kernel_rfl
instance:TyZ prog 43 [.nil,.nil,.nil,.nil,.nil,zcI,zcI,zcI,zcI,zcI]:=⟨dD Tryz.z43⟩
instance:TyE prog 43 [zdL,zdL,zdL,zdL,zdL,zdI,zdI,zdI,zdI,zdI]:=⟨dD Tryz.z43⟩
instance:TyB prog 43 [(0,1),(1,1),(2,1),(3,1),(4,1),(5,1),(6,2),(8,1),(9,1)]:=⟨_,underlying43,λw=>by kernel_rfl⟩
instance:TyF prog 43 0 0 35:=tyf 1 underlying43
instance:TyF prog 43 1 1 36:=tyf 1 underlying43
instance:TyF prog 43 2 2 37:=tyf 1 underlying43
instance:TyF prog 43 3 3 38:=tyf 1 underlying43
instance:TyF prog 43 4 4 39:=tyf 1 underlying43
instance:TyF prog 43 5 5 3:=tyf 1 underlying43
instance:TyF prog 43 6 6 41:=tyf 2 underlying43
instance:TyF prog 43 7 8 3:=tyf 1 underlying43
instance:TyF prog 43 8 9 3:=tyf 1 underlying43
instance:ic prog 45:=ta
theorem Tryz.z45:(prog.info? 45).map (·.zero)=ς (ς zvN):=by kernel_rfl
instance:TyZ prog 45 [.nil]:=⟨dD Tryz.z45⟩
instance:TyE prog 45 [zdL]:=⟨dD Tryz.z45⟩
instance:fU prog 52 2:=ma
theorem Tryz.z52:(prog.info? 52).map (·.zero)=ς (ς (.agg #[zvI,zvI])):=by kernel_rfl
instance:TyZ prog 52 [zcI,zcI]:=⟨dD Tryz.z52⟩
instance:TyE prog 52 [zdI,zdI]:=⟨dD Tryz.z52⟩
instance:TyB prog 52 [(0,1),(1,1)]:=⟨_,underlying52,λw=>by kernel_rfl⟩
instance:TyF prog 52 0 0 3:=tyf 1 underlying52
instance:TyF prog 52 1 1 3:=tyf 1 underlying52
instance:fU prog 54 4:=ma
theorem Tryz.z54:(prog.info? 54).map (·.zero)=ς (ς (.agg #[zvI,zvI,zvI,zvI])):=by kernel_rfl
instance:TyZ prog 54 [zcI,zcI,zcI,zcI]:=⟨dD Tryz.z54⟩
instance:TyE prog 54 [zdI,zdI,zdI,zdI]:=⟨dD Tryz.z54⟩
instance:TyB prog 54 [(0,2),(2,1),(3,1)]:=⟨_,underlying54,λw=>by kernel_rfl⟩
instance:TyF prog 54 0 0 52:=tyf 2 underlying54
instance:TyF prog 54 1 2 3:=tyf 1 underlying54
instance:TyF prog 54 2 3 3:=tyf 1 underlying54
instance:ic prog 55:=ta
theorem Tryz.z55:(prog.info? 55).map (·.zero)=ς (ς zvN):=by kernel_rfl
instance:TyZ prog 55 [.nil]:=⟨dD Tryz.z55⟩
instance:TyE prog 55 [zdL]:=⟨dD Tryz.z55⟩
instance:ic prog 56:=ta
theorem Tryz.z56:(prog.info? 56).map (·.zero)=ς (ς zvN):=by kernel_rfl
instance:TyZ prog 56 [.nil]:=⟨dD Tryz.z56⟩
instance:TyE prog 56 [zdL]:=⟨dD Tryz.z56⟩
instance:fU prog 58 3:=ma
theorem Tryz.z58:(prog.info? 58).map (·.zero)=ς (ς (.agg #[zvI,zvN,zvN])):=by kernel_rfl
instance:TyZ prog 58 [zcI,.nil,.nil]:=⟨dD Tryz.z58⟩
instance:TyE prog 58 [zdI,zdL,zdL]:=⟨dD Tryz.z58⟩
instance:TyB prog 58 [(0,1),(1,1),(2,1)]:=⟨_,underlying58,λw=>by kernel_rfl⟩
instance:TyF prog 58 0 0 3:=tyf 1 underlying58
instance:TyF prog 58 1 1 55:=tyf 1 underlying58
instance:TyF prog 58 2 2 56:=tyf 1 underlying58
instance:fU prog 60 14:=ma
theorem Tryz.z60:(prog.info? 60).map (·.zero)=ς (ς (.agg #[zvI,zvI,zvI,zvI,zvI,zvI,zvI,zvI,zvI,zvB,zvI,zvI,zvN,zvN])):=by kernel_rfl
instance:TyZ prog 60 [zcI,zcI,zcI,zcI,zcI,zcI,zcI,zcI,zcI,zcB,zcI,zcI,.nil,.nil]:=⟨dD Tryz.z60⟩
instance:TyE prog 60 [zdI,zdI,zdI,zdI,zdI,zdI,zdI,zdI,zdI,zdB,zdI,zdI,zdL,zdL]:=⟨dD Tryz.z60⟩
instance:TyB prog 60 [(0,4),(4,1),(5,1),(6,1),(7,1),(8,1),(9,1),(10,1),(11,3)]:=⟨_,underlying60,λw=>by kernel_rfl⟩
instance:TyF prog 60 0 0 54:=tyf 4 underlying60
instance:TyF prog 60 1 4 3:=tyf 1 underlying60
instance:TyF prog 60 2 5 3:=tyf 1 underlying60
instance:TyF prog 60 3 6 3:=tyf 1 underlying60
instance:TyF prog 60 4 7 3:=tyf 1 underlying60
instance:TyF prog 60 5 8 3:=tyf 1 underlying60
instance:TyF prog 60 6 9 4:=tyf 1 underlying60
instance:TyF prog 60 7 10 3:=tyf 1 underlying60
instance:TyF prog 60 8 11 58:=tyf 3 underlying60
instance:fU prog 64 4:=ma
theorem Tryz.z64:(prog.info? 64).map (·.zero)=ς (ς (.agg #[zvI,zvI,zvI,zvI])):=by kernel_rfl
instance:TyZ prog 64 [zcI,zcI,zcI,zcI]:=⟨dD Tryz.z64⟩
instance:TyE prog 64 [zdI,zdI,zdI,zdI]:=⟨dD Tryz.z64⟩
instance:TyB prog 64 [(0,2),(2,1),(3,1)]:=⟨_,underlying64,λw=>by kernel_rfl⟩
instance:TyF prog 64 0 0 52:=tyf 2 underlying64
instance:TyF prog 64 1 2 3:=tyf 1 underlying64
instance:TyF prog 64 2 3 3:=tyf 1 underlying64
instance:fU prog 66 4:=ma
theorem Tryz.z66:(prog.info? 66).map (·.zero)=ς (ς (.agg #[zvI,zvI,zvI,zvN])):=by kernel_rfl
instance:TyZ prog 66 [zcI,zcI,zcI,.nil]:=⟨dD Tryz.z66⟩
instance:TyE prog 66 [zdI,zdI,zdI,zdL]:=⟨dD Tryz.z66⟩
instance:TyB prog 66 [(0,1),(1,1),(2,1),(3,1)]:=⟨_,underlying66,λw=>by kernel_rfl⟩
instance:TyF prog 66 0 0 3:=tyf 1 underlying66
instance:TyF prog 66 1 1 3:=tyf 1 underlying66
instance:TyF prog 66 2 2 3:=tyf 1 underlying66
instance:TyF prog 66 3 3 45:=tyf 1 underlying66
instance:fU prog 68 5:=ma
theorem Tryz.z68:(prog.info? 68).map (·.zero)=ς (ς (.agg #[zvI,zvI,zvI,zvI,zvI])):=by kernel_rfl
instance:TyZ prog 68 [zcI,zcI,zcI,zcI,zcI]:=⟨dD Tryz.z68⟩
instance:TyE prog 68 [zdI,zdI,zdI,zdI,zdI]:=⟨dD Tryz.z68⟩
instance:TyB prog 68 [(0,1),(1,1),(2,1),(3,1),(4,1)]:=⟨_,underlying68,λw=>by kernel_rfl⟩
instance:TyF prog 68 0 0 3:=tyf 1 underlying68
instance:TyF prog 68 1 1 3:=tyf 1 underlying68
instance:TyF prog 68 2 2 3:=tyf 1 underlying68
instance:TyF prog 68 3 3 3:=tyf 1 underlying68
instance:TyF prog 68 4 4 3:=tyf 1 underlying68
instance:fU prog 70 3:=ma
theorem Tryz.z70:(prog.info? 70).map (·.zero)=ς (ς (.agg #[zvI,zvI,zvI])):=by kernel_rfl
instance:TyZ prog 70 [zcI,zcI,zcI]:=⟨dD Tryz.z70⟩
instance:TyE prog 70 [zdI,zdI,zdI]:=⟨dD Tryz.z70⟩
instance:TyB prog 70 [(0,1),(1,1),(2,1)]:=⟨_,underlying70,λw=>by kernel_rfl⟩
instance:TyF prog 70 0 0 3:=tyf 1 underlying70
instance:TyF prog 70 1 1 3:=tyf 1 underlying70
instance:TyF prog 70 2 2 3:=tyf 1 underlying70
instance:fU prog 72 2:=ma
theorem Tryz.z72:(prog.info? 72).map (·.zero)=ς (ς (.agg #[zvI,zvN])):=by kernel_rfl
instance:TyZ prog 72 [zcI,.nil]:=⟨dD Tryz.z72⟩
instance:TyE prog 72 [zdI,zdL]:=⟨dD Tryz.z72⟩
instance:TyB prog 72 [(0,1),(1,1)]:=⟨_,underlying72,λw=>by kernel_rfl⟩
instance:TyF prog 72 0 0 3:=tyf 1 underlying72
instance:TyF prog 72 1 1 55:=tyf 1 underlying72
instance:fU prog 74 3:=ma
theorem Tryz.z74:(prog.info? 74).map (·.zero)=ς (ς (.agg #[zvI,zvI,zvI])):=by kernel_rfl
instance:TyZ prog 74 [zcI,zcI,zcI]:=⟨dD Tryz.z74⟩
instance:TyE prog 74 [zdI,zdI,zdI]:=⟨dD Tryz.z74⟩
instance:TyB prog 74 [(0,1),(1,1),(2,1)]:=⟨_,underlying74,λw=>by kernel_rfl⟩
instance:TyF prog 74 0 0 3:=tyf 1 underlying74
instance:TyF prog 74 1 1 3:=tyf 1 underlying74
instance:TyF prog 74 2 2 3:=tyf 1 underlying74
instance:fU prog 76 30:=ma
theorem Tryz.z76:(prog.info? 76).map (·.zero)=ς (ς (.agg #[zvI,zvI,zvI,zvI,zvI,zvI,zvI,zvN,zvI,zvI,zvI,zvI,zvI,zvI,zvI,zvI,zvI,zvI,zvI,zvI,zvI,zvI,zvI,zvN,zvI,zvN,zvI,zvI,zvI,zvI])):=by kernel_rfl
instance:TyZ prog 76 [zcI,zcI,zcI,zcI,zcI,zcI,zcI,.nil,zcI,zcI,zcI,zcI,zcI,zcI,zcI,zcI,zcI,zcI,zcI,zcI,zcI,zcI,zcI,.nil,zcI,.nil,zcI,zcI,zcI,zcI]:=⟨dD Tryz.z76⟩
instance:TyE prog 76 [zdI,zdI,zdI,zdI,zdI,zdI,zdI,zdL,zdI,zdI,zdI,zdI,zdI,zdI,zdI,zdI,zdI,zdI,zdI,zdI,zdI,zdI,zdI,zdL,zdI,zdL,zdI,zdI,zdI,zdI]:=⟨dD Tryz.z76⟩
instance:TyB prog 76 [(0,4),(4,4),(8,1),(9,5),(14,1),(15,1),(16,1),(17,1),(18,1),(19,1),(20,3),(23,1),(24,2),(26,1),(27,3)]:=⟨_,underlying76,λw=>by kernel_rfl⟩
instance:TyF prog 76 0 0 64:=tyf 4 underlying76
instance:TyF prog 76 1 4 66:=tyf 4 underlying76
instance:TyF prog 76 2 8 3:=tyf 1 underlying76
instance:TyF prog 76 3 9 68:=tyf 5 underlying76
instance:TyF prog 76 4 14 3:=tyf 1 underlying76
instance:TyF prog 76 5 15 3:=tyf 1 underlying76
instance:TyF prog 76 6 16 3:=tyf 1 underlying76
instance:TyF prog 76 7 17 3:=tyf 1 underlying76
instance:TyF prog 76 8 18 3:=tyf 1 underlying76
instance:TyF prog 76 9 19 3:=tyf 1 underlying76
instance:TyF prog 76 10 20 70:=tyf 3 underlying76
instance:TyF prog 76 11 23 56:=tyf 1 underlying76
instance:TyF prog 76 12 24 72:=tyf 2 underlying76
instance:TyF prog 76 13 26 3:=tyf 1 underlying76
instance:TyF prog 76 14 27 74:=tyf 3 underlying76
instance:fU prog 79 11:=ma
theorem Tryz.z79:(prog.info? 79).map (·.zero)=ς (ς (.agg #[zvI,zvI,zvI,zvI,zvI,zvI,zvI,zvI,zvI,zvI,zvI])):=by kernel_rfl
instance:TyZ prog 79 [zcI,zcI,zcI,zcI,zcI,zcI,zcI,zcI,zcI,zcI,zcI]:=⟨dD Tryz.z79⟩
instance:TyE prog 79 [zdI,zdI,zdI,zdI,zdI,zdI,zdI,zdI,zdI,zdI,zdI]:=⟨dD Tryz.z79⟩
instance:TyB prog 79 [(0,1),(1,1),(2,1),(3,1),(4,1),(5,5),(10,1)]:=⟨_,underlying79,λw=>by kernel_rfl⟩
instance:TyF prog 79 0 0 3:=tyf 1 underlying79
instance:TyF prog 79 1 1 3:=tyf 1 underlying79
instance:TyF prog 79 2 2 3:=tyf 1 underlying79
instance:TyF prog 79 3 3 3:=tyf 1 underlying79
instance:TyF prog 79 4 4 3:=tyf 1 underlying79
instance:TyF prog 79 5 5 68:=tyf 5 underlying79
instance:TyF prog 79 6 10 3:=tyf 1 underlying79
instance:fU prog 81 4:=ma
theorem Tryz.z81:(prog.info? 81).map (·.zero)=ς (ς (.agg #[zvI,zvI,zvN,zvI])):=by kernel_rfl
instance:TyZ prog 81 [zcI,zcI,.nil,zcI]:=⟨dD Tryz.z81⟩
instance:TyE prog 81 [zdI,zdI,zdL,zdI]:=⟨dD Tryz.z81⟩
instance:TyB prog 81 [(0,1),(1,1),(2,1),(3,1)]:=⟨_,underlying81,λw=>by kernel_rfl⟩
instance:TyF prog 81 0 0 3:=tyf 1 underlying81
instance:TyF prog 81 1 1 3:=tyf 1 underlying81
instance:TyF prog 81 2 2 22:=tyf 1 underlying81
instance:TyF prog 81 3 3 3:=tyf 1 underlying81
instance:fU prog 83 6:=ma
theorem Tryz.z83:(prog.info? 83).map (·.zero)=ς (ς (.agg #[zvI,zvI,zvI,zvI,zvN,zvI])):=by kernel_rfl
instance:TyZ prog 83 [zcI,zcI,zcI,zcI,.nil,zcI]:=⟨dD Tryz.z83⟩
instance:TyE prog 83 [zdI,zdI,zdI,zdI,zdL,zdI]:=⟨dD Tryz.z83⟩
instance:TyB prog 83 [(0,1),(1,1),(2,4)]:=⟨_,underlying83,λw=>by kernel_rfl⟩
instance:TyF prog 83 0 0 3:=tyf 1 underlying83
instance:TyF prog 83 1 1 3:=tyf 1 underlying83
instance:TyF prog 83 2 2 81:=tyf 4 underlying83
instance:fU prog 85 21:=ma
theorem Tryz.z85:(prog.info? 85).map (·.zero)=ς (ς (.agg #[zvI,zvB,zvB,zvI,zvI,zvI,zvI,zvI,zvI,zvI,zvI,zvI,zvI,zvI,zvI,zvI,zvI,zvI,zvI,zvN,zvI])):=by kernel_rfl
instance:TyZ prog 85 [zcI,zcB,zcB,zcI,zcI,zcI,zcI,zcI,zcI,zcI,zcI,zcI,zcI,zcI,zcI,zcI,zcI,zcI,zcI,.nil,zcI]:=⟨dD Tryz.z85⟩
instance:TyE prog 85 [zdI,zdB,zdB,zdI,zdI,zdI,zdI,zdI,zdI,zdI,zdI,zdI,zdI,zdI,zdI,zdI,zdI,zdI,zdI,zdL,zdI]:=⟨dD Tryz.z85⟩
instance:TyB prog 85 [(0,1),(1,1),(2,1),(3,1),(4,11),(15,6)]:=⟨_,underlying85,λw=>by kernel_rfl⟩
instance:TyF prog 85 0 0 3:=tyf 1 underlying85
instance:TyF prog 85 1 1 4:=tyf 1 underlying85
instance:TyF prog 85 2 2 4:=tyf 1 underlying85
instance:TyF prog 85 3 3 3:=tyf 1 underlying85
instance:TyF prog 85 4 4 79:=tyf 11 underlying85
instance:TyF prog 85 5 15 83:=tyf 6 underlying85
instance:fU prog 99 2:=ma
theorem Tryz.z99:(prog.info? 99).map (·.zero)=ς (ς (.agg #[zvI,zvI])):=by kernel_rfl
instance:TyZ prog 99 [zcI,zcI]:=⟨dD Tryz.z99⟩
instance:TyE prog 99 [zdI,zdI]:=⟨dD Tryz.z99⟩
instance:TyB prog 99 [(0,1),(1,1)]:=⟨_,underlying99,λw=>by kernel_rfl⟩
instance:TyF prog 99 0 0 3:=tyf 1 underlying99
instance:TyF prog 99 1 1 3:=tyf 1 underlying99
instance:ic prog 100:=ta
theorem Tryz.z100:(prog.info? 100).map (·.zero)=ς (ς zvN):=by kernel_rfl
instance:TyZ prog 100 [.nil]:=⟨dD Tryz.z100⟩
instance:TyE prog 100 [zdL]:=⟨dD Tryz.z100⟩
instance:fU prog 115 3:=ma
theorem Tryz.z115:(prog.info? 115).map (·.zero)=ς (ς (.agg #[zvN,zvI,zvI])):=by kernel_rfl
instance:TyZ prog 115 [.nil,zcI,zcI]:=⟨dD Tryz.z115⟩
instance:TyE prog 115 [zdL,zdI,zdI]:=⟨dD Tryz.z115⟩
instance:TyB prog 115 [(0,1),(1,1),(2,1)]:=⟨_,underlying115,λw=>by kernel_rfl⟩
instance:TyF prog 115 0 0 22:=tyf 1 underlying115
instance:TyF prog 115 1 1 3:=tyf 1 underlying115
instance:TyF prog 115 2 2 3:=tyf 1 underlying115
instance:ic prog 129:=ta
theorem Tryz.z129:(prog.info? 129).map (·.zero)=ς (ς zvN):=by kernel_rfl
instance:TyZ prog 129 [.nil]:=⟨dD Tryz.z129⟩
instance:TyE prog 129 [zdL]:=⟨dD Tryz.z129⟩
instance:ic prog 149:=ta
theorem Tryz.z149:(prog.info? 149).map (·.zero)=ς (ς zvN):=by kernel_rfl
instance:TyZ prog 149 [.nil]:=⟨dD Tryz.z149⟩
instance:TyE prog 149 [zdL]:=⟨dD Tryz.z149⟩
instance:fU prog 151 15:=ma
theorem Tryz.z151:(prog.info? 151).map (·.zero)=ς (ς (.agg #[zvI,zvI,zvI,zvI,zvI,zvI,zvI,zvI,zvI,zvB,zvI,zvI,zvN,zvN,zvN])):=by kernel_rfl
instance:TyZ prog 151 [zcI,zcI,zcI,zcI,zcI,zcI,zcI,zcI,zcI,zcB,zcI,zcI,.nil,.nil,.nil]:=⟨dD Tryz.z151⟩
instance:TyE prog 151 [zdI,zdI,zdI,zdI,zdI,zdI,zdI,zdI,zdI,zdB,zdI,zdI,zdL,zdL,zdL]:=⟨dD Tryz.z151⟩
instance:TyB prog 151 [(0,14),(14,1)]:=⟨_,underlying151,λw=>by kernel_rfl⟩
instance:TyF prog 151 0 0 60:=tyf 14 underlying151
instance:TyF prog 151 1 14 149:=tyf 1 underlying151
instance:fU prog 163 2:=ma
theorem Tryz.z163:(prog.info? 163).map (·.zero)=ς (ς (.agg #[zvI,zvN])):=by kernel_rfl
instance:TyZ prog 163 [zcI,.nil]:=⟨dD Tryz.z163⟩
instance:TyE prog 163 [zdI,zdL]:=⟨dD Tryz.z163⟩
instance:TyB prog 163 [(0,1),(1,1)]:=⟨_,underlying163,λw=>by kernel_rfl⟩
instance:TyF prog 163 0 0 3:=tyf 1 underlying163
instance:TyF prog 163 1 1 22:=tyf 1 underlying163
instance:fU prog 171 31:=ma
theorem Tryz.z171:(prog.info? 171).map (·.zero)=ς (ς (.agg #[zvI,zvI,zvI,zvI,zvI,zvI,zvI,zvN,zvI,zvI,zvI,zvI,zvI,zvI,zvI,zvI,zvI,zvI,zvI,zvI,zvI,zvI,zvI,zvN,zvI,zvN,zvI,zvI,zvI,zvI,zvN])):=by kernel_rfl
instance:TyZ prog 171 [zcI,zcI,zcI,zcI,zcI,zcI,zcI,.nil,zcI,zcI,zcI,zcI,zcI,zcI,zcI,zcI,zcI,zcI,zcI,zcI,zcI,zcI,zcI,.nil,zcI,.nil,zcI,zcI,zcI,zcI,.nil]:=⟨dD Tryz.z171⟩
instance:TyE prog 171 [zdI,zdI,zdI,zdI,zdI,zdI,zdI,zdL,zdI,zdI,zdI,zdI,zdI,zdI,zdI,zdI,zdI,zdI,zdI,zdI,zdI,zdI,zdI,zdL,zdI,zdL,zdI,zdI,zdI,zdI,zdL]:=⟨dD Tryz.z171⟩
instance:TyB prog 171 [(0,30),(30,1)]:=⟨_,underlying171,λw=>by kernel_rfl⟩
instance:TyF prog 171 0 0 76:=tyf 30 underlying171
instance:TyF prog 171 1 30 149:=tyf 1 underlying171
instance:fU prog 176 1:=ma
theorem Tryz.z176:(prog.info? 176).map (·.zero)=ς (ς (.agg #[zvN])):=by kernel_rfl
instance:TyZ prog 176 [.nil]:=⟨dD Tryz.z176⟩
instance:TyE prog 176 [zdL]:=⟨dD Tryz.z176⟩
instance:TyB prog 176 [(0,1)]:=⟨_,underlying176,λw=>by kernel_rfl⟩
instance:TyF prog 176 0 0 22:=tyf 1 underlying176
instance:fU prog 182 25:=ma
theorem Tryz.z182:(prog.info? 182).map (·.zero)=ς (ς (.agg #[zvI,zvI,zvI,zvN,zvI,zvB,zvB,zvI,zvI,zvI,zvI,zvI,zvI,zvI,zvI,zvI,zvI,zvI,zvI,zvI,zvI,zvI,zvI,zvN,zvI])):=by kernel_rfl
instance:TyZ prog 182 [zcI,zcI,zcI,.nil,zcI,zcB,zcB,zcI,zcI,zcI,zcI,zcI,zcI,zcI,zcI,zcI,zcI,zcI,zcI,zcI,zcI,zcI,zcI,.nil,zcI]:=⟨dD Tryz.z182⟩
instance:TyE prog 182 [zdI,zdI,zdI,zdL,zdI,zdB,zdB,zdI,zdI,zdI,zdI,zdI,zdI,zdI,zdI,zdI,zdI,zdI,zdI,zdI,zdI,zdI,zdI,zdL,zdI]:=⟨dD Tryz.z182⟩
instance:TyB prog 182 [(0,1),(1,1),(2,1),(3,1),(4,21)]:=⟨_,underlying182,λw=>by kernel_rfl⟩
instance:TyF prog 182 0 0 3:=tyf 1 underlying182
instance:TyF prog 182 1 1 3:=tyf 1 underlying182
instance:TyF prog 182 2 2 3:=tyf 1 underlying182
instance:TyF prog 182 3 3 22:=tyf 1 underlying182
instance:TyF prog 182 4 4 85:=tyf 21 underlying182
instance:fU prog 190 2:=ma
theorem Tryz.z190:(prog.info? 190).map (·.zero)=ς (ς (.agg #[zvI,zvN])):=by kernel_rfl
instance:TyZ prog 190 [zcI,.nil]:=⟨dD Tryz.z190⟩
instance:TyE prog 190 [zdI,zdL]:=⟨dD Tryz.z190⟩
instance:TyB prog 190 [(0,1),(1,1)]:=⟨_,underlying190,λw=>by kernel_rfl⟩
instance:TyF prog 190 0 0 3:=tyf 1 underlying190
instance:TyF prog 190 1 1 45:=tyf 1 underlying190
instance:ic prog 218:=ta
theorem Tryz.z218:(prog.info? 218).map (·.zero)=ς (ς zvN):=by kernel_rfl
instance:TyZ prog 218 [.nil]:=⟨dD Tryz.z218⟩
instance:TyE prog 218 [zdL]:=⟨dD Tryz.z218⟩
instance:fU prog 236 4:=ma
theorem Tryz.z236:(prog.info? 236).map (·.zero)=ς (ς (.agg #[zvI,zvI,zvI,zvI])):=by kernel_rfl
instance:TyZ prog 236 [zcI,zcI,zcI,zcI]:=⟨dD Tryz.z236⟩
instance:TyE prog 236 [zdI,zdI,zdI,zdI]:=⟨dD Tryz.z236⟩
instance:TyB prog 236 [(0,1),(1,1),(2,1),(3,1)]:=⟨_,underlying236,λw=>by kernel_rfl⟩
instance:TyF prog 236 0 0 3:=tyf 1 underlying236
instance:TyF prog 236 1 1 3:=tyf 1 underlying236
instance:TyF prog 236 2 2 3:=tyf 1 underlying236
instance:TyF prog 236 3 3 3:=tyf 1 underlying236
instance:fU prog 242 1:=ma
theorem Tryz.z242:(prog.info? 242).map (·.zero)=ς (ς (.agg #[zvN])):=by kernel_rfl
instance:TyZ prog 242 [.nil]:=⟨dD Tryz.z242⟩
instance:TyE prog 242 [zdL]:=⟨dD Tryz.z242⟩
instance:TyB prog 242 [(0,1)]:=⟨_,underlying242,λw=>by kernel_rfl⟩
instance:TyF prog 242 0 0 45:=tyf 1 underlying242
instance:ic prog 263:=ta
theorem Tryz.z263:(prog.info? 263).map (·.zero)=ς (ς zvN):=by kernel_rfl
instance:TyZ prog 263 [.nil]:=⟨dD Tryz.z263⟩
instance:TyE prog 263 [zdL]:=⟨dD Tryz.z263⟩
instance:fU prog 265 36:=ma
theorem Tryz.z265:(prog.info? 265).map (·.zero)=ς (ς (.agg #[zvI,zvI,zvI,zvI,zvI,zvI,zvI,zvN,zvI,zvI,zvI,zvI,zvI,zvI,zvI,zvI,zvI,zvI,zvI,zvI,zvI,zvI,zvI,zvN,zvI,zvN,zvI,zvI,zvI,zvI,zvI,zvI,zvI,zvN,zvN,zvN])):=by kernel_rfl
instance:TyZ prog 265 [zcI,zcI,zcI,zcI,zcI,zcI,zcI,.nil,zcI,zcI,zcI,zcI,zcI,zcI,zcI,zcI,zcI,zcI,zcI,zcI,zcI,zcI,zcI,.nil,zcI,.nil,zcI,zcI,zcI,zcI,zcI,zcI,zcI,.nil,.nil,.nil]:=⟨dD Tryz.z265⟩
instance:TyE prog 265 [zdI,zdI,zdI,zdI,zdI,zdI,zdI,zdL,zdI,zdI,zdI,zdI,zdI,zdI,zdI,zdI,zdI,zdI,zdI,zdI,zdI,zdI,zdI,zdL,zdI,zdL,zdI,zdI,zdI,zdI,zdI,zdI,zdI,zdL,zdL,zdL]:=⟨dD Tryz.z265⟩
instance:TyB prog 265 [(0,30),(30,4),(34,1),(35,1)]:=⟨_,underlying265,λw=>by kernel_rfl⟩
instance:TyF prog 265 0 0 76:=tyf 30 underlying265
instance:TyF prog 265 1 30 26:=tyf 4 underlying265
instance:TyF prog 265 2 34 149:=tyf 1 underlying265
instance:TyF prog 265 3 35 263:=tyf 1 underlying265
theorem Tryz.sh5:uh prog 5 [.i .u8]:=.int underlying5
theorem Tryz.sh22:uh prog 22 [.l [.i .u8]]:=.slice underlying22 Tryz.sh5 (by kernel_rfl) (by decide)
theorem Tryz.eqa32:EqA prog 2 32 [.i .i64,.i .i64,.i .i64]:=gU (k:=1) underlying32 (by kernel_rfl) (gh rfl (by decide) inferInstance (dY underlying3) (gh rfl (by decide) inferInstance (dY underlying3) (gh rfl (by decide) inferInstance (dY underlying3) (mC))))
instance:wO prog 32 [.i .i64,.i .i64,.i .i64]:=⟨⟨2,by decide,Tryz.eqa32⟩,by kernel_rfl⟩
theorem Tryz.eqa41:EqA prog 2 41 [.i .i64,.i .i64]:=gU (k:=1) underlying41 (by kernel_rfl) (gh rfl (by decide) inferInstance (dY underlying3) (gh rfl (by decide) inferInstance (dY underlying3) (mC)))
instance:wO prog 41 [.i .i64,.i .i64]:=⟨⟨2,by decide,Tryz.eqa41⟩,by kernel_rfl⟩
theorem Tryz.eqa52:EqA prog 2 52 [.i .i64,.i .i64]:=gU (k:=1) underlying52 (by kernel_rfl) (gh rfl (by decide) inferInstance (dY underlying3) (gh rfl (by decide) inferInstance (dY underlying3) (mC)))
instance:wO prog 52 [.i .i64,.i .i64]:=⟨⟨2,by decide,Tryz.eqa52⟩,by kernel_rfl⟩
theorem Tryz.eqa54:EqA prog 3 54 [.i .i64,.i .i64,.i .i64,.i .i64]:=gU (k:=2) underlying54 (by kernel_rfl) (PT (n:=2) (s1:=[.i .i64,.i .i64]) rfl (by decide) inferInstance rfl (by decide) Tryz.eqa52 (gh rfl (by decide) inferInstance (dY underlying3) (gh rfl (by decide) inferInstance (dY underlying3) (mC))))
instance:wO prog 54 [.i .i64,.i .i64,.i .i64,.i .i64]:=⟨⟨3,by decide,Tryz.eqa54⟩,by kernel_rfl⟩
theorem Tryz.eqa64:EqA prog 3 64 [.i .i64,.i .i64,.i .i64,.i .i64]:=gU (k:=2) underlying64 (by kernel_rfl) (PT (n:=2) (s1:=[.i .i64,.i .i64]) rfl (by decide) inferInstance rfl (by decide) Tryz.eqa52 (gh rfl (by decide) inferInstance (dY underlying3) (gh rfl (by decide) inferInstance (dY underlying3) (mC))))
instance:wO prog 64 [.i .i64,.i .i64,.i .i64,.i .i64]:=⟨⟨3,by decide,Tryz.eqa64⟩,by kernel_rfl⟩
theorem Tryz.eqa68:EqA prog 2 68 [.i .i64,.i .i64,.i .i64,.i .i64,.i .i64]:=gU (k:=1) underlying68 (by kernel_rfl) (gh rfl (by decide) inferInstance (dY underlying3) (gh rfl (by decide) inferInstance (dY underlying3) (gh rfl (by decide) inferInstance (dY underlying3) (gh rfl (by decide) inferInstance (dY underlying3) (gh rfl (by decide) inferInstance (dY underlying3) (mC))))))
instance:wO prog 68 [.i .i64,.i .i64,.i .i64,.i .i64,.i .i64]:=⟨⟨2,by decide,Tryz.eqa68⟩,by kernel_rfl⟩
theorem Tryz.eqa70:EqA prog 2 70 [.i .i64,.i .i64,.i .i64]:=gU (k:=1) underlying70 (by kernel_rfl) (gh rfl (by decide) inferInstance (dY underlying3) (gh rfl (by decide) inferInstance (dY underlying3) (gh rfl (by decide) inferInstance (dY underlying3) (mC))))
instance:wO prog 70 [.i .i64,.i .i64,.i .i64]:=⟨⟨2,by decide,Tryz.eqa70⟩,by kernel_rfl⟩
theorem Tryz.eqa74:EqA prog 2 74 [.i .i64,.i .i64,.i .i64]:=gU (k:=1) underlying74 (by kernel_rfl) (gh rfl (by decide) inferInstance (dY underlying3) (gh rfl (by decide) inferInstance (dY underlying3) (gh rfl (by decide) inferInstance (dY underlying3) (mC))))
instance:wO prog 74 [.i .i64,.i .i64,.i .i64]:=⟨⟨2,by decide,Tryz.eqa74⟩,by kernel_rfl⟩
theorem Tryz.eqa79:EqA prog 3 79 [.i .i64,.i .i64,.i .i64,.i .i64,.i .i64,.i .i64,.i .i64,.i .i64,.i .i64,.i .i64,.i .i64]:=gU (k:=2) underlying79 (by kernel_rfl) (gh rfl (by decide) inferInstance (dY underlying3) (gh rfl (by decide) inferInstance (dY underlying3) (gh rfl (by decide) inferInstance (dY underlying3) (gh rfl (by decide) inferInstance (dY underlying3) (gh rfl (by decide) inferInstance (dY underlying3) (PT (n:=5) (s1:=[.i .i64,.i .i64,.i .i64,.i .i64,.i .i64]) rfl (by decide) inferInstance rfl (by decide) Tryz.eqa68 (gh rfl (by decide) inferInstance (dY underlying3) (mC))))))))
instance:wO prog 79 [.i .i64,.i .i64,.i .i64,.i .i64,.i .i64,.i .i64,.i .i64,.i .i64,.i .i64,.i .i64,.i .i64]:=⟨⟨3,by decide,Tryz.eqa79⟩,by kernel_rfl⟩
theorem Tryz.eqa99:EqA prog 2 99 [.i .i64,.i .i64]:=gU (k:=1) underlying99 (by kernel_rfl) (gh rfl (by decide) inferInstance (dY underlying3) (gh rfl (by decide) inferInstance (dY underlying3) (mC)))
instance:wO prog 99 [.i .i64,.i .i64]:=⟨⟨2,by decide,Tryz.eqa99⟩,by kernel_rfl⟩
theorem Tryz.eqa236:EqA prog 2 236 [.i .i64,.i .i64,.i .i64,.i .i64]:=gU (k:=1) underlying236 (by kernel_rfl) (gh rfl (by decide) inferInstance (dY underlying3) (gh rfl (by decide) inferInstance (dY underlying3) (gh rfl (by decide) inferInstance (dY underlying3) (gh rfl (by decide) inferInstance (dY underlying3) (mC)))))
instance:wO prog 236 [.i .i64,.i .i64,.i .i64,.i .i64]:=⟨⟨2,by decide,Tryz.eqa236⟩,by kernel_rfl⟩
theorem Tryz.follows:prog.follows .mixedOrders=true:=by kernel_rfl
instance:dB prog 22 5 1 1:=⟨underlying22,wZ Tryz.z5,by decide⟩
instance:dB prog 24 99 2 16:=⟨underlying24,wZ Tryz.z99,by decide⟩
instance:dB prog 28 32 3 24:=⟨underlying28,wZ Tryz.z32,by decide⟩
instance:dB prog 33 190 2 32:=⟨underlying33,wZ Tryz.z190,by decide⟩
instance:dB prog 36 60 14 144:=⟨underlying36,wZ Tryz.z60,by decide⟩
instance:dB prog 37 76 30 288:=⟨underlying37,wZ Tryz.z76,by decide⟩
instance:dB prog 38 26 4 48:=⟨underlying38,wZ Tryz.z26,by decide⟩
instance:dB prog 39 85 21 176:=⟨underlying39,wZ Tryz.z85,by decide⟩
instance:dB prog 45 3 1 8:=⟨underlying45,wZ Tryz.z3,by decide⟩
instance:dB prog 55 163 2 32:=⟨underlying55,wZ Tryz.z163,by decide⟩
instance:dB prog 56 176 1 24:=⟨underlying56,wZ Tryz.z176,by decide⟩
instance:dB prog 100 9 1 16:=⟨underlying100,wZ Tryz.z9,by decide⟩
instance:dB prog 129 182 25 224:=⟨underlying129,wZ Tryz.z182,by decide⟩
instance:dB prog 149 79 11 88:=⟨underlying149,wZ Tryz.z79,by decide⟩
instance:dB prog 218 64 4 32:=⟨underlying218,wZ Tryz.z64,by decide⟩
instance:dB prog 263 83 6 64:=⟨underlying263,wZ Tryz.z83,by decide⟩
structure aG where
 aH:Int
 dV:Int
 deriving DecidableEq,Inhabited
def bT(a:aG):List D:=[edI a.aH,edI a.dV]
structure an where
 fL:Int
 bN:Int
 fj:Int
 aC:List aG
 deriving DecidableEq,Inhabited
def dX(a:an):List D:=[edI a.fL,edI a.bN,edI a.fj,.l (a.aC.map bT)]
def du(a:an):List F:=[esI a.fL,esI a.bN,esI a.fj,.l 99 2 (a.aC.map bT) a.aC.length]
def tf:an:=⟨0,0,0,[]⟩
structure bV where
 GP:Int
 GO:Int
 dV:Int
 deriving DecidableEq,Inhabited
def fH(a:bV):List D:=[edI a.GP,edI a.GO,edI a.dV]
structure d6 where
 g9:Int
 di:List Int
 deriving DecidableEq,Inhabited
def fw(a:d6):List D:=[edI a.g9,.l (a.di.map eI)]
structure bi where
 bI:List d6
 deriving DecidableEq,Inhabited
def nR(a:bi):List D:=[.l (a.bI.map fw)]
def OH:bi:=⟨[]⟩
structure bQ where
 ia:Int
 fZ:Int
 deriving DecidableEq,Inhabited
def pb(a:bQ):List D:=[edI a.ia,edI a.fZ]
def mE(a:bQ):List F:=[esI a.ia,esI a.fZ]
def GL:bQ:=⟨0,0⟩
structure cG where
 dE:Int
 bZ:Int
 deriving DecidableEq,Inhabited
def mB(a:cG):List D:=[edI a.dE,edI a.bZ]
def BK(a:cG):List F:=[esI a.dE,esI a.bZ]
def vU:cG:=⟨0,0⟩
structure lj where
 ID:cG
 gS:Int
 dq:Int
 deriving DecidableEq,Inhabited
def Jx(a:lj):List D:=[edI a.ID.dE,edI a.ID.bZ,edI a.gS,edI a.dq]
def JA(a:lj):List F:=[esI a.ID.dE,esI a.ID.bZ,esI a.gS,esI a.dq]
def Ya:lj:=⟨vU,0,0⟩
structure ab where
 c9:Int
 bm:List Int
 deriving DecidableEq,Inhabited
def aY(a:ab):List D:=[edI a.c9,.l (a.bm.map eU8)]
def dR(a:ab):List F:=[esI a.c9,.l 5 1 (a.bm.map eU8) a.bm.length]
def kV:ab:=⟨0,[]⟩
structure b8 where
 bm:List Int
 deriving DecidableEq,Inhabited
def er(a:b8):List D:=[.l (a.bm.map eU8)]
structure aX where
 bF:Int
 aA:List ab
 a8:List b8
 deriving DecidableEq,Inhabited
def oX(a:aX):List D:=[edI a.bF,.l (a.aA.map aY),.l (a.a8.map er)]
def bP(a:aX):List F:=[esI a.bF,.l 163 2 (a.aA.map aY) a.aA.length,.l 176 1 (a.a8.map er) a.a8.length]
def ct:aX:=⟨0,[],[]⟩
structure ax where
 dZ:lj
 bB:Int
 bg:Int
 ag:Int
 bj:Int
 aZ:Int
 dx:Bool
 hP:Int
 bL:aX
 deriving DecidableEq,Inhabited
def eh(a:ax):List D:=[edI a.dZ.ID.dE,edI a.dZ.ID.bZ,edI a.dZ.gS,edI a.dZ.dq,edI a.bB,edI a.bg,edI a.ag,edI a.bj,edI a.aZ,.b a.dx,edI a.hP,edI a.bL.bF,.l (a.bL.aA.map aY),.l (a.bL.a8.map er)]
def fy(a:ax):List F:=[esI a.dZ.ID.dE,esI a.dZ.ID.bZ,esI a.dZ.gS,esI a.dZ.dq,esI a.bB,esI a.bg,esI a.ag,esI a.bj,esI a.aZ,.s (.b a.dx),esI a.hP,esI a.bL.bF,.l 163 2 (a.bL.aA.map aY) a.bL.aA.length,.l 176 1 (a.bL.a8.map er) a.bL.a8.length]
def Tk:ax:=⟨Ya,0,0,0,0,0,η,0,ct⟩
structure aP where
 ID:cG
 gS:Int
 c9:Int
 deriving DecidableEq,Inhabited
def eD(a:aP):List D:=[edI a.ID.dE,edI a.ID.bZ,edI a.gS,edI a.c9]
def pZ(a:aP):List F:=[esI a.ID.dE,esI a.ID.bZ,esI a.gS,esI a.c9]
def xV:aP:=⟨vU,0,0⟩
structure bY where
 me:Int
 mc:Int
 fF:Int
 bX:List Int
 deriving DecidableEq,Inhabited
def pV(a:bY):List D:=[edI a.me,edI a.mc,edI a.fF,.l (a.bX.map eI)]
def p3(a:bY):List F:=[esI a.me,esI a.mc,esI a.fF,.l 3 1 (a.bX.map eI) a.bX.length]
def C7:bY:=⟨0,0,0,[]⟩
structure cY where
 fT:Int
 ji:Int
 kf:Int
 uH:Int
 gS:Int
 deriving DecidableEq,Inhabited
def tz(a:cY):List D:=[edI a.fT,edI a.ji,edI a.kf,edI a.uH,edI a.gS]
def mD(a:cY):List F:=[esI a.fT,esI a.ji,esI a.kf,esI a.uH,esI a.gS]
def c8:cY:=⟨0,0,0,0,0⟩
structure dr where
 g9:Int
 fR:Int
 hP:Int
 deriving DecidableEq,Inhabited
def w7(a:dr):List D:=[edI a.g9,edI a.fR,edI a.hP]
def rP(a:dr):List F:=[esI a.g9,esI a.fR,esI a.hP]
def gM:dr:=⟨0,0,0⟩
structure be where
 bF:Int
 aM:List ab
 deriving DecidableEq,Inhabited
def mA(a:be):List D:=[edI a.bF,.l (a.aM.map aY)]
def dt(a:be):List F:=[esI a.bF,.l 163 2 (a.aM.map aY) a.aM.length]
def jx:be:=⟨0,[]⟩
structure dy where
 aH:Int
 cV:Int
 fK:Int
 deriving DecidableEq,Inhabited
def wc(a:dy):List D:=[edI a.aH,edI a.cV,edI a.fK]
def Fk(a:dy):List F:=[esI a.aH,esI a.cV,esI a.fK]
def MU:dy:=⟨0,0,0⟩
structure ah where
 b7:aP
 jj:bY
 bB:Int
 aA:cY
 bO:Int
 ag:Int
 bj:Int
 aZ:Int
 bg:Int
 eg:Int
 jn:dr
 aU:List b8
 aK:be
 d9:Int
 ci:dy
 deriving DecidableEq,Inhabited
def cQ(a:ah):List D:=[edI a.b7.ID.dE,edI a.b7.ID.bZ,edI a.b7.gS,edI a.b7.c9,edI a.jj.me,edI a.jj.mc,edI a.jj.fF,.l (a.jj.bX.map eI),edI a.bB,edI a.aA.fT,edI a.aA.ji,edI a.aA.kf,edI a.aA.uH,edI a.aA.gS,edI a.bO,edI a.ag,edI a.bj,edI a.aZ,edI a.bg,edI a.eg,edI a.jn.g9,edI a.jn.fR,edI a.jn.hP,.l (a.aU.map er),edI a.aK.bF,.l (a.aK.aM.map aY),edI a.d9,edI a.ci.aH,edI a.ci.cV,edI a.ci.fK]
def df(a:ah):List F:=[esI a.b7.ID.dE,esI a.b7.ID.bZ,esI a.b7.gS,esI a.b7.c9,esI a.jj.me,esI a.jj.mc,esI a.jj.fF,.l 3 1 (a.jj.bX.map eI) a.jj.bX.length,esI a.bB,esI a.aA.fT,esI a.aA.ji,esI a.aA.kf,esI a.aA.uH,esI a.aA.gS,esI a.bO,esI a.ag,esI a.bj,esI a.aZ,esI a.bg,esI a.eg,esI a.jn.g9,esI a.jn.fR,esI a.jn.hP,.l 176 1 (a.aU.map er) a.aU.length,esI a.aK.bF,.l 163 2 (a.aK.aM.map aY) a.aK.aM.length,esI a.d9,esI a.ci.aH,esI a.ci.cV,esI a.ci.fK]
def EF:ah:=⟨xV,C7,0,c8,0,0,0,0,0,0,gM,[],jx,0,MU⟩
structure aT where
 bp:Int
 bg:Int
 ag:Int
 aZ:Int
 bZ:Int
 cj:cY
 kf:Int
 deriving DecidableEq,Inhabited
def eM(a:aT):List D:=[edI a.bp,edI a.bg,edI a.ag,edI a.aZ,edI a.bZ,edI a.cj.fT,edI a.cj.ji,edI a.cj.kf,edI a.cj.uH,edI a.cj.gS,edI a.kf]
def i6(a:aT):List F:=[esI a.bp,esI a.bg,esI a.ag,esI a.aZ,esI a.bZ,esI a.cj.fT,esI a.cj.ji,esI a.cj.kf,esI a.cj.uH,esI a.cj.gS,esI a.kf]
def eB:aT:=⟨0,0,0,0,0,c8,0⟩
structure bC where
 dQ:Int
 eJ:Int
 bm:List Int
 kf:Int
 deriving DecidableEq,Inhabited
def gN(a:bC):List D:=[edI a.dQ,edI a.eJ,.l (a.bm.map eU8),edI a.kf]
def gO(a:bC):List F:=[esI a.dQ,esI a.eJ,.l 5 1 (a.bm.map eU8) a.bm.length,esI a.kf]
def fQ:bC:=⟨0,0,[],0⟩
structure aF where
 ag:Int
 aZ:Int
 bH:bC
 deriving DecidableEq,Inhabited
def ev(a:aF):List D:=[edI a.ag,edI a.aZ,edI a.bH.dQ,edI a.bH.eJ,.l (a.bH.bm.map eU8),edI a.bH.kf]
def gF(a:aF):List F:=[esI a.ag,esI a.aZ,esI a.bH.dQ,esI a.bH.eJ,.l 5 1 (a.bH.bm.map eU8) a.bH.bm.length,esI a.bH.kf]
def ez:aF:=⟨0,0,fQ⟩
structure bJ where
 bk:Int
 dm:Bool
 cS:Bool
 bg:Int
 bh:aT
 cA:aF
 deriving DecidableEq,Inhabited
def eW(a:bJ):List D:=[edI a.bk,.b a.dm,.b a.cS,edI a.bg,edI a.bh.bp,edI a.bh.bg,edI a.bh.ag,edI a.bh.aZ,edI a.bh.bZ,edI a.bh.cj.fT,edI a.bh.cj.ji,edI a.bh.cj.kf,edI a.bh.cj.uH,edI a.bh.cj.gS,edI a.bh.kf,edI a.cA.ag,edI a.cA.aZ,edI a.cA.bH.dQ,edI a.cA.bH.eJ,.l (a.cA.bH.bm.map eU8),edI a.cA.bH.kf]
def pY(a:bJ):List F:=[esI a.bk,.s (.b a.dm),.s (.b a.cS),esI a.bg,esI a.bh.bp,esI a.bh.bg,esI a.bh.ag,esI a.bh.aZ,esI a.bh.bZ,esI a.bh.cj.fT,esI a.bh.cj.ji,esI a.bh.cj.kf,esI a.bh.cj.uH,esI a.bh.cj.gS,esI a.bh.kf,esI a.cA.ag,esI a.cA.aZ,esI a.cA.bH.dQ,esI a.cA.bH.eJ,.l 5 1 (a.cA.bH.bm.map eU8) a.cA.bH.bm.length,esI a.cA.bH.kf]
def fN:bJ:=⟨0,η,η,0,eB,ez⟩
structure ae where
 d5:bi
 av:List ax
 aD:List ah
 bD:List an
 aV:List bJ
 cP:Int
 gT:bQ
 lI:Int
 Lost:Int
 deriving DecidableEq,Inhabited
def kK(a:ae):List D:=[.l (a.d5.bI.map fw),.l (a.av.map eh),.l (a.aD.map cQ),.l (a.bD.map dX),.l (a.aV.map eW),edI a.cP,edI a.gT.ia,edI a.gT.fZ,edI a.lI,edI a.Lost]
def bw(a:ae):List F:=[.l 190 2 (a.d5.bI.map fw) a.d5.bI.length,.l 60 14 (a.av.map eh) a.av.length,.l 76 30 (a.aD.map cQ) a.aD.length,.l 26 4 (a.bD.map dX) a.bD.length,.l 85 21 (a.aV.map eW) a.aV.length,esI a.cP,esI a.gT.ia,esI a.gT.fZ,esI a.lI,esI a.Lost]
def ec:ae:=⟨OH,[],[],[],[],0,GL,0,0⟩
structure aj where
 fb:List Int
 fi:Int
 fh:Int
 deriving DecidableEq,Inhabited
def T4(a:aj):List D:=[.l (a.fb.map eU8),edI a.fi,edI a.fh]
def aO(a:aj):List F:=[.l 5 1 (a.fb.map eU8) a.fb.length,esI a.fi,esI a.fh]
structure bv where
 bk:ax
 cT:List aT
 deriving DecidableEq,Inhabited
def eE(a:bv):List F:=[esI a.bk.dZ.ID.dE,esI a.bk.dZ.ID.bZ,esI a.bk.dZ.gS,esI a.bk.dZ.dq,esI a.bk.bB,esI a.bk.bg,esI a.bk.ag,esI a.bk.bj,esI a.bk.aZ,.s (.b a.bk.dx),esI a.bk.hP,esI a.bk.bL.bF,.l 163 2 (a.bk.bL.aA.map aY) a.bk.bL.aA.length,.l 176 1 (a.bk.bL.a8.map er) a.bk.bL.a8.length,.l 79 11 (a.cT.map eM) a.cT.length]
structure bU where
 bb:ah
 cT:List aT
 deriving DecidableEq,Inhabited
def gp(a:bU):List F:=[esI a.bb.b7.ID.dE,esI a.bb.b7.ID.bZ,esI a.bb.b7.gS,esI a.bb.b7.c9,esI a.bb.jj.me,esI a.bb.jj.mc,esI a.bb.jj.fF,.l 3 1 (a.bb.jj.bX.map eI) a.bb.jj.bX.length,esI a.bb.bB,esI a.bb.aA.fT,esI a.bb.aA.ji,esI a.bb.aA.kf,esI a.bb.aA.uH,esI a.bb.aA.gS,esI a.bb.bO,esI a.bb.ag,esI a.bb.bj,esI a.bb.aZ,esI a.bb.bg,esI a.bb.eg,esI a.bb.jn.g9,esI a.bb.jn.fR,esI a.bb.jn.hP,.l 176 1 (a.bb.aU.map er) a.bb.aU.length,esI a.bb.aK.bF,.l 163 2 (a.bb.aK.aM.map aY) a.bb.aK.aM.length,esI a.bb.d9,esI a.bb.ci.aH,esI a.bb.ci.cV,esI a.bb.ci.fK,.l 79 11 (a.cT.map eM) a.cT.length]
structure dF where
 bp:Int
 cZ:Int
 bg:Int
 bm:List Int
 bS:bJ
 deriving DecidableEq,Inhabited
def AF(a:dF):List D:=[edI a.bp,edI a.cZ,edI a.bg,.l (a.bm.map eU8),edI a.bS.bk,.b a.bS.dm,.b a.bS.cS,edI a.bS.bg,edI a.bS.bh.bp,edI a.bS.bh.bg,edI a.bS.bh.ag,edI a.bS.bh.aZ,edI a.bS.bh.bZ,edI a.bS.bh.cj.fT,edI a.bS.bh.cj.ji,edI a.bS.bh.cj.kf,edI a.bS.bh.cj.uH,edI a.bS.bh.cj.gS,edI a.bS.bh.kf,edI a.bS.cA.ag,edI a.bS.cA.aZ,edI a.bS.cA.bH.dQ,edI a.bS.cA.bH.eJ,.l (a.bS.cA.bH.bm.map eU8),edI a.bS.cA.bH.kf]
def jp(a:dF):List F:=[esI a.bp,esI a.cZ,esI a.bg,.l 5 1 (a.bm.map eU8) a.bm.length,esI a.bS.bk,.s (.b a.bS.dm),.s (.b a.bS.cS),esI a.bS.bg,esI a.bS.bh.bp,esI a.bS.bh.bg,esI a.bS.bh.ag,esI a.bS.bh.aZ,esI a.bS.bh.bZ,esI a.bS.bh.cj.fT,esI a.bS.bh.cj.ji,esI a.bS.bh.cj.kf,esI a.bS.bh.cj.uH,esI a.bS.bh.cj.gS,esI a.bS.bh.kf,esI a.bS.cA.ag,esI a.bS.cA.aZ,esI a.bS.cA.bH.dQ,esI a.bS.cA.bH.eJ,.l 5 1 (a.bS.cA.bH.bm.map eU8) a.bS.cA.bH.bm.length,esI a.bS.cA.bH.kf]
def dM:dF:=⟨0,0,0,[],fN⟩
structure oc where
 Code:Int
 uH:Int
 xp:Int
 Vs:Int
 deriving DecidableEq,Inhabited
def BJ(a:oc):List F:=[esI a.Code,esI a.uH,esI a.xp,esI a.Vs]
def kF:oc:=⟨0,0,0,0⟩
structure kj where
 Steps:List Int
 deriving DecidableEq,Inhabited
def Nc(a:kj):List D:=[.l (a.Steps.map eI)]
structure cp where
 bb:ah
 fk:an
 nJ:List aT
 cA:List aF
 deriving DecidableEq,Inhabited
def dH(a:cp):List F:=[esI a.bb.b7.ID.dE,esI a.bb.b7.ID.bZ,esI a.bb.b7.gS,esI a.bb.b7.c9,esI a.bb.jj.me,esI a.bb.jj.mc,esI a.bb.jj.fF,.l 3 1 (a.bb.jj.bX.map eI) a.bb.jj.bX.length,esI a.bb.bB,esI a.bb.aA.fT,esI a.bb.aA.ji,esI a.bb.aA.kf,esI a.bb.aA.uH,esI a.bb.aA.gS,esI a.bb.bO,esI a.bb.ag,esI a.bb.bj,esI a.bb.aZ,esI a.bb.bg,esI a.bb.eg,esI a.bb.jn.g9,esI a.bb.jn.fR,esI a.bb.jn.hP,.l 176 1 (a.bb.aU.map er) a.bb.aU.length,esI a.bb.aK.bF,.l 163 2 (a.bb.aK.aM.map aY) a.bb.aK.aM.length,esI a.bb.d9,esI a.bb.ci.aH,esI a.bb.ci.cV,esI a.bb.ci.fK,esI a.fk.fL,esI a.fk.bN,esI a.fk.fj,.l 99 2 (a.fk.aC.map bT) a.fk.aC.length,.l 79 11 (a.nJ.map eM) a.nJ.length,.l 83 6 (a.cA.map ev) a.cA.length]
def dT:cp:=⟨EF,tf,[],[]⟩
theorem Try.follows:prog.follows .mixedOrders=true:=Tryz.follows
end Go.AM
