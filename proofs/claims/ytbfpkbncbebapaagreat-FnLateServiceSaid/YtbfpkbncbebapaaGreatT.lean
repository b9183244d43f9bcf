/- A part. -/
import Derived.Test.YtbfpkbncbebapaaGreatE3
import Derived.Test.YtbfpkbncbebapaaGreatProg
set_option linter.unusedVariables false
set_option linter.unusedSimpArgs false
namespace Go.AM
open Go.Proofs
open Tryz
theorem XC {P:Program} {t:TypeId} {n:Nat} (h:(P.info? t).map (·.size)=some n):∃i,P.info? t=some i/\i.size=n:=by
 cases hi:P.info? t with
 |none=>simp[hi] at h
 |some i=>simp[hi] at h;exact⟨i,rfl,h⟩
theorem XD {P:Program} {t:TypeId} {z:Value} (h:(P.info? t).map (·.zero)=some (some z)):∃i,P.info? t=some i/\i.zero=some z:=by
 cases hi:P.info? t with
 |none=>simp[hi] at h
 |some i=>simp[hi] at h;exact⟨i,rfl,h⟩
theorem mC {P:Program} {t:TypeId} {z:Value} {n b:Nat} (h:(P.info? t).map (λi=>(i.size,i.bytes,i.zero))=some (n,b,some z)) (hz:z.cells.size=n):∃i z,P.info? t=some i/\i.size=n/\i.bytes=b/\i.zero=some z/\z.cells.size=n:=by
 cases hi:P.info? t with
 |none=>simp[hi] at h
 |some i=>simp[hi] at h;exact⟨i,z,rfl,h.1,h.2.1,h.2.2,hz⟩
theorem XB {P:Program} {t:TypeId} {n:Nat} (h:(P.info? t).map (·.size)=some n) (hn:n≠0):∃i,P.info? t=some i/\i.size≠0:=by
 cases hi:P.info? t with
 |none=>simp[hi] at h
 |some i=>simp[hi] at h;exact⟨i,rfl,by omega⟩
theorem dE {P:Program} {t:TypeId} {z:Value} {Q:Value->Prop} (h:(P.info? t).map (·.zero)=some (some z)) (q:Q z:=by exact rfl):∃i z,P.info? t=some i/\i.zero=some z/\Q z:=by
 obtain⟨i,h1,h2⟩:=XD h
 exact⟨i,_,h1,h2,q⟩
theorem dD {P:Program} {t:TypeId} {n:Nat} (h:(P.info? t).map (·.size)=some n:=by kernel_rfl):∃i,P.info? t=some i/\i.size=n:=XC h
theorem cY {P:Program} {t:TypeId} (n:Nat) (h:(P.info? t).map (·.size)=some n:=by kernel_rfl) (hn:n≠0:=by decide):∃i,P.info? t=some i/\i.size≠0:=XB h hn
instance:TyN prog 3 1:=⟨dD⟩
instance:TySc prog 3:=⟨λw=>by kernel_rfl,dD⟩
instance:TyU prog 3 (.int .i64):=⟨underlying3⟩
theorem Tryz.z3:(prog.info? 3).map (·.zero)=some (some (.int .i64 0)):=by kernel_rfl
instance:TyZ prog 3 [.d false (.i .i64 0)]:=⟨dE Tryz.z3⟩
instance:TyE prog 3 [.i .i64 0]:=⟨dE Tryz.z3⟩
instance:TyN prog 4 1:=⟨dD⟩
instance:TySc prog 4:=⟨λw=>by kernel_rfl,dD⟩
instance:TyU prog 4 (.bool):=⟨underlying4⟩
theorem Tryz.z4:(prog.info? 4).map (·.zero)=some (some (.bool false)):=by kernel_rfl
instance:TyZ prog 4 [.d false (.b false)]:=⟨dE Tryz.z4⟩
instance:TyE prog 4 [.b false]:=⟨dE Tryz.z4⟩
instance:TyN prog 5 1:=⟨dD⟩
instance:TySc prog 5:=⟨λw=>by kernel_rfl,dD⟩
instance:TyU prog 5 (.int .u8):=⟨underlying5⟩
theorem Tryz.z5:(prog.info? 5).map (·.zero)=some (some (.int .u8 0)):=by kernel_rfl
instance:TyZ prog 5 [.d false (.i .u8 0)]:=⟨dE Tryz.z5⟩
instance:TyE prog 5 [.i .u8 0]:=⟨dE Tryz.z5⟩
instance:TyN prog 9 1:=⟨dD⟩
instance:TySc prog 9:=⟨λw=>by kernel_rfl,dD⟩
instance:TyU prog 9 (.string):=⟨underlying9⟩
theorem Tryz.z9:(prog.info? 9).map (·.zero)=some (some (.string ⟨#[]⟩)):=by kernel_rfl
instance:TyZ prog 9 [.d false (.str ⟨#[]⟩)]:=⟨dE Tryz.z9⟩
instance:TyE prog 9 [.str ⟨#[]⟩]:=⟨dE Tryz.z9⟩
instance:TyN prog 22 1:=⟨dD⟩
instance:TySc prog 22:=⟨λw=>by kernel_rfl,dD⟩
theorem Tryz.z22:(prog.info? 22).map (·.zero)=some (some (.slice none 0 0)):=by kernel_rfl
instance:TyZ prog 22 [.nil]:=⟨dE Tryz.z22⟩
instance:TyE prog 22 [.l []]:=⟨dE Tryz.z22⟩
instance:TySl prog 22 5 1 1:=⟨underlying22,mC (z:=.int .u8 0) (by kernel_rfl) rfl,by decide⟩
instance:TyN prog 24 1:=⟨dD⟩
instance:TySc prog 24:=⟨λw=>by kernel_rfl,dD⟩
theorem Tryz.z24:(prog.info? 24).map (·.zero)=some (some (.slice none 0 0)):=by kernel_rfl
instance:TyZ prog 24 [.nil]:=⟨dE Tryz.z24⟩
instance:TyE prog 24 [.l []]:=⟨dE Tryz.z24⟩
instance:TySl prog 24 158 2 32:=⟨underlying24,mC (z:=.agg #[.int .i64 0,.slice none 0 0]) (by kernel_rfl) rfl,by decide⟩
instance:TyN prog 26 1:=⟨dD⟩
instance:TyAg prog 26 1:=⟨λw=>by kernel_rfl,dD⟩
theorem Tryz.z26:(prog.info? 26).map (·.zero)=some (some (.agg #[.slice none 0 0])):=by kernel_rfl
instance:TyZ prog 26 [.nil]:=⟨dE Tryz.z26⟩
instance:TyE prog 26 [.l []]:=⟨dE Tryz.z26⟩
instance:TyB prog 26 [(0,1)]:=⟨_,underlying26,λw=>by kernel_rfl⟩
instance:TyF prog 26 0 0 24:=⟨_,_,underlying26,rfl,rfl,rfl,cY 1⟩
instance:TyN prog 27 1:=⟨dD⟩
instance:TySc prog 27:=⟨λw=>by kernel_rfl,dD⟩
theorem Tryz.z27:(prog.info? 27).map (·.zero)=some (some (.slice none 0 0)):=by kernel_rfl
instance:TyZ prog 27 [.nil]:=⟨dE Tryz.z27⟩
instance:TyE prog 27 [.l []]:=⟨dE Tryz.z27⟩
instance:TySl prog 27 86 14 144:=⟨underlying27,mC (z:=.agg #[.int .i64 0,.int .i64 0,.int .i64 0,.int .i64 0,.int .i64 0,.int .i64 0,.int .i64 0,.int .i64 0,.int .i64 0,.bool false,.int .i64 0,.int .i64 0,.slice none 0 0,.slice none 0 0]) (by kernel_rfl) rfl,by decide⟩
instance:TyN prog 28 1:=⟨dD⟩
instance:TySc prog 28:=⟨λw=>by kernel_rfl,dD⟩
theorem Tryz.z28:(prog.info? 28).map (·.zero)=some (some (.slice none 0 0)):=by kernel_rfl
instance:TyZ prog 28 [.nil]:=⟨dE Tryz.z28⟩
instance:TyE prog 28 [.l []]:=⟨dE Tryz.z28⟩
instance:TySl prog 28 69 30 288:=⟨underlying28,mC (z:=.agg #[.int .i64 0,.int .i64 0,.int .i64 0,.int .i64 0,.int .i64 0,.int .i64 0,.int .i64 0,.slice none 0 0,.int .i64 0,.int .i64 0,.int .i64 0,.int .i64 0,.int .i64 0,.int .i64 0,.int .i64 0,.int .i64 0,.int .i64 0,.int .i64 0,.int .i64 0,.int .i64 0,.int .i64 0,.int .i64 0,.int .i64 0,.slice none 0 0,.int .i64 0,.slice none 0 0,.int .i64 0,.int .i64 0,.int .i64 0,.int .i64 0]) (by kernel_rfl) rfl,by decide⟩
instance:TyN prog 29 1:=⟨dD⟩
instance:TySc prog 29:=⟨λw=>by kernel_rfl,dD⟩
theorem Tryz.z29:(prog.info? 29).map (·.zero)=some (some (.slice none 0 0)):=by kernel_rfl
instance:TyZ prog 29 [.nil]:=⟨dE Tryz.z29⟩
instance:TyE prog 29 [.l []]:=⟨dE Tryz.z29⟩
instance:TySl prog 29 89 4 48:=⟨underlying29,mC (z:=.agg #[.int .i64 0,.int .i64 0,.int .i64 0,.slice none 0 0]) (by kernel_rfl) rfl,by decide⟩
instance:TyN prog 30 1:=⟨dD⟩
instance:TySc prog 30:=⟨λw=>by kernel_rfl,dD⟩
theorem Tryz.z30:(prog.info? 30).map (·.zero)=some (some (.slice none 0 0)):=by kernel_rfl
instance:TyZ prog 30 [.nil]:=⟨dE Tryz.z30⟩
instance:TyE prog 30 [.l []]:=⟨dE Tryz.z30⟩
instance:TySl prog 30 48 21 176:=⟨underlying30,mC (z:=.agg #[.int .i64 0,.bool false,.bool false,.int .i64 0,.int .i64 0,.int .i64 0,.int .i64 0,.int .i64 0,.int .i64 0,.int .i64 0,.int .i64 0,.int .i64 0,.int .i64 0,.int .i64 0,.int .i64 0,.int .i64 0,.int .i64 0,.int .i64 0,.int .i64 0,.slice none 0 0,.int .i64 0]) (by kernel_rfl) rfl,by decide⟩
instance:TyN prog 32 2:=⟨dD⟩
instance:TyAg prog 32 2:=⟨λw=>by kernel_rfl,dD⟩
theorem Tryz.z32:(prog.info? 32).map (·.zero)=some (some (.agg #[.int .i64 0,.int .i64 0])):=by kernel_rfl
instance:TyZ prog 32 [.d false (.i .i64 0),.d false (.i .i64 0)]:=⟨dE Tryz.z32⟩
instance:TyE prog 32 [.i .i64 0,.i .i64 0]:=⟨dE Tryz.z32⟩
instance:TyB prog 32 [(0,1),(1,1)]:=⟨_,underlying32,λw=>by kernel_rfl⟩
instance:TyF prog 32 0 0 3:=⟨_,_,underlying32,rfl,rfl,rfl,cY 1⟩
instance:TyF prog 32 1 1 3:=⟨_,_,underlying32,rfl,rfl,rfl,cY 1⟩
instance:TyN prog 34 10:=⟨dD⟩
instance:TyAg prog 34 10:=⟨λw=>by kernel_rfl,dD⟩
theorem Tryz.z34:(prog.info? 34).map (·.zero)=some (some (.agg #[.slice none 0 0,.slice none 0 0,.slice none 0 0,.slice none 0 0,.slice none 0 0,.int .i64 0,.int .i64 0,.int .i64 0,.int .i64 0,.int .i64 0])):=by kernel_rfl
instance:TyZ prog 34 [.nil,.nil,.nil,.nil,.nil,.d false (.i .i64 0),.d false (.i .i64 0),.d false (.i .i64 0),.d false (.i .i64 0),.d false (.i .i64 0)]:=⟨dE Tryz.z34⟩
instance:TyE prog 34 [.l [],.l [],.l [],.l [],.l [],.i .i64 0,.i .i64 0,.i .i64 0,.i .i64 0,.i .i64 0]:=⟨dE Tryz.z34⟩
instance:TyB prog 34 [(0,1),(1,1),(2,1),(3,1),(4,1),(5,1),(6,2),(8,1),(9,1)]:=⟨_,underlying34,λw=>by kernel_rfl⟩
instance:TyF prog 34 0 0 26:=⟨_,_,underlying34,rfl,rfl,rfl,cY 1⟩
instance:TyF prog 34 1 1 27:=⟨_,_,underlying34,rfl,rfl,rfl,cY 1⟩
instance:TyF prog 34 2 2 28:=⟨_,_,underlying34,rfl,rfl,rfl,cY 1⟩
instance:TyF prog 34 3 3 29:=⟨_,_,underlying34,rfl,rfl,rfl,cY 1⟩
instance:TyF prog 34 4 4 30:=⟨_,_,underlying34,rfl,rfl,rfl,cY 1⟩
instance:TyF prog 34 5 5 3:=⟨_,_,underlying34,rfl,rfl,rfl,cY 1⟩
instance:TyF prog 34 6 6 32:=⟨_,_,underlying34,rfl,rfl,rfl,cY 2⟩
instance:TyF prog 34 7 8 3:=⟨_,_,underlying34,rfl,rfl,rfl,cY 1⟩
instance:TyF prog 34 8 9 3:=⟨_,_,underlying34,rfl,rfl,rfl,cY 1⟩
instance:TyN prog 40 5:=⟨dD⟩
instance:TyAg prog 40 5:=⟨λw=>by kernel_rfl,dD⟩
theorem Tryz.z40:(prog.info? 40).map (·.zero)=some (some (.agg #[.int .i64 0,.int .i64 0,.int .i64 0,.int .i64 0,.int .i64 0])):=by kernel_rfl
instance:TyZ prog 40 [.d false (.i .i64 0),.d false (.i .i64 0),.d false (.i .i64 0),.d false (.i .i64 0),.d false (.i .i64 0)]:=⟨dE Tryz.z40⟩
instance:TyE prog 40 [.i .i64 0,.i .i64 0,.i .i64 0,.i .i64 0,.i .i64 0]:=⟨dE Tryz.z40⟩
instance:TyB prog 40 [(0,1),(1,1),(2,1),(3,1),(4,1)]:=⟨_,underlying40,λw=>by kernel_rfl⟩
instance:TyF prog 40 0 0 3:=⟨_,_,underlying40,rfl,rfl,rfl,cY 1⟩
instance:TyF prog 40 1 1 3:=⟨_,_,underlying40,rfl,rfl,rfl,cY 1⟩
instance:TyF prog 40 2 2 3:=⟨_,_,underlying40,rfl,rfl,rfl,cY 1⟩
instance:TyF prog 40 3 3 3:=⟨_,_,underlying40,rfl,rfl,rfl,cY 1⟩
instance:TyF prog 40 4 4 3:=⟨_,_,underlying40,rfl,rfl,rfl,cY 1⟩
instance:TyN prog 42 11:=⟨dD⟩
instance:TyAg prog 42 11:=⟨λw=>by kernel_rfl,dD⟩
theorem Tryz.z42:(prog.info? 42).map (·.zero)=some (some (.agg #[.int .i64 0,.int .i64 0,.int .i64 0,.int .i64 0,.int .i64 0,.int .i64 0,.int .i64 0,.int .i64 0,.int .i64 0,.int .i64 0,.int .i64 0])):=by kernel_rfl
instance:TyZ prog 42 [.d false (.i .i64 0),.d false (.i .i64 0),.d false (.i .i64 0),.d false (.i .i64 0),.d false (.i .i64 0),.d false (.i .i64 0),.d false (.i .i64 0),.d false (.i .i64 0),.d false (.i .i64 0),.d false (.i .i64 0),.d false (.i .i64 0)]:=⟨dE Tryz.z42⟩
instance:TyE prog 42 [.i .i64 0,.i .i64 0,.i .i64 0,.i .i64 0,.i .i64 0,.i .i64 0,.i .i64 0,.i .i64 0,.i .i64 0,.i .i64 0,.i .i64 0]:=⟨dE Tryz.z42⟩
instance:TyB prog 42 [(0,1),(1,1),(2,1),(3,1),(4,1),(5,5),(10,1)]:=⟨_,underlying42,λw=>by kernel_rfl⟩
instance:TyF prog 42 0 0 3:=⟨_,_,underlying42,rfl,rfl,rfl,cY 1⟩
instance:TyF prog 42 1 1 3:=⟨_,_,underlying42,rfl,rfl,rfl,cY 1⟩
instance:TyF prog 42 2 2 3:=⟨_,_,underlying42,rfl,rfl,rfl,cY 1⟩
instance:TyF prog 42 3 3 3:=⟨_,_,underlying42,rfl,rfl,rfl,cY 1⟩
instance:TyF prog 42 4 4 3:=⟨_,_,underlying42,rfl,rfl,rfl,cY 1⟩
instance:TyF prog 42 5 5 40:=⟨_,_,underlying42,rfl,rfl,rfl,cY 5⟩
instance:TyF prog 42 6 10 3:=⟨_,_,underlying42,rfl,rfl,rfl,cY 1⟩
instance:TyN prog 44 4:=⟨dD⟩
instance:TyAg prog 44 4:=⟨λw=>by kernel_rfl,dD⟩
theorem Tryz.z44:(prog.info? 44).map (·.zero)=some (some (.agg #[.int .i64 0,.int .i64 0,.slice none 0 0,.int .i64 0])):=by kernel_rfl
instance:TyZ prog 44 [.d false (.i .i64 0),.d false (.i .i64 0),.nil,.d false (.i .i64 0)]:=⟨dE Tryz.z44⟩
instance:TyE prog 44 [.i .i64 0,.i .i64 0,.l [],.i .i64 0]:=⟨dE Tryz.z44⟩
instance:TyB prog 44 [(0,1),(1,1),(2,1),(3,1)]:=⟨_,underlying44,λw=>by kernel_rfl⟩
instance:TyF prog 44 0 0 3:=⟨_,_,underlying44,rfl,rfl,rfl,cY 1⟩
instance:TyF prog 44 1 1 3:=⟨_,_,underlying44,rfl,rfl,rfl,cY 1⟩
instance:TyF prog 44 2 2 22:=⟨_,_,underlying44,rfl,rfl,rfl,cY 1⟩
instance:TyF prog 44 3 3 3:=⟨_,_,underlying44,rfl,rfl,rfl,cY 1⟩
instance:TyN prog 46 6:=⟨dD⟩
instance:TyAg prog 46 6:=⟨λw=>by kernel_rfl,dD⟩
theorem Tryz.z46:(prog.info? 46).map (·.zero)=some (some (.agg #[.int .i64 0,.int .i64 0,.int .i64 0,.int .i64 0,.slice none 0 0,.int .i64 0])):=by kernel_rfl
instance:TyZ prog 46 [.d false (.i .i64 0),.d false (.i .i64 0),.d false (.i .i64 0),.d false (.i .i64 0),.nil,.d false (.i .i64 0)]:=⟨dE Tryz.z46⟩
instance:TyE prog 46 [.i .i64 0,.i .i64 0,.i .i64 0,.i .i64 0,.l [],.i .i64 0]:=⟨dE Tryz.z46⟩
instance:TyB prog 46 [(0,1),(1,1),(2,4)]:=⟨_,underlying46,λw=>by kernel_rfl⟩
instance:TyF prog 46 0 0 3:=⟨_,_,underlying46,rfl,rfl,rfl,cY 1⟩
instance:TyF prog 46 1 1 3:=⟨_,_,underlying46,rfl,rfl,rfl,cY 1⟩
instance:TyF prog 46 2 2 44:=⟨_,_,underlying46,rfl,rfl,rfl,cY 4⟩
instance:TyN prog 48 21:=⟨dD⟩
instance:TyAg prog 48 21:=⟨λw=>by kernel_rfl,dD⟩
theorem Tryz.z48:(prog.info? 48).map (·.zero)=some (some (.agg #[.int .i64 0,.bool false,.bool false,.int .i64 0,.int .i64 0,.int .i64 0,.int .i64 0,.int .i64 0,.int .i64 0,.int .i64 0,.int .i64 0,.int .i64 0,.int .i64 0,.int .i64 0,.int .i64 0,.int .i64 0,.int .i64 0,.int .i64 0,.int .i64 0,.slice none 0 0,.int .i64 0])):=by kernel_rfl
instance:TyZ prog 48 [.d false (.i .i64 0),.d false (.b false),.d false (.b false),.d false (.i .i64 0),.d false (.i .i64 0),.d false (.i .i64 0),.d false (.i .i64 0),.d false (.i .i64 0),.d false (.i .i64 0),.d false (.i .i64 0),.d false (.i .i64 0),.d false (.i .i64 0),.d false (.i .i64 0),.d false (.i .i64 0),.d false (.i .i64 0),.d false (.i .i64 0),.d false (.i .i64 0),.d false (.i .i64 0),.d false (.i .i64 0),.nil,.d false (.i .i64 0)]:=⟨dE Tryz.z48⟩
instance:TyE prog 48 [.i .i64 0,.b false,.b false,.i .i64 0,.i .i64 0,.i .i64 0,.i .i64 0,.i .i64 0,.i .i64 0,.i .i64 0,.i .i64 0,.i .i64 0,.i .i64 0,.i .i64 0,.i .i64 0,.i .i64 0,.i .i64 0,.i .i64 0,.i .i64 0,.l [],.i .i64 0]:=⟨dE Tryz.z48⟩
instance:TyB prog 48 [(0,1),(1,1),(2,1),(3,1),(4,11),(15,6)]:=⟨_,underlying48,λw=>by kernel_rfl⟩
instance:TyF prog 48 0 0 3:=⟨_,_,underlying48,rfl,rfl,rfl,cY 1⟩
instance:TyF prog 48 1 1 4:=⟨_,_,underlying48,rfl,rfl,rfl,cY 1⟩
instance:TyF prog 48 2 2 4:=⟨_,_,underlying48,rfl,rfl,rfl,cY 1⟩
instance:TyF prog 48 3 3 3:=⟨_,_,underlying48,rfl,rfl,rfl,cY 1⟩
instance:TyF prog 48 4 4 42:=⟨_,_,underlying48,rfl,rfl,rfl,cY 11⟩
instance:TyF prog 48 5 15 46:=⟨_,_,underlying48,rfl,rfl,rfl,cY 6⟩
instance:TyN prog 50 25:=⟨dD⟩
instance:TyAg prog 50 25:=⟨λw=>by kernel_rfl,dD⟩
theorem Tryz.z50:(prog.info? 50).map (·.zero)=some (some (.agg #[.int .i64 0,.int .i64 0,.int .i64 0,.slice none 0 0,.int .i64 0,.bool false,.bool false,.int .i64 0,.int .i64 0,.int .i64 0,.int .i64 0,.int .i64 0,.int .i64 0,.int .i64 0,.int .i64 0,.int .i64 0,.int .i64 0,.int .i64 0,.int .i64 0,.int .i64 0,.int .i64 0,.int .i64 0,.int .i64 0,.slice none 0 0,.int .i64 0])):=by kernel_rfl
instance:TyZ prog 50 [.d false (.i .i64 0),.d false (.i .i64 0),.d false (.i .i64 0),.nil,.d false (.i .i64 0),.d false (.b false),.d false (.b false),.d false (.i .i64 0),.d false (.i .i64 0),.d false (.i .i64 0),.d false (.i .i64 0),.d false (.i .i64 0),.d false (.i .i64 0),.d false (.i .i64 0),.d false (.i .i64 0),.d false (.i .i64 0),.d false (.i .i64 0),.d false (.i .i64 0),.d false (.i .i64 0),.d false (.i .i64 0),.d false (.i .i64 0),.d false (.i .i64 0),.d false (.i .i64 0),.nil,.d false (.i .i64 0)]:=⟨dE Tryz.z50⟩
instance:TyE prog 50 [.i .i64 0,.i .i64 0,.i .i64 0,.l [],.i .i64 0,.b false,.b false,.i .i64 0,.i .i64 0,.i .i64 0,.i .i64 0,.i .i64 0,.i .i64 0,.i .i64 0,.i .i64 0,.i .i64 0,.i .i64 0,.i .i64 0,.i .i64 0,.i .i64 0,.i .i64 0,.i .i64 0,.i .i64 0,.l [],.i .i64 0]:=⟨dE Tryz.z50⟩
instance:TyB prog 50 [(0,1),(1,1),(2,1),(3,1),(4,21)]:=⟨_,underlying50,λw=>by kernel_rfl⟩
instance:TyF prog 50 0 0 3:=⟨_,_,underlying50,rfl,rfl,rfl,cY 1⟩
instance:TyF prog 50 1 1 3:=⟨_,_,underlying50,rfl,rfl,rfl,cY 1⟩
instance:TyF prog 50 2 2 3:=⟨_,_,underlying50,rfl,rfl,rfl,cY 1⟩
instance:TyF prog 50 3 3 22:=⟨_,_,underlying50,rfl,rfl,rfl,cY 1⟩
instance:TyF prog 50 4 4 48:=⟨_,_,underlying50,rfl,rfl,rfl,cY 21⟩
instance:TyN prog 54 2:=⟨dD⟩
instance:TyAg prog 54 2:=⟨λw=>by kernel_rfl,dD⟩
theorem Tryz.z54:(prog.info? 54).map (·.zero)=some (some (.agg #[.int .i64 0,.int .i64 0])):=by kernel_rfl
instance:TyZ prog 54 [.d false (.i .i64 0),.d false (.i .i64 0)]:=⟨dE Tryz.z54⟩
instance:TyE prog 54 [.i .i64 0,.i .i64 0]:=⟨dE Tryz.z54⟩
instance:TyB prog 54 [(0,1),(1,1)]:=⟨_,underlying54,λw=>by kernel_rfl⟩
instance:TyF prog 54 0 0 3:=⟨_,_,underlying54,rfl,rfl,rfl,cY 1⟩
instance:TyF prog 54 1 1 3:=⟨_,_,underlying54,rfl,rfl,rfl,cY 1⟩
instance:TyN prog 56 4:=⟨dD⟩
instance:TyAg prog 56 4:=⟨λw=>by kernel_rfl,dD⟩
theorem Tryz.z56:(prog.info? 56).map (·.zero)=some (some (.agg #[.int .i64 0,.int .i64 0,.int .i64 0,.int .i64 0])):=by kernel_rfl
instance:TyZ prog 56 [.d false (.i .i64 0),.d false (.i .i64 0),.d false (.i .i64 0),.d false (.i .i64 0)]:=⟨dE Tryz.z56⟩
instance:TyE prog 56 [.i .i64 0,.i .i64 0,.i .i64 0,.i .i64 0]:=⟨dE Tryz.z56⟩
instance:TyB prog 56 [(0,2),(2,1),(3,1)]:=⟨_,underlying56,λw=>by kernel_rfl⟩
instance:TyF prog 56 0 0 54:=⟨_,_,underlying56,rfl,rfl,rfl,cY 2⟩
instance:TyF prog 56 1 2 3:=⟨_,_,underlying56,rfl,rfl,rfl,cY 1⟩
instance:TyF prog 56 2 3 3:=⟨_,_,underlying56,rfl,rfl,rfl,cY 1⟩
instance:TyN prog 57 1:=⟨dD⟩
instance:TySc prog 57:=⟨λw=>by kernel_rfl,dD⟩
theorem Tryz.z57:(prog.info? 57).map (·.zero)=some (some (.slice none 0 0)):=by kernel_rfl
instance:TyZ prog 57 [.nil]:=⟨dE Tryz.z57⟩
instance:TyE prog 57 [.l []]:=⟨dE Tryz.z57⟩
instance:TySl prog 57 3 1 8:=⟨underlying57,mC (z:=.int .i64 0) (by kernel_rfl) rfl,by decide⟩
instance:TyN prog 59 4:=⟨dD⟩
instance:TyAg prog 59 4:=⟨λw=>by kernel_rfl,dD⟩
theorem Tryz.z59:(prog.info? 59).map (·.zero)=some (some (.agg #[.int .i64 0,.int .i64 0,.int .i64 0,.slice none 0 0])):=by kernel_rfl
instance:TyZ prog 59 [.d false (.i .i64 0),.d false (.i .i64 0),.d false (.i .i64 0),.nil]:=⟨dE Tryz.z59⟩
instance:TyE prog 59 [.i .i64 0,.i .i64 0,.i .i64 0,.l []]:=⟨dE Tryz.z59⟩
instance:TyB prog 59 [(0,1),(1,1),(2,1),(3,1)]:=⟨_,underlying59,λw=>by kernel_rfl⟩
instance:TyF prog 59 0 0 3:=⟨_,_,underlying59,rfl,rfl,rfl,cY 1⟩
instance:TyF prog 59 1 1 3:=⟨_,_,underlying59,rfl,rfl,rfl,cY 1⟩
instance:TyF prog 59 2 2 3:=⟨_,_,underlying59,rfl,rfl,rfl,cY 1⟩
instance:TyF prog 59 3 3 57:=⟨_,_,underlying59,rfl,rfl,rfl,cY 1⟩
instance:TyN prog 61 3:=⟨dD⟩
instance:TyAg prog 61 3:=⟨λw=>by kernel_rfl,dD⟩
theorem Tryz.z61:(prog.info? 61).map (·.zero)=some (some (.agg #[.int .i64 0,.int .i64 0,.int .i64 0])):=by kernel_rfl
instance:TyZ prog 61 [.d false (.i .i64 0),.d false (.i .i64 0),.d false (.i .i64 0)]:=⟨dE Tryz.z61⟩
instance:TyE prog 61 [.i .i64 0,.i .i64 0,.i .i64 0]:=⟨dE Tryz.z61⟩
instance:TyB prog 61 [(0,1),(1,1),(2,1)]:=⟨_,underlying61,λw=>by kernel_rfl⟩
instance:TyF prog 61 0 0 3:=⟨_,_,underlying61,rfl,rfl,rfl,cY 1⟩
instance:TyF prog 61 1 1 3:=⟨_,_,underlying61,rfl,rfl,rfl,cY 1⟩
instance:TyF prog 61 2 2 3:=⟨_,_,underlying61,rfl,rfl,rfl,cY 1⟩
instance:TyN prog 62 1:=⟨dD⟩
instance:TySc prog 62:=⟨λw=>by kernel_rfl,dD⟩
theorem Tryz.z62:(prog.info? 62).map (·.zero)=some (some (.slice none 0 0)):=by kernel_rfl
instance:TyZ prog 62 [.nil]:=⟨dE Tryz.z62⟩
instance:TyE prog 62 [.l []]:=⟨dE Tryz.z62⟩
instance:TySl prog 62 125 1 24:=⟨underlying62,mC (z:=.agg #[.slice none 0 0]) (by kernel_rfl) rfl,by decide⟩
instance:TyN prog 63 1:=⟨dD⟩
instance:TySc prog 63:=⟨λw=>by kernel_rfl,dD⟩
theorem Tryz.z63:(prog.info? 63).map (·.zero)=some (some (.slice none 0 0)):=by kernel_rfl
instance:TyZ prog 63 [.nil]:=⟨dE Tryz.z63⟩
instance:TyE prog 63 [.l []]:=⟨dE Tryz.z63⟩
instance:TySl prog 63 144 2 32:=⟨underlying63,mC (z:=.agg #[.int .i64 0,.slice none 0 0]) (by kernel_rfl) rfl,by decide⟩
instance:TyN prog 65 2:=⟨dD⟩
instance:TyAg prog 65 2:=⟨λw=>by kernel_rfl,dD⟩
theorem Tryz.z65:(prog.info? 65).map (·.zero)=some (some (.agg #[.int .i64 0,.slice none 0 0])):=by kernel_rfl
instance:TyZ prog 65 [.d false (.i .i64 0),.nil]:=⟨dE Tryz.z65⟩
instance:TyE prog 65 [.i .i64 0,.l []]:=⟨dE Tryz.z65⟩
instance:TyB prog 65 [(0,1),(1,1)]:=⟨_,underlying65,λw=>by kernel_rfl⟩
instance:TyF prog 65 0 0 3:=⟨_,_,underlying65,rfl,rfl,rfl,cY 1⟩
instance:TyF prog 65 1 1 63:=⟨_,_,underlying65,rfl,rfl,rfl,cY 1⟩
instance:TyN prog 67 3:=⟨dD⟩
instance:TyAg prog 67 3:=⟨λw=>by kernel_rfl,dD⟩
theorem Tryz.z67:(prog.info? 67).map (·.zero)=some (some (.agg #[.int .i64 0,.int .i64 0,.int .i64 0])):=by kernel_rfl
instance:TyZ prog 67 [.d false (.i .i64 0),.d false (.i .i64 0),.d false (.i .i64 0)]:=⟨dE Tryz.z67⟩
instance:TyE prog 67 [.i .i64 0,.i .i64 0,.i .i64 0]:=⟨dE Tryz.z67⟩
instance:TyB prog 67 [(0,1),(1,1),(2,1)]:=⟨_,underlying67,λw=>by kernel_rfl⟩
instance:TyF prog 67 0 0 3:=⟨_,_,underlying67,rfl,rfl,rfl,cY 1⟩
instance:TyF prog 67 1 1 3:=⟨_,_,underlying67,rfl,rfl,rfl,cY 1⟩
instance:TyF prog 67 2 2 3:=⟨_,_,underlying67,rfl,rfl,rfl,cY 1⟩
instance:TyN prog 69 30:=⟨dD⟩
instance:TyAg prog 69 30:=⟨λw=>by kernel_rfl,dD⟩
theorem Tryz.z69:(prog.info? 69).map (·.zero)=some (some (.agg #[.int .i64 0,.int .i64 0,.int .i64 0,.int .i64 0,.int .i64 0,.int .i64 0,.int .i64 0,.slice none 0 0,.int .i64 0,.int .i64 0,.int .i64 0,.int .i64 0,.int .i64 0,.int .i64 0,.int .i64 0,.int .i64 0,.int .i64 0,.int .i64 0,.int .i64 0,.int .i64 0,.int .i64 0,.int .i64 0,.int .i64 0,.slice none 0 0,.int .i64 0,.slice none 0 0,.int .i64 0,.int .i64 0,.int .i64 0,.int .i64 0])):=by kernel_rfl
instance:TyZ prog 69 [.d false (.i .i64 0),.d false (.i .i64 0),.d false (.i .i64 0),.d false (.i .i64 0),.d false (.i .i64 0),.d false (.i .i64 0),.d false (.i .i64 0),.nil,.d false (.i .i64 0),.d false (.i .i64 0),.d false (.i .i64 0),.d false (.i .i64 0),.d false (.i .i64 0),.d false (.i .i64 0),.d false (.i .i64 0),.d false (.i .i64 0),.d false (.i .i64 0),.d false (.i .i64 0),.d false (.i .i64 0),.d false (.i .i64 0),.d false (.i .i64 0),.d false (.i .i64 0),.d false (.i .i64 0),.nil,.d false (.i .i64 0),.nil,.d false (.i .i64 0),.d false (.i .i64 0),.d false (.i .i64 0),.d false (.i .i64 0)]:=⟨dE Tryz.z69⟩
instance:TyE prog 69 [.i .i64 0,.i .i64 0,.i .i64 0,.i .i64 0,.i .i64 0,.i .i64 0,.i .i64 0,.l [],.i .i64 0,.i .i64 0,.i .i64 0,.i .i64 0,.i .i64 0,.i .i64 0,.i .i64 0,.i .i64 0,.i .i64 0,.i .i64 0,.i .i64 0,.i .i64 0,.i .i64 0,.i .i64 0,.i .i64 0,.l [],.i .i64 0,.l [],.i .i64 0,.i .i64 0,.i .i64 0,.i .i64 0]:=⟨dE Tryz.z69⟩
instance:TyB prog 69 [(0,4),(4,4),(8,1),(9,5),(14,1),(15,1),(16,1),(17,1),(18,1),(19,1),(20,3),(23,1),(24,2),(26,1),(27,3)]:=⟨_,underlying69,λw=>by kernel_rfl⟩
instance:TyF prog 69 0 0 56:=⟨_,_,underlying69,rfl,rfl,rfl,cY 4⟩
instance:TyF prog 69 1 4 59:=⟨_,_,underlying69,rfl,rfl,rfl,cY 4⟩
instance:TyF prog 69 2 8 3:=⟨_,_,underlying69,rfl,rfl,rfl,cY 1⟩
instance:TyF prog 69 3 9 40:=⟨_,_,underlying69,rfl,rfl,rfl,cY 5⟩
instance:TyF prog 69 4 14 3:=⟨_,_,underlying69,rfl,rfl,rfl,cY 1⟩
instance:TyF prog 69 5 15 3:=⟨_,_,underlying69,rfl,rfl,rfl,cY 1⟩
instance:TyF prog 69 6 16 3:=⟨_,_,underlying69,rfl,rfl,rfl,cY 1⟩
instance:TyF prog 69 7 17 3:=⟨_,_,underlying69,rfl,rfl,rfl,cY 1⟩
instance:TyF prog 69 8 18 3:=⟨_,_,underlying69,rfl,rfl,rfl,cY 1⟩
instance:TyF prog 69 9 19 3:=⟨_,_,underlying69,rfl,rfl,rfl,cY 1⟩
instance:TyF prog 69 10 20 61:=⟨_,_,underlying69,rfl,rfl,rfl,cY 3⟩
instance:TyF prog 69 11 23 62:=⟨_,_,underlying69,rfl,rfl,rfl,cY 1⟩
instance:TyF prog 69 12 24 65:=⟨_,_,underlying69,rfl,rfl,rfl,cY 2⟩
instance:TyF prog 69 13 26 3:=⟨_,_,underlying69,rfl,rfl,rfl,cY 1⟩
instance:TyF prog 69 14 27 67:=⟨_,_,underlying69,rfl,rfl,rfl,cY 3⟩
instance:TyN prog 82 3:=⟨dD⟩
instance:TyAg prog 82 3:=⟨λw=>by kernel_rfl,dD⟩
theorem Tryz.z82:(prog.info? 82).map (·.zero)=some (some (.agg #[.int .i64 0,.slice none 0 0,.slice none 0 0])):=by kernel_rfl
instance:TyZ prog 82 [.d false (.i .i64 0),.nil,.nil]:=⟨dE Tryz.z82⟩
instance:TyE prog 82 [.i .i64 0,.l [],.l []]:=⟨dE Tryz.z82⟩
instance:TyB prog 82 [(0,1),(1,1),(2,1)]:=⟨_,underlying82,λw=>by kernel_rfl⟩
instance:TyF prog 82 0 0 3:=⟨_,_,underlying82,rfl,rfl,rfl,cY 1⟩
instance:TyF prog 82 1 1 63:=⟨_,_,underlying82,rfl,rfl,rfl,cY 1⟩
instance:TyF prog 82 2 2 62:=⟨_,_,underlying82,rfl,rfl,rfl,cY 1⟩
instance:TyN prog 84 4:=⟨dD⟩
instance:TyAg prog 84 4:=⟨λw=>by kernel_rfl,dD⟩
theorem Tryz.z84:(prog.info? 84).map (·.zero)=some (some (.agg #[.int .i64 0,.int .i64 0,.int .i64 0,.int .i64 0])):=by kernel_rfl
instance:TyZ prog 84 [.d false (.i .i64 0),.d false (.i .i64 0),.d false (.i .i64 0),.d false (.i .i64 0)]:=⟨dE Tryz.z84⟩
instance:TyE prog 84 [.i .i64 0,.i .i64 0,.i .i64 0,.i .i64 0]:=⟨dE Tryz.z84⟩
instance:TyB prog 84 [(0,2),(2,1),(3,1)]:=⟨_,underlying84,λw=>by kernel_rfl⟩
instance:TyF prog 84 0 0 54:=⟨_,_,underlying84,rfl,rfl,rfl,cY 2⟩
instance:TyF prog 84 1 2 3:=⟨_,_,underlying84,rfl,rfl,rfl,cY 1⟩
instance:TyF prog 84 2 3 3:=⟨_,_,underlying84,rfl,rfl,rfl,cY 1⟩
instance:TyN prog 86 14:=⟨dD⟩
instance:TyAg prog 86 14:=⟨λw=>by kernel_rfl,dD⟩
theorem Tryz.z86:(prog.info? 86).map (·.zero)=some (some (.agg #[.int .i64 0,.int .i64 0,.int .i64 0,.int .i64 0,.int .i64 0,.int .i64 0,.int .i64 0,.int .i64 0,.int .i64 0,.bool false,.int .i64 0,.int .i64 0,.slice none 0 0,.slice none 0 0])):=by kernel_rfl
instance:TyZ prog 86 [.d false (.i .i64 0),.d false (.i .i64 0),.d false (.i .i64 0),.d false (.i .i64 0),.d false (.i .i64 0),.d false (.i .i64 0),.d false (.i .i64 0),.d false (.i .i64 0),.d false (.i .i64 0),.d false (.b false),.d false (.i .i64 0),.d false (.i .i64 0),.nil,.nil]:=⟨dE Tryz.z86⟩
instance:TyE prog 86 [.i .i64 0,.i .i64 0,.i .i64 0,.i .i64 0,.i .i64 0,.i .i64 0,.i .i64 0,.i .i64 0,.i .i64 0,.b false,.i .i64 0,.i .i64 0,.l [],.l []]:=⟨dE Tryz.z86⟩
instance:TyB prog 86 [(0,4),(4,1),(5,1),(6,1),(7,1),(8,1),(9,1),(10,1),(11,3)]:=⟨_,underlying86,λw=>by kernel_rfl⟩
instance:TyF prog 86 0 0 84:=⟨_,_,underlying86,rfl,rfl,rfl,cY 4⟩
instance:TyF prog 86 1 4 3:=⟨_,_,underlying86,rfl,rfl,rfl,cY 1⟩
instance:TyF prog 86 2 5 3:=⟨_,_,underlying86,rfl,rfl,rfl,cY 1⟩
instance:TyF prog 86 3 6 3:=⟨_,_,underlying86,rfl,rfl,rfl,cY 1⟩
instance:TyF prog 86 4 7 3:=⟨_,_,underlying86,rfl,rfl,rfl,cY 1⟩
instance:TyF prog 86 5 8 3:=⟨_,_,underlying86,rfl,rfl,rfl,cY 1⟩
instance:TyF prog 86 6 9 4:=⟨_,_,underlying86,rfl,rfl,rfl,cY 1⟩
instance:TyF prog 86 7 10 3:=⟨_,_,underlying86,rfl,rfl,rfl,cY 1⟩
instance:TyF prog 86 8 11 82:=⟨_,_,underlying86,rfl,rfl,rfl,cY 3⟩
instance:TyN prog 87 1:=⟨dD⟩
instance:TySc prog 87:=⟨λw=>by kernel_rfl,dD⟩
theorem Tryz.z87:(prog.info? 87).map (·.zero)=some (some (.slice none 0 0)):=by kernel_rfl
instance:TyZ prog 87 [.nil]:=⟨dE Tryz.z87⟩
instance:TyE prog 87 [.l []]:=⟨dE Tryz.z87⟩
instance:TySl prog 87 132 2 16:=⟨underlying87,mC (z:=.agg #[.int .i64 0,.int .i64 0]) (by kernel_rfl) rfl,by decide⟩
instance:TyN prog 89 4:=⟨dD⟩
instance:TyAg prog 89 4:=⟨λw=>by kernel_rfl,dD⟩
theorem Tryz.z89:(prog.info? 89).map (·.zero)=some (some (.agg #[.int .i64 0,.int .i64 0,.int .i64 0,.slice none 0 0])):=by kernel_rfl
instance:TyZ prog 89 [.d false (.i .i64 0),.d false (.i .i64 0),.d false (.i .i64 0),.nil]:=⟨dE Tryz.z89⟩
instance:TyE prog 89 [.i .i64 0,.i .i64 0,.i .i64 0,.l []]:=⟨dE Tryz.z89⟩
instance:TyB prog 89 [(0,1),(1,1),(2,1),(3,1)]:=⟨_,underlying89,λw=>by kernel_rfl⟩
instance:TyF prog 89 0 0 3:=⟨_,_,underlying89,rfl,rfl,rfl,cY 1⟩
instance:TyF prog 89 1 1 3:=⟨_,_,underlying89,rfl,rfl,rfl,cY 1⟩
instance:TyF prog 89 2 2 3:=⟨_,_,underlying89,rfl,rfl,rfl,cY 1⟩
instance:TyF prog 89 3 3 87:=⟨_,_,underlying89,rfl,rfl,rfl,cY 1⟩
instance:TyN prog 94 1:=⟨dD⟩
instance:TySc prog 94:=⟨λw=>by kernel_rfl,dD⟩
theorem Tryz.z94:(prog.info? 94).map (·.zero)=some (some (.slice none 0 0)):=by kernel_rfl
instance:TyZ prog 94 [.nil]:=⟨dE Tryz.z94⟩
instance:TyE prog 94 [.l []]:=⟨dE Tryz.z94⟩
instance:TySl prog 94 50 25 224:=⟨underlying94,mC (z:=.agg #[.int .i64 0,.int .i64 0,.int .i64 0,.slice none 0 0,.int .i64 0,.bool false,.bool false,.int .i64 0,.int .i64 0,.int .i64 0,.int .i64 0,.int .i64 0,.int .i64 0,.int .i64 0,.int .i64 0,.int .i64 0,.int .i64 0,.int .i64 0,.int .i64 0,.int .i64 0,.int .i64 0,.int .i64 0,.int .i64 0,.slice none 0 0,.int .i64 0]) (by kernel_rfl) rfl,by decide⟩
instance:TyN prog 100 1:=⟨dD⟩
instance:TySc prog 100:=⟨λw=>by kernel_rfl,dD⟩
theorem Tryz.z100:(prog.info? 100).map (·.zero)=some (some (.slice none 0 0)):=by kernel_rfl
instance:TyZ prog 100 [.nil]:=⟨dE Tryz.z100⟩
instance:TyE prog 100 [.l []]:=⟨dE Tryz.z100⟩
instance:TySl prog 100 246 2 32:=⟨underlying100,mC (z:=.agg #[.int .i64 0,.slice none 0 0]) (by kernel_rfl) rfl,by decide⟩
instance:TyN prog 125 1:=⟨dD⟩
instance:TyAg prog 125 1:=⟨λw=>by kernel_rfl,dD⟩
theorem Tryz.z125:(prog.info? 125).map (·.zero)=some (some (.agg #[.slice none 0 0])):=by kernel_rfl
instance:TyZ prog 125 [.nil]:=⟨dE Tryz.z125⟩
instance:TyE prog 125 [.l []]:=⟨dE Tryz.z125⟩
instance:TyB prog 125 [(0,1)]:=⟨_,underlying125,λw=>by kernel_rfl⟩
instance:TyF prog 125 0 0 22:=⟨_,_,underlying125,rfl,rfl,rfl,cY 1⟩
instance:TyN prog 132 2:=⟨dD⟩
instance:TyAg prog 132 2:=⟨λw=>by kernel_rfl,dD⟩
theorem Tryz.z132:(prog.info? 132).map (·.zero)=some (some (.agg #[.int .i64 0,.int .i64 0])):=by kernel_rfl
instance:TyZ prog 132 [.d false (.i .i64 0),.d false (.i .i64 0)]:=⟨dE Tryz.z132⟩
instance:TyE prog 132 [.i .i64 0,.i .i64 0]:=⟨dE Tryz.z132⟩
instance:TyB prog 132 [(0,1),(1,1)]:=⟨_,underlying132,λw=>by kernel_rfl⟩
instance:TyF prog 132 0 0 3:=⟨_,_,underlying132,rfl,rfl,rfl,cY 1⟩
instance:TyF prog 132 1 1 3:=⟨_,_,underlying132,rfl,rfl,rfl,cY 1⟩
instance:TyN prog 144 2:=⟨dD⟩
instance:TyAg prog 144 2:=⟨λw=>by kernel_rfl,dD⟩
theorem Tryz.z144:(prog.info? 144).map (·.zero)=some (some (.agg #[.int .i64 0,.slice none 0 0])):=by kernel_rfl
instance:TyZ prog 144 [.d false (.i .i64 0),.nil]:=⟨dE Tryz.z144⟩
instance:TyE prog 144 [.i .i64 0,.l []]:=⟨dE Tryz.z144⟩
instance:TyB prog 144 [(0,1),(1,1)]:=⟨_,underlying144,λw=>by kernel_rfl⟩
instance:TyF prog 144 0 0 3:=⟨_,_,underlying144,rfl,rfl,rfl,cY 1⟩
instance:TyF prog 144 1 1 22:=⟨_,_,underlying144,rfl,rfl,rfl,cY 1⟩
instance:TyN prog 148 3:=⟨dD⟩
instance:TyAg prog 148 3:=⟨λw=>by kernel_rfl,dD⟩
theorem Tryz.z148:(prog.info? 148).map (·.zero)=some (some (.agg #[.slice none 0 0,.int .i64 0,.int .i64 0])):=by kernel_rfl
instance:TyZ prog 148 [.nil,.d false (.i .i64 0),.d false (.i .i64 0)]:=⟨dE Tryz.z148⟩
instance:TyE prog 148 [.l [],.i .i64 0,.i .i64 0]:=⟨dE Tryz.z148⟩
instance:TyB prog 148 [(0,1),(1,1),(2,1)]:=⟨_,underlying148,λw=>by kernel_rfl⟩
instance:TyF prog 148 0 0 22:=⟨_,_,underlying148,rfl,rfl,rfl,cY 1⟩
instance:TyF prog 148 1 1 3:=⟨_,_,underlying148,rfl,rfl,rfl,cY 1⟩
instance:TyF prog 148 2 2 3:=⟨_,_,underlying148,rfl,rfl,rfl,cY 1⟩
instance:TyN prog 158 2:=⟨dD⟩
instance:TyAg prog 158 2:=⟨λw=>by kernel_rfl,dD⟩
theorem Tryz.z158:(prog.info? 158).map (·.zero)=some (some (.agg #[.int .i64 0,.slice none 0 0])):=by kernel_rfl
instance:TyZ prog 158 [.d false (.i .i64 0),.nil]:=⟨dE Tryz.z158⟩
instance:TyE prog 158 [.i .i64 0,.l []]:=⟨dE Tryz.z158⟩
instance:TyB prog 158 [(0,1),(1,1)]:=⟨_,underlying158,λw=>by kernel_rfl⟩
instance:TyF prog 158 0 0 3:=⟨_,_,underlying158,rfl,rfl,rfl,cY 1⟩
instance:TyF prog 158 1 1 57:=⟨_,_,underlying158,rfl,rfl,rfl,cY 1⟩
instance:TyN prog 173 1:=⟨dD⟩
instance:TySc prog 173:=⟨λw=>by kernel_rfl,dD⟩
theorem Tryz.z173:(prog.info? 173).map (·.zero)=some (some (.slice none 0 0)):=by kernel_rfl
instance:TyZ prog 173 [.nil]:=⟨dE Tryz.z173⟩
instance:TyE prog 173 [.l []]:=⟨dE Tryz.z173⟩
instance:TySl prog 173 56 4 32:=⟨underlying173,mC (z:=.agg #[.int .i64 0,.int .i64 0,.int .i64 0,.int .i64 0]) (by kernel_rfl) rfl,by decide⟩
instance:TyN prog 179 1:=⟨dD⟩
instance:TySc prog 179:=⟨λw=>by kernel_rfl,dD⟩
theorem Tryz.z179:(prog.info? 179).map (·.zero)=some (some (.slice none 0 0)):=by kernel_rfl
instance:TyZ prog 179 [.nil]:=⟨dE Tryz.z179⟩
instance:TyE prog 179 [.l []]:=⟨dE Tryz.z179⟩
instance:TySl prog 179 42 11 88:=⟨underlying179,mC (z:=.agg #[.int .i64 0,.int .i64 0,.int .i64 0,.int .i64 0,.int .i64 0,.int .i64 0,.int .i64 0,.int .i64 0,.int .i64 0,.int .i64 0,.int .i64 0]) (by kernel_rfl) rfl,by decide⟩
instance:TyN prog 181 15:=⟨dD⟩
instance:TyAg prog 181 15:=⟨λw=>by kernel_rfl,dD⟩
theorem Tryz.z181:(prog.info? 181).map (·.zero)=some (some (.agg #[.int .i64 0,.int .i64 0,.int .i64 0,.int .i64 0,.int .i64 0,.int .i64 0,.int .i64 0,.int .i64 0,.int .i64 0,.bool false,.int .i64 0,.int .i64 0,.slice none 0 0,.slice none 0 0,.slice none 0 0])):=by kernel_rfl
instance:TyZ prog 181 [.d false (.i .i64 0),.d false (.i .i64 0),.d false (.i .i64 0),.d false (.i .i64 0),.d false (.i .i64 0),.d false (.i .i64 0),.d false (.i .i64 0),.d false (.i .i64 0),.d false (.i .i64 0),.d false (.b false),.d false (.i .i64 0),.d false (.i .i64 0),.nil,.nil,.nil]:=⟨dE Tryz.z181⟩
instance:TyE prog 181 [.i .i64 0,.i .i64 0,.i .i64 0,.i .i64 0,.i .i64 0,.i .i64 0,.i .i64 0,.i .i64 0,.i .i64 0,.b false,.i .i64 0,.i .i64 0,.l [],.l [],.l []]:=⟨dE Tryz.z181⟩
instance:TyB prog 181 [(0,14),(14,1)]:=⟨_,underlying181,λw=>by kernel_rfl⟩
instance:TyF prog 181 0 0 86:=⟨_,_,underlying181,rfl,rfl,rfl,cY 14⟩
instance:TyF prog 181 1 14 179:=⟨_,_,underlying181,rfl,rfl,rfl,cY 1⟩
instance:TyN prog 186 1:=⟨dD⟩
instance:TySc prog 186:=⟨λw=>by kernel_rfl,dD⟩
theorem Tryz.z186:(prog.info? 186).map (·.zero)=some (some (.slice none 0 0)):=by kernel_rfl
instance:TyZ prog 186 [.nil]:=⟨dE Tryz.z186⟩
instance:TyE prog 186 [.l []]:=⟨dE Tryz.z186⟩
instance:TySl prog 186 46 6 64:=⟨underlying186,mC (z:=.agg #[.int .i64 0,.int .i64 0,.int .i64 0,.int .i64 0,.slice none 0 0,.int .i64 0]) (by kernel_rfl) rfl,by decide⟩
instance:TyN prog 188 36:=⟨dD⟩
instance:TyAg prog 188 36:=⟨λw=>by kernel_rfl,dD⟩
theorem Tryz.z188:(prog.info? 188).map (·.zero)=some (some (.agg #[.int .i64 0,.int .i64 0,.int .i64 0,.int .i64 0,.int .i64 0,.int .i64 0,.int .i64 0,.slice none 0 0,.int .i64 0,.int .i64 0,.int .i64 0,.int .i64 0,.int .i64 0,.int .i64 0,.int .i64 0,.int .i64 0,.int .i64 0,.int .i64 0,.int .i64 0,.int .i64 0,.int .i64 0,.int .i64 0,.int .i64 0,.slice none 0 0,.int .i64 0,.slice none 0 0,.int .i64 0,.int .i64 0,.int .i64 0,.int .i64 0,.int .i64 0,.int .i64 0,.int .i64 0,.slice none 0 0,.slice none 0 0,.slice none 0 0])):=by kernel_rfl
instance:TyZ prog 188 [.d false (.i .i64 0),.d false (.i .i64 0),.d false (.i .i64 0),.d false (.i .i64 0),.d false (.i .i64 0),.d false (.i .i64 0),.d false (.i .i64 0),.nil,.d false (.i .i64 0),.d false (.i .i64 0),.d false (.i .i64 0),.d false (.i .i64 0),.d false (.i .i64 0),.d false (.i .i64 0),.d false (.i .i64 0),.d false (.i .i64 0),.d false (.i .i64 0),.d false (.i .i64 0),.d false (.i .i64 0),.d false (.i .i64 0),.d false (.i .i64 0),.d false (.i .i64 0),.d false (.i .i64 0),.nil,.d false (.i .i64 0),.nil,.d false (.i .i64 0),.d false (.i .i64 0),.d false (.i .i64 0),.d false (.i .i64 0),.d false (.i .i64 0),.d false (.i .i64 0),.d false (.i .i64 0),.nil,.nil,.nil]:=⟨dE Tryz.z188⟩
instance:TyE prog 188 [.i .i64 0,.i .i64 0,.i .i64 0,.i .i64 0,.i .i64 0,.i .i64 0,.i .i64 0,.l [],.i .i64 0,.i .i64 0,.i .i64 0,.i .i64 0,.i .i64 0,.i .i64 0,.i .i64 0,.i .i64 0,.i .i64 0,.i .i64 0,.i .i64 0,.i .i64 0,.i .i64 0,.i .i64 0,.i .i64 0,.l [],.i .i64 0,.l [],.i .i64 0,.i .i64 0,.i .i64 0,.i .i64 0,.i .i64 0,.i .i64 0,.i .i64 0,.l [],.l [],.l []]:=⟨dE Tryz.z188⟩
instance:TyB prog 188 [(0,30),(30,4),(34,1),(35,1)]:=⟨_,underlying188,λw=>by kernel_rfl⟩
instance:TyF prog 188 0 0 69:=⟨_,_,underlying188,rfl,rfl,rfl,cY 30⟩
instance:TyF prog 188 1 30 89:=⟨_,_,underlying188,rfl,rfl,rfl,cY 4⟩
instance:TyF prog 188 2 34 179:=⟨_,_,underlying188,rfl,rfl,rfl,cY 1⟩
instance:TyF prog 188 3 35 186:=⟨_,_,underlying188,rfl,rfl,rfl,cY 1⟩
instance:TyN prog 202 1:=⟨dD⟩
instance:TyAg prog 202 1:=⟨λw=>by kernel_rfl,dD⟩
theorem Tryz.z202:(prog.info? 202).map (·.zero)=some (some (.agg #[.slice none 0 0])):=by kernel_rfl
instance:TyZ prog 202 [.nil]:=⟨dE Tryz.z202⟩
instance:TyE prog 202 [.l []]:=⟨dE Tryz.z202⟩
instance:TyB prog 202 [(0,1)]:=⟨_,underlying202,λw=>by kernel_rfl⟩
instance:TyF prog 202 0 0 57:=⟨_,_,underlying202,rfl,rfl,rfl,cY 1⟩
instance:TyN prog 237 31:=⟨dD⟩
instance:TyAg prog 237 31:=⟨λw=>by kernel_rfl,dD⟩
theorem Tryz.z237:(prog.info? 237).map (·.zero)=some (some (.agg #[.int .i64 0,.int .i64 0,.int .i64 0,.int .i64 0,.int .i64 0,.int .i64 0,.int .i64 0,.slice none 0 0,.int .i64 0,.int .i64 0,.int .i64 0,.int .i64 0,.int .i64 0,.int .i64 0,.int .i64 0,.int .i64 0,.int .i64 0,.int .i64 0,.int .i64 0,.int .i64 0,.int .i64 0,.int .i64 0,.int .i64 0,.slice none 0 0,.int .i64 0,.slice none 0 0,.int .i64 0,.int .i64 0,.int .i64 0,.int .i64 0,.slice none 0 0])):=by kernel_rfl
instance:TyZ prog 237 [.d false (.i .i64 0),.d false (.i .i64 0),.d false (.i .i64 0),.d false (.i .i64 0),.d false (.i .i64 0),.d false (.i .i64 0),.d false (.i .i64 0),.nil,.d false (.i .i64 0),.d false (.i .i64 0),.d false (.i .i64 0),.d false (.i .i64 0),.d false (.i .i64 0),.d false (.i .i64 0),.d false (.i .i64 0),.d false (.i .i64 0),.d false (.i .i64 0),.d false (.i .i64 0),.d false (.i .i64 0),.d false (.i .i64 0),.d false (.i .i64 0),.d false (.i .i64 0),.d false (.i .i64 0),.nil,.d false (.i .i64 0),.nil,.d false (.i .i64 0),.d false (.i .i64 0),.d false (.i .i64 0),.d false (.i .i64 0),.nil]:=⟨dE Tryz.z237⟩
instance:TyE prog 237 [.i .i64 0,.i .i64 0,.i .i64 0,.i .i64 0,.i .i64 0,.i .i64 0,.i .i64 0,.l [],.i .i64 0,.i .i64 0,.i .i64 0,.i .i64 0,.i .i64 0,.i .i64 0,.i .i64 0,.i .i64 0,.i .i64 0,.i .i64 0,.i .i64 0,.i .i64 0,.i .i64 0,.i .i64 0,.i .i64 0,.l [],.i .i64 0,.l [],.i .i64 0,.i .i64 0,.i .i64 0,.i .i64 0,.l []]:=⟨dE Tryz.z237⟩
instance:TyB prog 237 [(0,30),(30,1)]:=⟨_,underlying237,λw=>by kernel_rfl⟩
instance:TyF prog 237 0 0 69:=⟨_,_,underlying237,rfl,rfl,rfl,cY 30⟩
instance:TyF prog 237 1 30 179:=⟨_,_,underlying237,rfl,rfl,rfl,cY 1⟩
instance:TyN prog 246 2:=⟨dD⟩
instance:TyAg prog 246 2:=⟨λw=>by kernel_rfl,dD⟩
theorem Tryz.z246:(prog.info? 246).map (·.zero)=some (some (.agg #[.int .i64 0,.slice none 0 0])):=by kernel_rfl
instance:TyZ prog 246 [.d false (.i .i64 0),.nil]:=⟨dE Tryz.z246⟩
instance:TyE prog 246 [.i .i64 0,.l []]:=⟨dE Tryz.z246⟩
instance:TyB prog 246 [(0,1),(1,1)]:=⟨_,underlying246,λw=>by kernel_rfl⟩
instance:TyF prog 246 0 0 3:=⟨_,_,underlying246,rfl,rfl,rfl,cY 1⟩
instance:TyF prog 246 1 1 202:=⟨_,_,underlying246,rfl,rfl,rfl,cY 1⟩
instance:TyN prog 286 4:=⟨dD⟩
instance:TyAg prog 286 4:=⟨λw=>by kernel_rfl,dD⟩
theorem Tryz.z286:(prog.info? 286).map (·.zero)=some (some (.agg #[.int .i64 0,.int .i64 0,.int .i64 0,.int .i64 0])):=by kernel_rfl
instance:TyZ prog 286 [.d false (.i .i64 0),.d false (.i .i64 0),.d false (.i .i64 0),.d false (.i .i64 0)]:=⟨dE Tryz.z286⟩
instance:TyE prog 286 [.i .i64 0,.i .i64 0,.i .i64 0,.i .i64 0]:=⟨dE Tryz.z286⟩
instance:TyB prog 286 [(0,1),(1,1),(2,1),(3,1)]:=⟨_,underlying286,λw=>by kernel_rfl⟩
instance:TyF prog 286 0 0 3:=⟨_,_,underlying286,rfl,rfl,rfl,cY 1⟩
instance:TyF prog 286 1 1 3:=⟨_,_,underlying286,rfl,rfl,rfl,cY 1⟩
instance:TyF prog 286 2 2 3:=⟨_,_,underlying286,rfl,rfl,rfl,cY 1⟩
instance:TyF prog 286 3 3 3:=⟨_,_,underlying286,rfl,rfl,rfl,cY 1⟩
theorem Tryz.sh5:xV prog 5 [.i .u8]:=.int underlying5
theorem Tryz.sh22:xV prog 22 [.l [.i .u8]]:=.slice underlying22 Tryz.sh5 (by kernel_rfl) (by decide)
theorem Tryz.eqa32:EqA prog 2 32 [.i .i64,.i .i64]:=iU (k:=1) underlying32 (by kernel_rfl) (ic rfl (by decide) inferInstance (er underlying3) (ic rfl (by decide) inferInstance (er underlying3) (oK)))
instance:TyEq prog 32 [.i .i64,.i .i64]:=⟨⟨2,by decide,Tryz.eqa32⟩,by kernel_rfl⟩
theorem Tryz.eqa40:EqA prog 2 40 [.i .i64,.i .i64,.i .i64,.i .i64,.i .i64]:=iU (k:=1) underlying40 (by kernel_rfl) (ic rfl (by decide) inferInstance (er underlying3) (ic rfl (by decide) inferInstance (er underlying3) (ic rfl (by decide) inferInstance (er underlying3) (ic rfl (by decide) inferInstance (er underlying3) (ic rfl (by decide) inferInstance (er underlying3) (oK))))))
instance:TyEq prog 40 [.i .i64,.i .i64,.i .i64,.i .i64,.i .i64]:=⟨⟨2,by decide,Tryz.eqa40⟩,by kernel_rfl⟩
theorem Tryz.eqa42:EqA prog 3 42 [.i .i64,.i .i64,.i .i64,.i .i64,.i .i64,.i .i64,.i .i64,.i .i64,.i .i64,.i .i64,.i .i64]:=iU (k:=2) underlying42 (by kernel_rfl) (ic rfl (by decide) inferInstance (er underlying3) (ic rfl (by decide) inferInstance (er underlying3) (ic rfl (by decide) inferInstance (er underlying3) (ic rfl (by decide) inferInstance (er underlying3) (ic rfl (by decide) inferInstance (er underlying3) (R3 (n:=5) (s1:=[.i .i64,.i .i64,.i .i64,.i .i64,.i .i64]) rfl (by decide) inferInstance rfl (by decide) Tryz.eqa40 (ic rfl (by decide) inferInstance (er underlying3) (oK))))))))
instance:TyEq prog 42 [.i .i64,.i .i64,.i .i64,.i .i64,.i .i64,.i .i64,.i .i64,.i .i64,.i .i64,.i .i64,.i .i64]:=⟨⟨3,by decide,Tryz.eqa42⟩,by kernel_rfl⟩
theorem Tryz.eqa54:EqA prog 2 54 [.i .i64,.i .i64]:=iU (k:=1) underlying54 (by kernel_rfl) (ic rfl (by decide) inferInstance (er underlying3) (ic rfl (by decide) inferInstance (er underlying3) (oK)))
instance:TyEq prog 54 [.i .i64,.i .i64]:=⟨⟨2,by decide,Tryz.eqa54⟩,by kernel_rfl⟩
theorem Tryz.eqa56:EqA prog 3 56 [.i .i64,.i .i64,.i .i64,.i .i64]:=iU (k:=2) underlying56 (by kernel_rfl) (R3 (n:=2) (s1:=[.i .i64,.i .i64]) rfl (by decide) inferInstance rfl (by decide) Tryz.eqa54 (ic rfl (by decide) inferInstance (er underlying3) (ic rfl (by decide) inferInstance (er underlying3) (oK))))
instance:TyEq prog 56 [.i .i64,.i .i64,.i .i64,.i .i64]:=⟨⟨3,by decide,Tryz.eqa56⟩,by kernel_rfl⟩
theorem Tryz.eqa61:EqA prog 2 61 [.i .i64,.i .i64,.i .i64]:=iU (k:=1) underlying61 (by kernel_rfl) (ic rfl (by decide) inferInstance (er underlying3) (ic rfl (by decide) inferInstance (er underlying3) (ic rfl (by decide) inferInstance (er underlying3) (oK))))
instance:TyEq prog 61 [.i .i64,.i .i64,.i .i64]:=⟨⟨2,by decide,Tryz.eqa61⟩,by kernel_rfl⟩
theorem Tryz.eqa67:EqA prog 2 67 [.i .i64,.i .i64,.i .i64]:=iU (k:=1) underlying67 (by kernel_rfl) (ic rfl (by decide) inferInstance (er underlying3) (ic rfl (by decide) inferInstance (er underlying3) (ic rfl (by decide) inferInstance (er underlying3) (oK))))
instance:TyEq prog 67 [.i .i64,.i .i64,.i .i64]:=⟨⟨2,by decide,Tryz.eqa67⟩,by kernel_rfl⟩
theorem Tryz.eqa84:EqA prog 3 84 [.i .i64,.i .i64,.i .i64,.i .i64]:=iU (k:=2) underlying84 (by kernel_rfl) (R3 (n:=2) (s1:=[.i .i64,.i .i64]) rfl (by decide) inferInstance rfl (by decide) Tryz.eqa54 (ic rfl (by decide) inferInstance (er underlying3) (ic rfl (by decide) inferInstance (er underlying3) (oK))))
instance:TyEq prog 84 [.i .i64,.i .i64,.i .i64,.i .i64]:=⟨⟨3,by decide,Tryz.eqa84⟩,by kernel_rfl⟩
theorem Tryz.eqa132:EqA prog 2 132 [.i .i64,.i .i64]:=iU (k:=1) underlying132 (by kernel_rfl) (ic rfl (by decide) inferInstance (er underlying3) (ic rfl (by decide) inferInstance (er underlying3) (oK)))
instance:TyEq prog 132 [.i .i64,.i .i64]:=⟨⟨2,by decide,Tryz.eqa132⟩,by kernel_rfl⟩
theorem Tryz.eqa286:EqA prog 2 286 [.i .i64,.i .i64,.i .i64,.i .i64]:=iU (k:=1) underlying286 (by kernel_rfl) (ic rfl (by decide) inferInstance (er underlying3) (ic rfl (by decide) inferInstance (er underlying3) (ic rfl (by decide) inferInstance (er underlying3) (ic rfl (by decide) inferInstance (er underlying3) (oK)))))
instance:TyEq prog 286 [.i .i64,.i .i64,.i .i64,.i .i64]:=⟨⟨2,by decide,Tryz.eqa286⟩,by kernel_rfl⟩
theorem Tryz.follows:prog.follows .mixedOrders=true:=by kernel_rfl
structure eY where
 fJ:Int
 b8:List Int
 deriving DecidableEq,Inhabited
def dL (a:eY):List D:=[.i .i64 a.fJ,.l (a.b8.map eI)]
def L6 (a:eY):List F:=[.s (.i .i64 a.fJ),.l 3 1 (a.b8.map eI) a.b8.length]
def Ng:eY:=⟨0,[]⟩
structure aU where
 aZ:List eY
 deriving DecidableEq,Inhabited
def lq (a:aU):List D:=[.l (a.aZ.map dL)]
def QM:aU:=⟨[]⟩
structure cd where
 hP:Int
 f7:Int
 deriving DecidableEq,Inhabited
def HF (a:cd):List D:=[.i .i64 a.hP,.i .i64 a.f7]
def IW:cd:=⟨0,0⟩
structure du where
 d8:Int
 bI:Int
 deriving DecidableEq,Inhabited
def qZ (a:du):List D:=[.i .i64 a.d8,.i .i64 a.bI]
def xi:du:=⟨0,0⟩
structure qf where
 ID:du
 eR:Int
 df:Int
 deriving DecidableEq,Inhabited
def LW (a:qf):List D:=[.i .i64 a.ID.d8,.i .i64 a.ID.bI,.i .i64 a.eR,.i .i64 a.df]
def yF (a:qf):List F:=[.s (.i .i64 a.ID.d8),.s (.i .i64 a.ID.bI),.s (.i .i64 a.eR),.s (.i .i64 a.df)]
def IX:qf:=⟨xi,0,0⟩
structure an where
 cQ:Int
 a8:List Int
 deriving DecidableEq,Inhabited
def aN (a:an):List D:=[.i .i64 a.cQ,.l (a.a8.map eU8)]
def ed (a:an):List F:=[.s (.i .i64 a.cQ),.l 5 1 (a.a8.map eU8) a.a8.length]
def bG:an:=⟨0,[]⟩
structure bm where
 a8:List Int
 deriving DecidableEq,Inhabited
def cg (a:bm):List D:=[.l (a.a8.map eU8)]
structure aX where
 bb:Int
 aO:List an
 bj:List bm
 deriving DecidableEq,Inhabited
def jM (a:aX):List D:=[.i .i64 a.bb,.l (a.aO.map aN),.l (a.bj.map cg)]
def cH (a:aX):List F:=[.s (.i .i64 a.bb),.l 144 2 (a.aO.map aN) a.aO.length,.l 125 1 (a.bj.map cg) a.bj.length]
def dV:aX:=⟨0,[],[]⟩
structure aw where
 cZ:qf
 aG:Int
 aE:Int
 ag:Int
 aV:Int
 aF:Int
 bM:Bool
 di:Int
 aT:aX
 deriving DecidableEq,Inhabited
def dq (a:aw):List D:=[.i .i64 a.cZ.ID.d8,.i .i64 a.cZ.ID.bI,.i .i64 a.cZ.eR,.i .i64 a.cZ.df,.i .i64 a.aG,.i .i64 a.aE,.i .i64 a.ag,.i .i64 a.aV,.i .i64 a.aF,.b a.bM,.i .i64 a.di,.i .i64 a.aT.bb,.l (a.aT.aO.map aN),.l (a.aT.bj.map cg)]
def fL (a:aw):List F:=[.s (.i .i64 a.cZ.ID.d8),.s (.i .i64 a.cZ.ID.bI),.s (.i .i64 a.cZ.eR),.s (.i .i64 a.cZ.df),.s (.i .i64 a.aG),.s (.i .i64 a.aE),.s (.i .i64 a.ag),.s (.i .i64 a.aV),.s (.i .i64 a.aF),.s (.b a.bM),.s (.i .i64 a.di),.s (.i .i64 a.aT.bb),.l 144 2 (a.aT.aO.map aN) a.aT.aO.length,.l 125 1 (a.aT.bj.map cg) a.aT.bj.length]
def xh:aw:=⟨IX,0,0,0,0,0,false,0,dV⟩
structure aP where
 ID:du
 eR:Int
 cQ:Int
 deriving DecidableEq,Inhabited
def cE (a:aP):List D:=[.i .i64 a.ID.d8,.i .i64 a.ID.bI,.i .i64 a.eR,.i .i64 a.cQ]
def mB (a:aP):List F:=[.s (.i .i64 a.ID.d8),.s (.i .i64 a.ID.bI),.s (.i .i64 a.eR),.s (.i .i64 a.cQ)]
def rY:aP:=⟨xi,0,0⟩
structure bz where
 jf:Int
 jc:Int
 dQ:Int
 bv:List Int
 deriving DecidableEq,Inhabited
def kL (a:bz):List D:=[.i .i64 a.jf,.i .i64 a.jc,.i .i64 a.dQ,.l (a.bv.map eI)]
def dw (a:bz):List F:=[.s (.i .i64 a.jf),.s (.i .i64 a.jc),.s (.i .i64 a.dQ),.l 3 1 (a.bv.map eI) a.bv.length]
def oh:bz:=⟨0,0,0,[]⟩
structure dH where
 gN:Int
 lp:Int
 tL:Int
 xW:Int
 eR:Int
 deriving DecidableEq,Inhabited
def uP (a:dH):List D:=[.i .i64 a.gN,.i .i64 a.lp,.i .i64 a.tL,.i .i64 a.xW,.i .i64 a.eR]
def lv (a:dH):List F:=[.s (.i .i64 a.gN),.s (.i .i64 a.lp),.s (.i .i64 a.tL),.s (.i .i64 a.xW),.s (.i .i64 a.eR)]
def c7:dH:=⟨0,0,0,0,0⟩
structure cL where
 fJ:Int
 dt:Int
 di:Int
 deriving DecidableEq,Inhabited
def xY (a:cL):List D:=[.i .i64 a.fJ,.i .i64 a.dt,.i .i64 a.di]
def th (a:cL):List F:=[.s (.i .i64 a.fJ),.s (.i .i64 a.dt),.s (.i .i64 a.di)]
def eB:cL:=⟨0,0,0⟩
structure bh where
 bb:Int
 aD:List an
 deriving DecidableEq,Inhabited
def lu (a:bh):List D:=[.i .i64 a.bb,.l (a.aD.map aN)]
def fm (a:bh):List F:=[.s (.i .i64 a.bb),.l 144 2 (a.aD.map aN) a.aD.length]
def qF:bh:=⟨0,[]⟩
structure dh where
 aC:Int
 cB:Int
 d4:Int
 deriving DecidableEq,Inhabited
def sj (a:dh):List D:=[.i .i64 a.aC,.i .i64 a.cB,.i .i64 a.d4]
def zr (a:dh):List F:=[.s (.i .i64 a.aC),.s (.i .i64 a.cB),.s (.i .i64 a.d4)]
def IV:dh:=⟨0,0,0⟩
structure ae where
 be:aP
 gT:bz
 aG:Int
 aO:dH
 bi:Int
 ag:Int
 aV:Int
 aF:Int
 aE:Int
 c9:Int
 eo:cL
 ax:List bm
 aq:bh
 cR:Int
 bC:dh
 deriving DecidableEq,Inhabited
def cG (a:ae):List D:=[.i .i64 a.be.ID.d8,.i .i64 a.be.ID.bI,.i .i64 a.be.eR,.i .i64 a.be.cQ,.i .i64 a.gT.jf,.i .i64 a.gT.jc,.i .i64 a.gT.dQ,.l (a.gT.bv.map eI),.i .i64 a.aG,.i .i64 a.aO.gN,.i .i64 a.aO.lp,.i .i64 a.aO.tL,.i .i64 a.aO.xW,.i .i64 a.aO.eR,.i .i64 a.bi,.i .i64 a.ag,.i .i64 a.aV,.i .i64 a.aF,.i .i64 a.aE,.i .i64 a.c9,.i .i64 a.eo.fJ,.i .i64 a.eo.dt,.i .i64 a.eo.di,.l (a.ax.map cg),.i .i64 a.aq.bb,.l (a.aq.aD.map aN),.i .i64 a.cR,.i .i64 a.bC.aC,.i .i64 a.bC.cB,.i .i64 a.bC.d4]
def cW (a:ae):List F:=[.s (.i .i64 a.be.ID.d8),.s (.i .i64 a.be.ID.bI),.s (.i .i64 a.be.eR),.s (.i .i64 a.be.cQ),.s (.i .i64 a.gT.jf),.s (.i .i64 a.gT.jc),.s (.i .i64 a.gT.dQ),.l 3 1 (a.gT.bv.map eI) a.gT.bv.length,.s (.i .i64 a.aG),.s (.i .i64 a.aO.gN),.s (.i .i64 a.aO.lp),.s (.i .i64 a.aO.tL),.s (.i .i64 a.aO.xW),.s (.i .i64 a.aO.eR),.s (.i .i64 a.bi),.s (.i .i64 a.ag),.s (.i .i64 a.aV),.s (.i .i64 a.aF),.s (.i .i64 a.aE),.s (.i .i64 a.c9),.s (.i .i64 a.eo.fJ),.s (.i .i64 a.eo.dt),.s (.i .i64 a.eo.di),.l 125 1 (a.ax.map cg) a.ax.length,.s (.i .i64 a.aq.bb),.l 144 2 (a.aq.aD.map aN) a.aq.aD.length,.s (.i .i64 a.cR),.s (.i .i64 a.bC.aC),.s (.i .i64 a.bC.cB),.s (.i .i64 a.bC.d4)]
def qO:ae:=⟨rY,oh,0,c7,0,0,0,0,0,0,eB,[],qF,0,IV⟩
structure aY where
 aC:Int
 ei:Int
 deriving DecidableEq,Inhabited
def bQ (a:aY):List D:=[.i .i64 a.aC,.i .i64 a.ei]
def Fc (a:aY):List F:=[.s (.i .i64 a.aC),.s (.i .i64 a.ei)]
def cI:aY:=⟨0,0⟩
structure av where
 iz:Int
 bK:Int
 dW:Int
 ay:List aY
 deriving DecidableEq,Inhabited
def dB (a:av):List D:=[.i .i64 a.iz,.i .i64 a.bK,.i .i64 a.dW,.l (a.ay.map bQ)]
def cT (a:av):List F:=[.s (.i .i64 a.iz),.s (.i .i64 a.bK),.s (.i .i64 a.dW),.l 132 2 (a.ay.map bQ) a.ay.length]
def jn:av:=⟨0,0,0,[]⟩
structure aR where
 aS:Int
 aE:Int
 ag:Int
 aF:Int
 bI:Int
 cO:dH
 tL:Int
 deriving DecidableEq,Inhabited
def dY (a:aR):List D:=[.i .i64 a.aS,.i .i64 a.aE,.i .i64 a.ag,.i .i64 a.aF,.i .i64 a.bI,.i .i64 a.cO.gN,.i .i64 a.cO.lp,.i .i64 a.cO.tL,.i .i64 a.cO.xW,.i .i64 a.cO.eR,.i .i64 a.tL]
def ig (a:aR):List F:=[.s (.i .i64 a.aS),.s (.i .i64 a.aE),.s (.i .i64 a.ag),.s (.i .i64 a.aF),.s (.i .i64 a.bI),.s (.i .i64 a.cO.gN),.s (.i .i64 a.cO.lp),.s (.i .i64 a.cO.tL),.s (.i .i64 a.cO.xW),.s (.i .i64 a.cO.eR),.s (.i .i64 a.tL)]
def fG:aR:=⟨0,0,0,0,0,c7,0⟩
structure b5 where
 ea:Int
 ks:Int
 a8:List Int
 tL:Int
 deriving DecidableEq,Inhabited
def lr (a:b5):List D:=[.i .i64 a.ea,.i .i64 a.ks,.l (a.a8.map eU8),.i .i64 a.tL]
def tW (a:b5):List F:=[.s (.i .i64 a.ea),.s (.i .i64 a.ks),.l 5 1 (a.a8.map eU8) a.a8.length,.s (.i .i64 a.tL)]
def oJ:b5:=⟨0,0,[],0⟩
structure aK where
 ag:Int
 aF:Int
 cj:b5
 deriving DecidableEq,Inhabited
def d5 (a:aK):List D:=[.i .i64 a.ag,.i .i64 a.aF,.i .i64 a.cj.ea,.i .i64 a.cj.ks,.l (a.cj.a8.map eU8),.i .i64 a.cj.tL]
def lS (a:aK):List F:=[.s (.i .i64 a.ag),.s (.i .i64 a.aF),.s (.i .i64 a.cj.ea),.s (.i .i64 a.cj.ks),.l 5 1 (a.cj.a8.map eU8) a.cj.a8.length,.s (.i .i64 a.cj.tL)]
def gx:aK:=⟨0,0,oJ⟩
structure a9 where
 aJ:Int
 dS:Bool
 bW:Bool
 aE:Int
 aM:aR
 b6:aK
 deriving DecidableEq,Inhabited
def eH (a:a9):List D:=[.i .i64 a.aJ,.b a.dS,.b a.bW,.i .i64 a.aE,.i .i64 a.aM.aS,.i .i64 a.aM.aE,.i .i64 a.aM.ag,.i .i64 a.aM.aF,.i .i64 a.aM.bI,.i .i64 a.aM.cO.gN,.i .i64 a.aM.cO.lp,.i .i64 a.aM.cO.tL,.i .i64 a.aM.cO.xW,.i .i64 a.aM.cO.eR,.i .i64 a.aM.tL,.i .i64 a.b6.ag,.i .i64 a.b6.aF,.i .i64 a.b6.cj.ea,.i .i64 a.b6.cj.ks,.l (a.b6.cj.a8.map eU8),.i .i64 a.b6.cj.tL]
def tV (a:a9):List F:=[.s (.i .i64 a.aJ),.s (.b a.dS),.s (.b a.bW),.s (.i .i64 a.aE),.s (.i .i64 a.aM.aS),.s (.i .i64 a.aM.aE),.s (.i .i64 a.aM.ag),.s (.i .i64 a.aM.aF),.s (.i .i64 a.aM.bI),.s (.i .i64 a.aM.cO.gN),.s (.i .i64 a.aM.cO.lp),.s (.i .i64 a.aM.cO.tL),.s (.i .i64 a.aM.cO.xW),.s (.i .i64 a.aM.cO.eR),.s (.i .i64 a.aM.tL),.s (.i .i64 a.b6.ag),.s (.i .i64 a.b6.aF),.s (.i .i64 a.b6.cj.ea),.s (.i .i64 a.b6.cj.ks),.l 5 1 (a.b6.cj.a8.map eU8) a.b6.cj.a8.length,.s (.i .i64 a.b6.cj.tL)]
def bU:a9:=⟨0,false,false,0,fG,gx⟩
structure ab where
 bX:aU
 ah:List aw
 aj:List ae
 aB:List av
 aA:List a9
 bp:Int
 eD:cd
 gZ:Int
 Lost:Int
 deriving DecidableEq,Inhabited
def fC (a:ab):List D:=[.l (a.bX.aZ.map dL),.l (a.ah.map dq),.l (a.aj.map cG),.l (a.aB.map dB),.l (a.aA.map eH),.i .i64 a.bp,.i .i64 a.eD.hP,.i .i64 a.eD.f7,.i .i64 a.gZ,.i .i64 a.Lost]
def bD (a:ab):List F:=[.l 158 2 (a.bX.aZ.map dL) a.bX.aZ.length,.l 86 14 (a.ah.map dq) a.ah.length,.l 69 30 (a.aj.map cG) a.aj.length,.l 89 4 (a.aB.map dB) a.aB.length,.l 48 21 (a.aA.map eH) a.aA.length,.s (.i .i64 a.bp),.s (.i .i64 a.eD.hP),.s (.i .i64 a.eD.f7),.s (.i .i64 a.gZ),.s (.i .i64 a.Lost)]
def eX:ab:=⟨QM,[],[],[],[],0,IW,0,0⟩
structure cr where
 aS:Int
 bR:Int
 aE:Int
 a8:List Int
 dK:a9
 deriving DecidableEq,Inhabited
def oL (a:cr):List F:=[.s (.i .i64 a.aS),.s (.i .i64 a.bR),.s (.i .i64 a.aE),.l 5 1 (a.a8.map eU8) a.a8.length,.s (.i .i64 a.dK.aJ),.s (.b a.dK.dS),.s (.b a.dK.bW),.s (.i .i64 a.dK.aE),.s (.i .i64 a.dK.aM.aS),.s (.i .i64 a.dK.aM.aE),.s (.i .i64 a.dK.aM.ag),.s (.i .i64 a.dK.aM.aF),.s (.i .i64 a.dK.aM.bI),.s (.i .i64 a.dK.aM.cO.gN),.s (.i .i64 a.dK.aM.cO.lp),.s (.i .i64 a.dK.aM.cO.tL),.s (.i .i64 a.dK.aM.cO.xW),.s (.i .i64 a.dK.aM.cO.eR),.s (.i .i64 a.dK.aM.tL),.s (.i .i64 a.dK.b6.ag),.s (.i .i64 a.dK.b6.aF),.s (.i .i64 a.dK.b6.cj.ea),.s (.i .i64 a.dK.b6.cj.ks),.l 5 1 (a.dK.b6.cj.a8.map eU8) a.dK.b6.cj.a8.length,.s (.i .i64 a.dK.b6.cj.tL)]
def CY:cr:=⟨0,0,0,[],bU⟩
structure bV where
 fb:List Int
 fi:Int
 fh:Int
 deriving DecidableEq,Inhabited
def Vj (a:bV):List D:=[.l (a.fb.map eU8),.i .i64 a.fi,.i .i64 a.fh]
def eh (a:bV):List F:=[.l 5 1 (a.fb.map eU8) a.fb.length,.s (.i .i64 a.fi),.s (.i .i64 a.fh)]
structure bg where
 aJ:aw
 bL:List aR
 deriving DecidableEq,Inhabited
def cM (a:bg):List F:=[.s (.i .i64 a.aJ.cZ.ID.d8),.s (.i .i64 a.aJ.cZ.ID.bI),.s (.i .i64 a.aJ.cZ.eR),.s (.i .i64 a.aJ.cZ.df),.s (.i .i64 a.aJ.aG),.s (.i .i64 a.aJ.aE),.s (.i .i64 a.aJ.ag),.s (.i .i64 a.aJ.aV),.s (.i .i64 a.aJ.aF),.s (.b a.aJ.bM),.s (.i .i64 a.aJ.di),.s (.i .i64 a.aJ.aT.bb),.l 144 2 (a.aJ.aT.aO.map aN) a.aJ.aT.aO.length,.l 125 1 (a.aJ.aT.bj.map cg) a.aJ.aT.bj.length,.l 42 11 (a.bL.map dY) a.bL.length]
def fX:bg:=⟨xh,[]⟩
structure bZ where
 az:ae
 cy:av
 eW:List aR
 b6:List aK
 deriving DecidableEq,Inhabited
def cq (a:bZ):List F:=[.s (.i .i64 a.az.be.ID.d8),.s (.i .i64 a.az.be.ID.bI),.s (.i .i64 a.az.be.eR),.s (.i .i64 a.az.be.cQ),.s (.i .i64 a.az.gT.jf),.s (.i .i64 a.az.gT.jc),.s (.i .i64 a.az.gT.dQ),.l 3 1 (a.az.gT.bv.map eI) a.az.gT.bv.length,.s (.i .i64 a.az.aG),.s (.i .i64 a.az.aO.gN),.s (.i .i64 a.az.aO.lp),.s (.i .i64 a.az.aO.tL),.s (.i .i64 a.az.aO.xW),.s (.i .i64 a.az.aO.eR),.s (.i .i64 a.az.bi),.s (.i .i64 a.az.ag),.s (.i .i64 a.az.aV),.s (.i .i64 a.az.aF),.s (.i .i64 a.az.aE),.s (.i .i64 a.az.c9),.s (.i .i64 a.az.eo.fJ),.s (.i .i64 a.az.eo.dt),.s (.i .i64 a.az.eo.di),.l 125 1 (a.az.ax.map cg) a.az.ax.length,.s (.i .i64 a.az.aq.bb),.l 144 2 (a.az.aq.aD.map aN) a.az.aq.aD.length,.s (.i .i64 a.az.cR),.s (.i .i64 a.az.bC.aC),.s (.i .i64 a.az.bC.cB),.s (.i .i64 a.az.bC.d4),.s (.i .i64 a.cy.iz),.s (.i .i64 a.cy.bK),.s (.i .i64 a.cy.dW),.l 132 2 (a.cy.ay.map bQ) a.cy.ay.length,.l 42 11 (a.eW.map dY) a.eW.length,.l 46 6 (a.b6.map d5) a.b6.length]
def dr:bZ:=⟨qO,jn,[],[]⟩
structure kJ where
 Steps:List Int
 deriving DecidableEq,Inhabited
def PB (a:kJ):List D:=[.l (a.Steps.map eI)]
structure bT where
 az:ae
 bL:List aR
 deriving DecidableEq,Inhabited
def dU (a:bT):List F:=[.s (.i .i64 a.az.be.ID.d8),.s (.i .i64 a.az.be.ID.bI),.s (.i .i64 a.az.be.eR),.s (.i .i64 a.az.be.cQ),.s (.i .i64 a.az.gT.jf),.s (.i .i64 a.az.gT.jc),.s (.i .i64 a.az.gT.dQ),.l 3 1 (a.az.gT.bv.map eI) a.az.gT.bv.length,.s (.i .i64 a.az.aG),.s (.i .i64 a.az.aO.gN),.s (.i .i64 a.az.aO.lp),.s (.i .i64 a.az.aO.tL),.s (.i .i64 a.az.aO.xW),.s (.i .i64 a.az.aO.eR),.s (.i .i64 a.az.bi),.s (.i .i64 a.az.ag),.s (.i .i64 a.az.aV),.s (.i .i64 a.az.aF),.s (.i .i64 a.az.aE),.s (.i .i64 a.az.c9),.s (.i .i64 a.az.eo.fJ),.s (.i .i64 a.az.eo.dt),.s (.i .i64 a.az.eo.di),.l 125 1 (a.az.ax.map cg) a.az.ax.length,.s (.i .i64 a.az.aq.bb),.l 144 2 (a.az.aq.aD.map aN) a.az.aq.aD.length,.s (.i .i64 a.az.cR),.s (.i .i64 a.az.bC.aC),.s (.i .i64 a.az.bC.cB),.s (.i .i64 a.az.bC.d4),.l 42 11 (a.bL.map dY) a.bL.length]
def gS:bT:=⟨qO,[]⟩
structure W9 where
 ag:Int
 Path:kJ
 deriving DecidableEq,Inhabited
structure jV where
 Code:Int
 xW:Int
 C6:Int
 QZ:Int
 deriving DecidableEq,Inhabited
def ie (a:jV):List F:=[.s (.i .i64 a.Code),.s (.i .i64 a.xW),.s (.i .i64 a.C6),.s (.i .i64 a.QZ)]
def iv:jV:=⟨0,0,0,0⟩
theorem Try.follows:prog.follows .mixedOrders=true:=Tryz.follows
end Go.AM
