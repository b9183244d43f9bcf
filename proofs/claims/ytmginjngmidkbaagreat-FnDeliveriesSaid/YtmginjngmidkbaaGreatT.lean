/- A part. -/
import Derived.Test.YtmginjngmidkbaaGreatE3
import Derived.Test.YtmginjngmidkbaaGreatProg
set_option linter.unusedVariables false
set_option linter.unusedSimpArgs false
namespace Go.AM
open Go.Proofs
open Tryz
variable {P:Program} {t:TypeId}
theorem Y3 {n:Nat} (h:(P.info? t).map (·.size)=some n):∃i,P.info? t=some i/\i.size=n:=by
 cases hi:P.info? t with
 |none=>simp[hi] at h
 |some i=>simp[hi] at h;exact⟨i,rfl,h⟩
theorem Y4 {z:Value} (h:(P.info? t).map (·.zero)=some (some z)):∃i,P.info? t=some i/\i.zero=some z:=by
 cases hi:P.info? t with
 |none=>simp[hi] at h
 |some i=>simp[hi] at h;exact⟨i,rfl,h⟩
theorem m9 {z:Value} {n b:Nat} (h:(P.info? t).map (λi=>(i.size,i.bytes,i.zero))=some (n,b,some z)) (hz:z.cells.size=n):∃i z,P.info? t=some i/\i.size=n/\i.bytes=b/\i.zero=some z/\z.cells.size=n:=by
 cases hi:P.info? t with
 |none=>simp[hi] at h
 |some i=>simp[hi] at h;exact⟨i,z,rfl,h.1,h.2.1,h.2.2,hz⟩
theorem Y2 {n:Nat} (h:(P.info? t).map (·.size)=some n) (hn:n≠0):∃i,P.info? t=some i/\i.size≠0:=by
 cases hi:P.info? t with
 |none=>simp[hi] at h
 |some i=>simp[hi] at h;exact⟨i,rfl,by omega⟩
theorem d5 {z:Value} {Q:Value->Prop} (h:(P.info? t).map (·.zero)=some (some z)) (q:Q z:=by exact rfl):∃i z,P.info? t=some i/\i.zero=some z/\Q z:=by
 obtain⟨i,h1,h2⟩:=Y4 h
 exact⟨i,_,h1,h2,q⟩
theorem d4 {n:Nat} (h:(P.info? t).map (·.size)=some n:=by kernel_rfl):∃i,P.info? t=some i/\i.size=n:=Y3 h
theorem dF (n:Nat) (h:(P.info? t).map (·.size)=some n:=by kernel_rfl) (hn:n≠0:=by decide):∃i,P.info? t=some i/\i.size≠0:=Y2 h hn
instance:TyN prog 3 1:=⟨d4⟩
instance:TySc prog 3:=⟨λw=>by kernel_rfl,d4⟩
instance:TyU prog 3 (.int .i64):=⟨underlying3⟩
theorem Tryz.z3:(prog.info? 3).map (·.zero)=some (some (.int .i64 0)):=by kernel_rfl
instance:TyZ prog 3 [.d false (.i .i64 0)]:=⟨d5 Tryz.z3⟩
instance:TyE prog 3 [.i .i64 0]:=⟨d5 Tryz.z3⟩
instance:TyN prog 4 1:=⟨d4⟩
instance:TySc prog 4:=⟨λw=>by kernel_rfl,d4⟩
instance:TyU prog 4 (.bool):=⟨underlying4⟩
theorem Tryz.z4:(prog.info? 4).map (·.zero)=some (some (.bool false)):=by kernel_rfl
instance:TyZ prog 4 [.d false (.b false)]:=⟨d5 Tryz.z4⟩
instance:TyE prog 4 [.b false]:=⟨d5 Tryz.z4⟩
instance:TyN prog 5 1:=⟨d4⟩
instance:TySc prog 5:=⟨λw=>by kernel_rfl,d4⟩
instance:TyU prog 5 (.int .u8):=⟨underlying5⟩
theorem Tryz.z5:(prog.info? 5).map (·.zero)=some (some (.int .u8 0)):=by kernel_rfl
instance:TyZ prog 5 [.d false (.i .u8 0)]:=⟨d5 Tryz.z5⟩
instance:TyE prog 5 [.i .u8 0]:=⟨d5 Tryz.z5⟩
instance:TyN prog 9 1:=⟨d4⟩
instance:TySc prog 9:=⟨λw=>by kernel_rfl,d4⟩
instance:TyU prog 9 (.string):=⟨underlying9⟩
theorem Tryz.z9:(prog.info? 9).map (·.zero)=some (some (.string ⟨#[]⟩)):=by kernel_rfl
instance:TyZ prog 9 [.d false (.str ⟨#[]⟩)]:=⟨d5 Tryz.z9⟩
instance:TyE prog 9 [.str ⟨#[]⟩]:=⟨d5 Tryz.z9⟩
instance:TyN prog 22 1:=⟨d4⟩
instance:TySc prog 22:=⟨λw=>by kernel_rfl,d4⟩
theorem Tryz.z22:(prog.info? 22).map (·.zero)=some (some (.slice none 0 0)):=by kernel_rfl
instance:TyZ prog 22 [.nil]:=⟨d5 Tryz.z22⟩
instance:TyE prog 22 [.l []]:=⟨d5 Tryz.z22⟩
instance:TySl prog 22 5 1 1:=⟨underlying22,m9 (z:=.int .u8 0) (by kernel_rfl) rfl,by decide⟩
instance:TyN prog 24 1:=⟨d4⟩
instance:TySc prog 24:=⟨λw=>by kernel_rfl,d4⟩
theorem Tryz.z24:(prog.info? 24).map (·.zero)=some (some (.slice none 0 0)):=by kernel_rfl
instance:TyZ prog 24 [.nil]:=⟨d5 Tryz.z24⟩
instance:TyE prog 24 [.l []]:=⟨d5 Tryz.z24⟩
instance:TySl prog 24 147 2 32:=⟨underlying24,m9 (z:=.agg #[.int .i64 0,.slice none 0 0]) (by kernel_rfl) rfl,by decide⟩
instance:TyN prog 26 1:=⟨d4⟩
instance:TyAg prog 26 1:=⟨λw=>by kernel_rfl,d4⟩
theorem Tryz.z26:(prog.info? 26).map (·.zero)=some (some (.agg #[.slice none 0 0])):=by kernel_rfl
instance:TyZ prog 26 [.nil]:=⟨d5 Tryz.z26⟩
instance:TyE prog 26 [.l []]:=⟨d5 Tryz.z26⟩
instance:TyB prog 26 [(0,1)]:=⟨_,underlying26,λw=>by kernel_rfl⟩
instance:TyF prog 26 0 0 24:=⟨_,_,underlying26,rfl,rfl,rfl,dF 1⟩
instance:TyN prog 27 1:=⟨d4⟩
instance:TySc prog 27:=⟨λw=>by kernel_rfl,d4⟩
theorem Tryz.z27:(prog.info? 27).map (·.zero)=some (some (.slice none 0 0)):=by kernel_rfl
instance:TyZ prog 27 [.nil]:=⟨d5 Tryz.z27⟩
instance:TyE prog 27 [.l []]:=⟨d5 Tryz.z27⟩
instance:TySl prog 27 93 14 144:=⟨underlying27,m9 (z:=.agg #[.int .i64 0,.int .i64 0,.int .i64 0,.int .i64 0,.int .i64 0,.int .i64 0,.int .i64 0,.int .i64 0,.int .i64 0,.bool false,.int .i64 0,.int .i64 0,.slice none 0 0,.slice none 0 0]) (by kernel_rfl) rfl,by decide⟩
instance:TyN prog 28 1:=⟨d4⟩
instance:TySc prog 28:=⟨λw=>by kernel_rfl,d4⟩
theorem Tryz.z28:(prog.info? 28).map (·.zero)=some (some (.slice none 0 0)):=by kernel_rfl
instance:TyZ prog 28 [.nil]:=⟨d5 Tryz.z28⟩
instance:TyE prog 28 [.l []]:=⟨d5 Tryz.z28⟩
instance:TySl prog 28 75 30 288:=⟨underlying28,m9 (z:=.agg #[.int .i64 0,.int .i64 0,.int .i64 0,.int .i64 0,.int .i64 0,.int .i64 0,.int .i64 0,.slice none 0 0,.int .i64 0,.int .i64 0,.int .i64 0,.int .i64 0,.int .i64 0,.int .i64 0,.int .i64 0,.int .i64 0,.int .i64 0,.int .i64 0,.int .i64 0,.int .i64 0,.int .i64 0,.int .i64 0,.int .i64 0,.slice none 0 0,.int .i64 0,.slice none 0 0,.int .i64 0,.int .i64 0,.int .i64 0,.int .i64 0]) (by kernel_rfl) rfl,by decide⟩
instance:TyN prog 29 1:=⟨d4⟩
instance:TySc prog 29:=⟨λw=>by kernel_rfl,d4⟩
theorem Tryz.z29:(prog.info? 29).map (·.zero)=some (some (.slice none 0 0)):=by kernel_rfl
instance:TyZ prog 29 [.nil]:=⟨d5 Tryz.z29⟩
instance:TyE prog 29 [.l []]:=⟨d5 Tryz.z29⟩
instance:TySl prog 29 57 4 48:=⟨underlying29,m9 (z:=.agg #[.int .i64 0,.int .i64 0,.int .i64 0,.slice none 0 0]) (by kernel_rfl) rfl,by decide⟩
instance:TyN prog 30 1:=⟨d4⟩
instance:TySc prog 30:=⟨λw=>by kernel_rfl,d4⟩
theorem Tryz.z30:(prog.info? 30).map (·.zero)=some (some (.slice none 0 0)):=by kernel_rfl
instance:TyZ prog 30 [.nil]:=⟨d5 Tryz.z30⟩
instance:TyE prog 30 [.l []]:=⟨d5 Tryz.z30⟩
instance:TySl prog 30 49 21 176:=⟨underlying30,m9 (z:=.agg #[.int .i64 0,.bool false,.bool false,.int .i64 0,.int .i64 0,.int .i64 0,.int .i64 0,.int .i64 0,.int .i64 0,.int .i64 0,.int .i64 0,.int .i64 0,.int .i64 0,.int .i64 0,.int .i64 0,.int .i64 0,.int .i64 0,.int .i64 0,.int .i64 0,.slice none 0 0,.int .i64 0]) (by kernel_rfl) rfl,by decide⟩
instance:TyN prog 32 2:=⟨d4⟩
instance:TyAg prog 32 2:=⟨λw=>by kernel_rfl,d4⟩
theorem Tryz.z32:(prog.info? 32).map (·.zero)=some (some (.agg #[.int .i64 0,.int .i64 0])):=by kernel_rfl
instance:TyZ prog 32 [.d false (.i .i64 0),.d false (.i .i64 0)]:=⟨d5 Tryz.z32⟩
instance:TyE prog 32 [.i .i64 0,.i .i64 0]:=⟨d5 Tryz.z32⟩
instance:TyB prog 32 [(0,1),(1,1)]:=⟨_,underlying32,λw=>by kernel_rfl⟩
instance:TyF prog 32 0 0 3:=⟨_,_,underlying32,rfl,rfl,rfl,dF 1⟩
instance:TyF prog 32 1 1 3:=⟨_,_,underlying32,rfl,rfl,rfl,dF 1⟩
instance:TyN prog 34 10:=⟨d4⟩
instance:TyAg prog 34 10:=⟨λw=>by kernel_rfl,d4⟩
theorem Tryz.z34:(prog.info? 34).map (·.zero)=some (some (.agg #[.slice none 0 0,.slice none 0 0,.slice none 0 0,.slice none 0 0,.slice none 0 0,.int .i64 0,.int .i64 0,.int .i64 0,.int .i64 0,.int .i64 0])):=by kernel_rfl
instance:TyZ prog 34 [.nil,.nil,.nil,.nil,.nil,.d false (.i .i64 0),.d false (.i .i64 0),.d false (.i .i64 0),.d false (.i .i64 0),.d false (.i .i64 0)]:=⟨d5 Tryz.z34⟩
instance:TyE prog 34 [.l [],.l [],.l [],.l [],.l [],.i .i64 0,.i .i64 0,.i .i64 0,.i .i64 0,.i .i64 0]:=⟨d5 Tryz.z34⟩
instance:TyB prog 34 [(0,1),(1,1),(2,1),(3,1),(4,1),(5,1),(6,2),(8,1),(9,1)]:=⟨_,underlying34,λw=>by kernel_rfl⟩
instance:TyF prog 34 0 0 26:=⟨_,_,underlying34,rfl,rfl,rfl,dF 1⟩
instance:TyF prog 34 1 1 27:=⟨_,_,underlying34,rfl,rfl,rfl,dF 1⟩
instance:TyF prog 34 2 2 28:=⟨_,_,underlying34,rfl,rfl,rfl,dF 1⟩
instance:TyF prog 34 3 3 29:=⟨_,_,underlying34,rfl,rfl,rfl,dF 1⟩
instance:TyF prog 34 4 4 30:=⟨_,_,underlying34,rfl,rfl,rfl,dF 1⟩
instance:TyF prog 34 5 5 3:=⟨_,_,underlying34,rfl,rfl,rfl,dF 1⟩
instance:TyF prog 34 6 6 32:=⟨_,_,underlying34,rfl,rfl,rfl,dF 2⟩
instance:TyF prog 34 7 8 3:=⟨_,_,underlying34,rfl,rfl,rfl,dF 1⟩
instance:TyF prog 34 8 9 3:=⟨_,_,underlying34,rfl,rfl,rfl,dF 1⟩
instance:TyN prog 41 5:=⟨d4⟩
instance:TyAg prog 41 5:=⟨λw=>by kernel_rfl,d4⟩
theorem Tryz.z41:(prog.info? 41).map (·.zero)=some (some (.agg #[.int .i64 0,.int .i64 0,.int .i64 0,.int .i64 0,.int .i64 0])):=by kernel_rfl
instance:TyZ prog 41 [.d false (.i .i64 0),.d false (.i .i64 0),.d false (.i .i64 0),.d false (.i .i64 0),.d false (.i .i64 0)]:=⟨d5 Tryz.z41⟩
instance:TyE prog 41 [.i .i64 0,.i .i64 0,.i .i64 0,.i .i64 0,.i .i64 0]:=⟨d5 Tryz.z41⟩
instance:TyB prog 41 [(0,1),(1,1),(2,1),(3,1),(4,1)]:=⟨_,underlying41,λw=>by kernel_rfl⟩
instance:TyF prog 41 0 0 3:=⟨_,_,underlying41,rfl,rfl,rfl,dF 1⟩
instance:TyF prog 41 1 1 3:=⟨_,_,underlying41,rfl,rfl,rfl,dF 1⟩
instance:TyF prog 41 2 2 3:=⟨_,_,underlying41,rfl,rfl,rfl,dF 1⟩
instance:TyF prog 41 3 3 3:=⟨_,_,underlying41,rfl,rfl,rfl,dF 1⟩
instance:TyF prog 41 4 4 3:=⟨_,_,underlying41,rfl,rfl,rfl,dF 1⟩
instance:TyN prog 43 11:=⟨d4⟩
instance:TyAg prog 43 11:=⟨λw=>by kernel_rfl,d4⟩
theorem Tryz.z43:(prog.info? 43).map (·.zero)=some (some (.agg #[.int .i64 0,.int .i64 0,.int .i64 0,.int .i64 0,.int .i64 0,.int .i64 0,.int .i64 0,.int .i64 0,.int .i64 0,.int .i64 0,.int .i64 0])):=by kernel_rfl
instance:TyZ prog 43 [.d false (.i .i64 0),.d false (.i .i64 0),.d false (.i .i64 0),.d false (.i .i64 0),.d false (.i .i64 0),.d false (.i .i64 0),.d false (.i .i64 0),.d false (.i .i64 0),.d false (.i .i64 0),.d false (.i .i64 0),.d false (.i .i64 0)]:=⟨d5 Tryz.z43⟩
instance:TyE prog 43 [.i .i64 0,.i .i64 0,.i .i64 0,.i .i64 0,.i .i64 0,.i .i64 0,.i .i64 0,.i .i64 0,.i .i64 0,.i .i64 0,.i .i64 0]:=⟨d5 Tryz.z43⟩
instance:TyB prog 43 [(0,1),(1,1),(2,1),(3,1),(4,1),(5,5),(10,1)]:=⟨_,underlying43,λw=>by kernel_rfl⟩
instance:TyF prog 43 0 0 3:=⟨_,_,underlying43,rfl,rfl,rfl,dF 1⟩
instance:TyF prog 43 1 1 3:=⟨_,_,underlying43,rfl,rfl,rfl,dF 1⟩
instance:TyF prog 43 2 2 3:=⟨_,_,underlying43,rfl,rfl,rfl,dF 1⟩
instance:TyF prog 43 3 3 3:=⟨_,_,underlying43,rfl,rfl,rfl,dF 1⟩
instance:TyF prog 43 4 4 3:=⟨_,_,underlying43,rfl,rfl,rfl,dF 1⟩
instance:TyF prog 43 5 5 41:=⟨_,_,underlying43,rfl,rfl,rfl,dF 5⟩
instance:TyF prog 43 6 10 3:=⟨_,_,underlying43,rfl,rfl,rfl,dF 1⟩
instance:TyN prog 45 4:=⟨d4⟩
instance:TyAg prog 45 4:=⟨λw=>by kernel_rfl,d4⟩
theorem Tryz.z45:(prog.info? 45).map (·.zero)=some (some (.agg #[.int .i64 0,.int .i64 0,.slice none 0 0,.int .i64 0])):=by kernel_rfl
instance:TyZ prog 45 [.d false (.i .i64 0),.d false (.i .i64 0),.nil,.d false (.i .i64 0)]:=⟨d5 Tryz.z45⟩
instance:TyE prog 45 [.i .i64 0,.i .i64 0,.l [],.i .i64 0]:=⟨d5 Tryz.z45⟩
instance:TyB prog 45 [(0,1),(1,1),(2,1),(3,1)]:=⟨_,underlying45,λw=>by kernel_rfl⟩
instance:TyF prog 45 0 0 3:=⟨_,_,underlying45,rfl,rfl,rfl,dF 1⟩
instance:TyF prog 45 1 1 3:=⟨_,_,underlying45,rfl,rfl,rfl,dF 1⟩
instance:TyF prog 45 2 2 22:=⟨_,_,underlying45,rfl,rfl,rfl,dF 1⟩
instance:TyF prog 45 3 3 3:=⟨_,_,underlying45,rfl,rfl,rfl,dF 1⟩
instance:TyN prog 47 6:=⟨d4⟩
instance:TyAg prog 47 6:=⟨λw=>by kernel_rfl,d4⟩
theorem Tryz.z47:(prog.info? 47).map (·.zero)=some (some (.agg #[.int .i64 0,.int .i64 0,.int .i64 0,.int .i64 0,.slice none 0 0,.int .i64 0])):=by kernel_rfl
instance:TyZ prog 47 [.d false (.i .i64 0),.d false (.i .i64 0),.d false (.i .i64 0),.d false (.i .i64 0),.nil,.d false (.i .i64 0)]:=⟨d5 Tryz.z47⟩
instance:TyE prog 47 [.i .i64 0,.i .i64 0,.i .i64 0,.i .i64 0,.l [],.i .i64 0]:=⟨d5 Tryz.z47⟩
instance:TyB prog 47 [(0,1),(1,1),(2,4)]:=⟨_,underlying47,λw=>by kernel_rfl⟩
instance:TyF prog 47 0 0 3:=⟨_,_,underlying47,rfl,rfl,rfl,dF 1⟩
instance:TyF prog 47 1 1 3:=⟨_,_,underlying47,rfl,rfl,rfl,dF 1⟩
instance:TyF prog 47 2 2 45:=⟨_,_,underlying47,rfl,rfl,rfl,dF 4⟩
instance:TyN prog 49 21:=⟨d4⟩
instance:TyAg prog 49 21:=⟨λw=>by kernel_rfl,d4⟩
theorem Tryz.z49:(prog.info? 49).map (·.zero)=some (some (.agg #[.int .i64 0,.bool false,.bool false,.int .i64 0,.int .i64 0,.int .i64 0,.int .i64 0,.int .i64 0,.int .i64 0,.int .i64 0,.int .i64 0,.int .i64 0,.int .i64 0,.int .i64 0,.int .i64 0,.int .i64 0,.int .i64 0,.int .i64 0,.int .i64 0,.slice none 0 0,.int .i64 0])):=by kernel_rfl
instance:TyZ prog 49 [.d false (.i .i64 0),.d false (.b false),.d false (.b false),.d false (.i .i64 0),.d false (.i .i64 0),.d false (.i .i64 0),.d false (.i .i64 0),.d false (.i .i64 0),.d false (.i .i64 0),.d false (.i .i64 0),.d false (.i .i64 0),.d false (.i .i64 0),.d false (.i .i64 0),.d false (.i .i64 0),.d false (.i .i64 0),.d false (.i .i64 0),.d false (.i .i64 0),.d false (.i .i64 0),.d false (.i .i64 0),.nil,.d false (.i .i64 0)]:=⟨d5 Tryz.z49⟩
instance:TyE prog 49 [.i .i64 0,.b false,.b false,.i .i64 0,.i .i64 0,.i .i64 0,.i .i64 0,.i .i64 0,.i .i64 0,.i .i64 0,.i .i64 0,.i .i64 0,.i .i64 0,.i .i64 0,.i .i64 0,.i .i64 0,.i .i64 0,.i .i64 0,.i .i64 0,.l [],.i .i64 0]:=⟨d5 Tryz.z49⟩
instance:TyB prog 49 [(0,1),(1,1),(2,1),(3,1),(4,11),(15,6)]:=⟨_,underlying49,λw=>by kernel_rfl⟩
instance:TyF prog 49 0 0 3:=⟨_,_,underlying49,rfl,rfl,rfl,dF 1⟩
instance:TyF prog 49 1 1 4:=⟨_,_,underlying49,rfl,rfl,rfl,dF 1⟩
instance:TyF prog 49 2 2 4:=⟨_,_,underlying49,rfl,rfl,rfl,dF 1⟩
instance:TyF prog 49 3 3 3:=⟨_,_,underlying49,rfl,rfl,rfl,dF 1⟩
instance:TyF prog 49 4 4 43:=⟨_,_,underlying49,rfl,rfl,rfl,dF 11⟩
instance:TyF prog 49 5 15 47:=⟨_,_,underlying49,rfl,rfl,rfl,dF 6⟩
instance:TyN prog 51 25:=⟨d4⟩
instance:TyAg prog 51 25:=⟨λw=>by kernel_rfl,d4⟩
theorem Tryz.z51:(prog.info? 51).map (·.zero)=some (some (.agg #[.int .i64 0,.int .i64 0,.int .i64 0,.slice none 0 0,.int .i64 0,.bool false,.bool false,.int .i64 0,.int .i64 0,.int .i64 0,.int .i64 0,.int .i64 0,.int .i64 0,.int .i64 0,.int .i64 0,.int .i64 0,.int .i64 0,.int .i64 0,.int .i64 0,.int .i64 0,.int .i64 0,.int .i64 0,.int .i64 0,.slice none 0 0,.int .i64 0])):=by kernel_rfl
instance:TyZ prog 51 [.d false (.i .i64 0),.d false (.i .i64 0),.d false (.i .i64 0),.nil,.d false (.i .i64 0),.d false (.b false),.d false (.b false),.d false (.i .i64 0),.d false (.i .i64 0),.d false (.i .i64 0),.d false (.i .i64 0),.d false (.i .i64 0),.d false (.i .i64 0),.d false (.i .i64 0),.d false (.i .i64 0),.d false (.i .i64 0),.d false (.i .i64 0),.d false (.i .i64 0),.d false (.i .i64 0),.d false (.i .i64 0),.d false (.i .i64 0),.d false (.i .i64 0),.d false (.i .i64 0),.nil,.d false (.i .i64 0)]:=⟨d5 Tryz.z51⟩
instance:TyE prog 51 [.i .i64 0,.i .i64 0,.i .i64 0,.l [],.i .i64 0,.b false,.b false,.i .i64 0,.i .i64 0,.i .i64 0,.i .i64 0,.i .i64 0,.i .i64 0,.i .i64 0,.i .i64 0,.i .i64 0,.i .i64 0,.i .i64 0,.i .i64 0,.i .i64 0,.i .i64 0,.i .i64 0,.i .i64 0,.l [],.i .i64 0]:=⟨d5 Tryz.z51⟩
instance:TyB prog 51 [(0,1),(1,1),(2,1),(3,1),(4,21)]:=⟨_,underlying51,λw=>by kernel_rfl⟩
instance:TyF prog 51 0 0 3:=⟨_,_,underlying51,rfl,rfl,rfl,dF 1⟩
instance:TyF prog 51 1 1 3:=⟨_,_,underlying51,rfl,rfl,rfl,dF 1⟩
instance:TyF prog 51 2 2 3:=⟨_,_,underlying51,rfl,rfl,rfl,dF 1⟩
instance:TyF prog 51 3 3 22:=⟨_,_,underlying51,rfl,rfl,rfl,dF 1⟩
instance:TyF prog 51 4 4 49:=⟨_,_,underlying51,rfl,rfl,rfl,dF 21⟩
instance:TyN prog 55 1:=⟨d4⟩
instance:TySc prog 55:=⟨λw=>by kernel_rfl,d4⟩
theorem Tryz.z55:(prog.info? 55).map (·.zero)=some (some (.slice none 0 0)):=by kernel_rfl
instance:TyZ prog 55 [.nil]:=⟨d5 Tryz.z55⟩
instance:TyE prog 55 [.l []]:=⟨d5 Tryz.z55⟩
instance:TySl prog 55 115 2 16:=⟨underlying55,m9 (z:=.agg #[.int .i64 0,.int .i64 0]) (by kernel_rfl) rfl,by decide⟩
instance:TyN prog 57 4:=⟨d4⟩
instance:TyAg prog 57 4:=⟨λw=>by kernel_rfl,d4⟩
theorem Tryz.z57:(prog.info? 57).map (·.zero)=some (some (.agg #[.int .i64 0,.int .i64 0,.int .i64 0,.slice none 0 0])):=by kernel_rfl
instance:TyZ prog 57 [.d false (.i .i64 0),.d false (.i .i64 0),.d false (.i .i64 0),.nil]:=⟨d5 Tryz.z57⟩
instance:TyE prog 57 [.i .i64 0,.i .i64 0,.i .i64 0,.l []]:=⟨d5 Tryz.z57⟩
instance:TyB prog 57 [(0,1),(1,1),(2,1),(3,1)]:=⟨_,underlying57,λw=>by kernel_rfl⟩
instance:TyF prog 57 0 0 3:=⟨_,_,underlying57,rfl,rfl,rfl,dF 1⟩
instance:TyF prog 57 1 1 3:=⟨_,_,underlying57,rfl,rfl,rfl,dF 1⟩
instance:TyF prog 57 2 2 3:=⟨_,_,underlying57,rfl,rfl,rfl,dF 1⟩
instance:TyF prog 57 3 3 55:=⟨_,_,underlying57,rfl,rfl,rfl,dF 1⟩
instance:TyN prog 60 2:=⟨d4⟩
instance:TyAg prog 60 2:=⟨λw=>by kernel_rfl,d4⟩
theorem Tryz.z60:(prog.info? 60).map (·.zero)=some (some (.agg #[.int .i64 0,.int .i64 0])):=by kernel_rfl
instance:TyZ prog 60 [.d false (.i .i64 0),.d false (.i .i64 0)]:=⟨d5 Tryz.z60⟩
instance:TyE prog 60 [.i .i64 0,.i .i64 0]:=⟨d5 Tryz.z60⟩
instance:TyB prog 60 [(0,1),(1,1)]:=⟨_,underlying60,λw=>by kernel_rfl⟩
instance:TyF prog 60 0 0 3:=⟨_,_,underlying60,rfl,rfl,rfl,dF 1⟩
instance:TyF prog 60 1 1 3:=⟨_,_,underlying60,rfl,rfl,rfl,dF 1⟩
instance:TyN prog 62 4:=⟨d4⟩
instance:TyAg prog 62 4:=⟨λw=>by kernel_rfl,d4⟩
theorem Tryz.z62:(prog.info? 62).map (·.zero)=some (some (.agg #[.int .i64 0,.int .i64 0,.int .i64 0,.int .i64 0])):=by kernel_rfl
instance:TyZ prog 62 [.d false (.i .i64 0),.d false (.i .i64 0),.d false (.i .i64 0),.d false (.i .i64 0)]:=⟨d5 Tryz.z62⟩
instance:TyE prog 62 [.i .i64 0,.i .i64 0,.i .i64 0,.i .i64 0]:=⟨d5 Tryz.z62⟩
instance:TyB prog 62 [(0,2),(2,1),(3,1)]:=⟨_,underlying62,λw=>by kernel_rfl⟩
instance:TyF prog 62 0 0 60:=⟨_,_,underlying62,rfl,rfl,rfl,dF 2⟩
instance:TyF prog 62 1 2 3:=⟨_,_,underlying62,rfl,rfl,rfl,dF 1⟩
instance:TyF prog 62 2 3 3:=⟨_,_,underlying62,rfl,rfl,rfl,dF 1⟩
instance:TyN prog 63 1:=⟨d4⟩
instance:TySc prog 63:=⟨λw=>by kernel_rfl,d4⟩
theorem Tryz.z63:(prog.info? 63).map (·.zero)=some (some (.slice none 0 0)):=by kernel_rfl
instance:TyZ prog 63 [.nil]:=⟨d5 Tryz.z63⟩
instance:TyE prog 63 [.l []]:=⟨d5 Tryz.z63⟩
instance:TySl prog 63 3 1 8:=⟨underlying63,m9 (z:=.int .i64 0) (by kernel_rfl) rfl,by decide⟩
instance:TyN prog 65 4:=⟨d4⟩
instance:TyAg prog 65 4:=⟨λw=>by kernel_rfl,d4⟩
theorem Tryz.z65:(prog.info? 65).map (·.zero)=some (some (.agg #[.int .i64 0,.int .i64 0,.int .i64 0,.slice none 0 0])):=by kernel_rfl
instance:TyZ prog 65 [.d false (.i .i64 0),.d false (.i .i64 0),.d false (.i .i64 0),.nil]:=⟨d5 Tryz.z65⟩
instance:TyE prog 65 [.i .i64 0,.i .i64 0,.i .i64 0,.l []]:=⟨d5 Tryz.z65⟩
instance:TyB prog 65 [(0,1),(1,1),(2,1),(3,1)]:=⟨_,underlying65,λw=>by kernel_rfl⟩
instance:TyF prog 65 0 0 3:=⟨_,_,underlying65,rfl,rfl,rfl,dF 1⟩
instance:TyF prog 65 1 1 3:=⟨_,_,underlying65,rfl,rfl,rfl,dF 1⟩
instance:TyF prog 65 2 2 3:=⟨_,_,underlying65,rfl,rfl,rfl,dF 1⟩
instance:TyF prog 65 3 3 63:=⟨_,_,underlying65,rfl,rfl,rfl,dF 1⟩
instance:TyN prog 67 3:=⟨d4⟩
instance:TyAg prog 67 3:=⟨λw=>by kernel_rfl,d4⟩
theorem Tryz.z67:(prog.info? 67).map (·.zero)=some (some (.agg #[.int .i64 0,.int .i64 0,.int .i64 0])):=by kernel_rfl
instance:TyZ prog 67 [.d false (.i .i64 0),.d false (.i .i64 0),.d false (.i .i64 0)]:=⟨d5 Tryz.z67⟩
instance:TyE prog 67 [.i .i64 0,.i .i64 0,.i .i64 0]:=⟨d5 Tryz.z67⟩
instance:TyB prog 67 [(0,1),(1,1),(2,1)]:=⟨_,underlying67,λw=>by kernel_rfl⟩
instance:TyF prog 67 0 0 3:=⟨_,_,underlying67,rfl,rfl,rfl,dF 1⟩
instance:TyF prog 67 1 1 3:=⟨_,_,underlying67,rfl,rfl,rfl,dF 1⟩
instance:TyF prog 67 2 2 3:=⟨_,_,underlying67,rfl,rfl,rfl,dF 1⟩
instance:TyN prog 68 1:=⟨d4⟩
instance:TySc prog 68:=⟨λw=>by kernel_rfl,d4⟩
theorem Tryz.z68:(prog.info? 68).map (·.zero)=some (some (.slice none 0 0)):=by kernel_rfl
instance:TyZ prog 68 [.nil]:=⟨d5 Tryz.z68⟩
instance:TyE prog 68 [.l []]:=⟨d5 Tryz.z68⟩
instance:TySl prog 68 119 1 24:=⟨underlying68,m9 (z:=.agg #[.slice none 0 0]) (by kernel_rfl) rfl,by decide⟩
instance:TyN prog 69 1:=⟨d4⟩
instance:TySc prog 69:=⟨λw=>by kernel_rfl,d4⟩
theorem Tryz.z69:(prog.info? 69).map (·.zero)=some (some (.slice none 0 0)):=by kernel_rfl
instance:TyZ prog 69 [.nil]:=⟨d5 Tryz.z69⟩
instance:TyE prog 69 [.l []]:=⟨d5 Tryz.z69⟩
instance:TySl prog 69 131 2 32:=⟨underlying69,m9 (z:=.agg #[.int .i64 0,.slice none 0 0]) (by kernel_rfl) rfl,by decide⟩
instance:TyN prog 71 2:=⟨d4⟩
instance:TyAg prog 71 2:=⟨λw=>by kernel_rfl,d4⟩
theorem Tryz.z71:(prog.info? 71).map (·.zero)=some (some (.agg #[.int .i64 0,.slice none 0 0])):=by kernel_rfl
instance:TyZ prog 71 [.d false (.i .i64 0),.nil]:=⟨d5 Tryz.z71⟩
instance:TyE prog 71 [.i .i64 0,.l []]:=⟨d5 Tryz.z71⟩
instance:TyB prog 71 [(0,1),(1,1)]:=⟨_,underlying71,λw=>by kernel_rfl⟩
instance:TyF prog 71 0 0 3:=⟨_,_,underlying71,rfl,rfl,rfl,dF 1⟩
instance:TyF prog 71 1 1 69:=⟨_,_,underlying71,rfl,rfl,rfl,dF 1⟩
instance:TyN prog 73 3:=⟨d4⟩
instance:TyAg prog 73 3:=⟨λw=>by kernel_rfl,d4⟩
theorem Tryz.z73:(prog.info? 73).map (·.zero)=some (some (.agg #[.int .i64 0,.int .i64 0,.int .i64 0])):=by kernel_rfl
instance:TyZ prog 73 [.d false (.i .i64 0),.d false (.i .i64 0),.d false (.i .i64 0)]:=⟨d5 Tryz.z73⟩
instance:TyE prog 73 [.i .i64 0,.i .i64 0,.i .i64 0]:=⟨d5 Tryz.z73⟩
instance:TyB prog 73 [(0,1),(1,1),(2,1)]:=⟨_,underlying73,λw=>by kernel_rfl⟩
instance:TyF prog 73 0 0 3:=⟨_,_,underlying73,rfl,rfl,rfl,dF 1⟩
instance:TyF prog 73 1 1 3:=⟨_,_,underlying73,rfl,rfl,rfl,dF 1⟩
instance:TyF prog 73 2 2 3:=⟨_,_,underlying73,rfl,rfl,rfl,dF 1⟩
instance:TyN prog 75 30:=⟨d4⟩
instance:TyAg prog 75 30:=⟨λw=>by kernel_rfl,d4⟩
theorem Tryz.z75:(prog.info? 75).map (·.zero)=some (some (.agg #[.int .i64 0,.int .i64 0,.int .i64 0,.int .i64 0,.int .i64 0,.int .i64 0,.int .i64 0,.slice none 0 0,.int .i64 0,.int .i64 0,.int .i64 0,.int .i64 0,.int .i64 0,.int .i64 0,.int .i64 0,.int .i64 0,.int .i64 0,.int .i64 0,.int .i64 0,.int .i64 0,.int .i64 0,.int .i64 0,.int .i64 0,.slice none 0 0,.int .i64 0,.slice none 0 0,.int .i64 0,.int .i64 0,.int .i64 0,.int .i64 0])):=by kernel_rfl
instance:TyZ prog 75 [.d false (.i .i64 0),.d false (.i .i64 0),.d false (.i .i64 0),.d false (.i .i64 0),.d false (.i .i64 0),.d false (.i .i64 0),.d false (.i .i64 0),.nil,.d false (.i .i64 0),.d false (.i .i64 0),.d false (.i .i64 0),.d false (.i .i64 0),.d false (.i .i64 0),.d false (.i .i64 0),.d false (.i .i64 0),.d false (.i .i64 0),.d false (.i .i64 0),.d false (.i .i64 0),.d false (.i .i64 0),.d false (.i .i64 0),.d false (.i .i64 0),.d false (.i .i64 0),.d false (.i .i64 0),.nil,.d false (.i .i64 0),.nil,.d false (.i .i64 0),.d false (.i .i64 0),.d false (.i .i64 0),.d false (.i .i64 0)]:=⟨d5 Tryz.z75⟩
instance:TyE prog 75 [.i .i64 0,.i .i64 0,.i .i64 0,.i .i64 0,.i .i64 0,.i .i64 0,.i .i64 0,.l [],.i .i64 0,.i .i64 0,.i .i64 0,.i .i64 0,.i .i64 0,.i .i64 0,.i .i64 0,.i .i64 0,.i .i64 0,.i .i64 0,.i .i64 0,.i .i64 0,.i .i64 0,.i .i64 0,.i .i64 0,.l [],.i .i64 0,.l [],.i .i64 0,.i .i64 0,.i .i64 0,.i .i64 0]:=⟨d5 Tryz.z75⟩
instance:TyB prog 75 [(0,4),(4,4),(8,1),(9,5),(14,1),(15,1),(16,1),(17,1),(18,1),(19,1),(20,3),(23,1),(24,2),(26,1),(27,3)]:=⟨_,underlying75,λw=>by kernel_rfl⟩
instance:TyF prog 75 0 0 62:=⟨_,_,underlying75,rfl,rfl,rfl,dF 4⟩
instance:TyF prog 75 1 4 65:=⟨_,_,underlying75,rfl,rfl,rfl,dF 4⟩
instance:TyF prog 75 2 8 3:=⟨_,_,underlying75,rfl,rfl,rfl,dF 1⟩
instance:TyF prog 75 3 9 41:=⟨_,_,underlying75,rfl,rfl,rfl,dF 5⟩
instance:TyF prog 75 4 14 3:=⟨_,_,underlying75,rfl,rfl,rfl,dF 1⟩
instance:TyF prog 75 5 15 3:=⟨_,_,underlying75,rfl,rfl,rfl,dF 1⟩
instance:TyF prog 75 6 16 3:=⟨_,_,underlying75,rfl,rfl,rfl,dF 1⟩
instance:TyF prog 75 7 17 3:=⟨_,_,underlying75,rfl,rfl,rfl,dF 1⟩
instance:TyF prog 75 8 18 3:=⟨_,_,underlying75,rfl,rfl,rfl,dF 1⟩
instance:TyF prog 75 9 19 3:=⟨_,_,underlying75,rfl,rfl,rfl,dF 1⟩
instance:TyF prog 75 10 20 67:=⟨_,_,underlying75,rfl,rfl,rfl,dF 3⟩
instance:TyF prog 75 11 23 68:=⟨_,_,underlying75,rfl,rfl,rfl,dF 1⟩
instance:TyF prog 75 12 24 71:=⟨_,_,underlying75,rfl,rfl,rfl,dF 2⟩
instance:TyF prog 75 13 26 3:=⟨_,_,underlying75,rfl,rfl,rfl,dF 1⟩
instance:TyF prog 75 14 27 73:=⟨_,_,underlying75,rfl,rfl,rfl,dF 3⟩
instance:TyN prog 81 1:=⟨d4⟩
instance:TySc prog 81:=⟨λw=>by kernel_rfl,d4⟩
theorem Tryz.z81:(prog.info? 81).map (·.zero)=some (some (.slice none 0 0)):=by kernel_rfl
instance:TyZ prog 81 [.nil]:=⟨d5 Tryz.z81⟩
instance:TyE prog 81 [.l []]:=⟨d5 Tryz.z81⟩
instance:TySl prog 81 51 25 224:=⟨underlying81,m9 (z:=.agg #[.int .i64 0,.int .i64 0,.int .i64 0,.slice none 0 0,.int .i64 0,.bool false,.bool false,.int .i64 0,.int .i64 0,.int .i64 0,.int .i64 0,.int .i64 0,.int .i64 0,.int .i64 0,.int .i64 0,.int .i64 0,.int .i64 0,.int .i64 0,.int .i64 0,.int .i64 0,.int .i64 0,.int .i64 0,.int .i64 0,.slice none 0 0,.int .i64 0]) (by kernel_rfl) rfl,by decide⟩
instance:TyN prog 87 1:=⟨d4⟩
instance:TySc prog 87:=⟨λw=>by kernel_rfl,d4⟩
theorem Tryz.z87:(prog.info? 87).map (·.zero)=some (some (.slice none 0 0)):=by kernel_rfl
instance:TyZ prog 87 [.nil]:=⟨d5 Tryz.z87⟩
instance:TyE prog 87 [.l []]:=⟨d5 Tryz.z87⟩
instance:TySl prog 87 231 2 32:=⟨underlying87,m9 (z:=.agg #[.int .i64 0,.slice none 0 0]) (by kernel_rfl) rfl,by decide⟩
instance:TyN prog 89 4:=⟨d4⟩
instance:TyAg prog 89 4:=⟨λw=>by kernel_rfl,d4⟩
theorem Tryz.z89:(prog.info? 89).map (·.zero)=some (some (.agg #[.int .i64 0,.int .i64 0,.int .i64 0,.int .i64 0])):=by kernel_rfl
instance:TyZ prog 89 [.d false (.i .i64 0),.d false (.i .i64 0),.d false (.i .i64 0),.d false (.i .i64 0)]:=⟨d5 Tryz.z89⟩
instance:TyE prog 89 [.i .i64 0,.i .i64 0,.i .i64 0,.i .i64 0]:=⟨d5 Tryz.z89⟩
instance:TyB prog 89 [(0,2),(2,1),(3,1)]:=⟨_,underlying89,λw=>by kernel_rfl⟩
instance:TyF prog 89 0 0 60:=⟨_,_,underlying89,rfl,rfl,rfl,dF 2⟩
instance:TyF prog 89 1 2 3:=⟨_,_,underlying89,rfl,rfl,rfl,dF 1⟩
instance:TyF prog 89 2 3 3:=⟨_,_,underlying89,rfl,rfl,rfl,dF 1⟩
instance:TyN prog 91 3:=⟨d4⟩
instance:TyAg prog 91 3:=⟨λw=>by kernel_rfl,d4⟩
theorem Tryz.z91:(prog.info? 91).map (·.zero)=some (some (.agg #[.int .i64 0,.slice none 0 0,.slice none 0 0])):=by kernel_rfl
instance:TyZ prog 91 [.d false (.i .i64 0),.nil,.nil]:=⟨d5 Tryz.z91⟩
instance:TyE prog 91 [.i .i64 0,.l [],.l []]:=⟨d5 Tryz.z91⟩
instance:TyB prog 91 [(0,1),(1,1),(2,1)]:=⟨_,underlying91,λw=>by kernel_rfl⟩
instance:TyF prog 91 0 0 3:=⟨_,_,underlying91,rfl,rfl,rfl,dF 1⟩
instance:TyF prog 91 1 1 69:=⟨_,_,underlying91,rfl,rfl,rfl,dF 1⟩
instance:TyF prog 91 2 2 68:=⟨_,_,underlying91,rfl,rfl,rfl,dF 1⟩
instance:TyN prog 93 14:=⟨d4⟩
instance:TyAg prog 93 14:=⟨λw=>by kernel_rfl,d4⟩
theorem Tryz.z93:(prog.info? 93).map (·.zero)=some (some (.agg #[.int .i64 0,.int .i64 0,.int .i64 0,.int .i64 0,.int .i64 0,.int .i64 0,.int .i64 0,.int .i64 0,.int .i64 0,.bool false,.int .i64 0,.int .i64 0,.slice none 0 0,.slice none 0 0])):=by kernel_rfl
instance:TyZ prog 93 [.d false (.i .i64 0),.d false (.i .i64 0),.d false (.i .i64 0),.d false (.i .i64 0),.d false (.i .i64 0),.d false (.i .i64 0),.d false (.i .i64 0),.d false (.i .i64 0),.d false (.i .i64 0),.d false (.b false),.d false (.i .i64 0),.d false (.i .i64 0),.nil,.nil]:=⟨d5 Tryz.z93⟩
instance:TyE prog 93 [.i .i64 0,.i .i64 0,.i .i64 0,.i .i64 0,.i .i64 0,.i .i64 0,.i .i64 0,.i .i64 0,.i .i64 0,.b false,.i .i64 0,.i .i64 0,.l [],.l []]:=⟨d5 Tryz.z93⟩
instance:TyB prog 93 [(0,4),(4,1),(5,1),(6,1),(7,1),(8,1),(9,1),(10,1),(11,3)]:=⟨_,underlying93,λw=>by kernel_rfl⟩
instance:TyF prog 93 0 0 89:=⟨_,_,underlying93,rfl,rfl,rfl,dF 4⟩
instance:TyF prog 93 1 4 3:=⟨_,_,underlying93,rfl,rfl,rfl,dF 1⟩
instance:TyF prog 93 2 5 3:=⟨_,_,underlying93,rfl,rfl,rfl,dF 1⟩
instance:TyF prog 93 3 6 3:=⟨_,_,underlying93,rfl,rfl,rfl,dF 1⟩
instance:TyF prog 93 4 7 3:=⟨_,_,underlying93,rfl,rfl,rfl,dF 1⟩
instance:TyF prog 93 5 8 3:=⟨_,_,underlying93,rfl,rfl,rfl,dF 1⟩
instance:TyF prog 93 6 9 4:=⟨_,_,underlying93,rfl,rfl,rfl,dF 1⟩
instance:TyF prog 93 7 10 3:=⟨_,_,underlying93,rfl,rfl,rfl,dF 1⟩
instance:TyF prog 93 8 11 91:=⟨_,_,underlying93,rfl,rfl,rfl,dF 3⟩
instance:TyN prog 115 2:=⟨d4⟩
instance:TyAg prog 115 2:=⟨λw=>by kernel_rfl,d4⟩
theorem Tryz.z115:(prog.info? 115).map (·.zero)=some (some (.agg #[.int .i64 0,.int .i64 0])):=by kernel_rfl
instance:TyZ prog 115 [.d false (.i .i64 0),.d false (.i .i64 0)]:=⟨d5 Tryz.z115⟩
instance:TyE prog 115 [.i .i64 0,.i .i64 0]:=⟨d5 Tryz.z115⟩
instance:TyB prog 115 [(0,1),(1,1)]:=⟨_,underlying115,λw=>by kernel_rfl⟩
instance:TyF prog 115 0 0 3:=⟨_,_,underlying115,rfl,rfl,rfl,dF 1⟩
instance:TyF prog 115 1 1 3:=⟨_,_,underlying115,rfl,rfl,rfl,dF 1⟩
instance:TyN prog 119 1:=⟨d4⟩
instance:TyAg prog 119 1:=⟨λw=>by kernel_rfl,d4⟩
theorem Tryz.z119:(prog.info? 119).map (·.zero)=some (some (.agg #[.slice none 0 0])):=by kernel_rfl
instance:TyZ prog 119 [.nil]:=⟨d5 Tryz.z119⟩
instance:TyE prog 119 [.l []]:=⟨d5 Tryz.z119⟩
instance:TyB prog 119 [(0,1)]:=⟨_,underlying119,λw=>by kernel_rfl⟩
instance:TyF prog 119 0 0 22:=⟨_,_,underlying119,rfl,rfl,rfl,dF 1⟩
instance:TyN prog 131 2:=⟨d4⟩
instance:TyAg prog 131 2:=⟨λw=>by kernel_rfl,d4⟩
theorem Tryz.z131:(prog.info? 131).map (·.zero)=some (some (.agg #[.int .i64 0,.slice none 0 0])):=by kernel_rfl
instance:TyZ prog 131 [.d false (.i .i64 0),.nil]:=⟨d5 Tryz.z131⟩
instance:TyE prog 131 [.i .i64 0,.l []]:=⟨d5 Tryz.z131⟩
instance:TyB prog 131 [(0,1),(1,1)]:=⟨_,underlying131,λw=>by kernel_rfl⟩
instance:TyF prog 131 0 0 3:=⟨_,_,underlying131,rfl,rfl,rfl,dF 1⟩
instance:TyF prog 131 1 1 22:=⟨_,_,underlying131,rfl,rfl,rfl,dF 1⟩
instance:TyN prog 135 3:=⟨d4⟩
instance:TyAg prog 135 3:=⟨λw=>by kernel_rfl,d4⟩
theorem Tryz.z135:(prog.info? 135).map (·.zero)=some (some (.agg #[.slice none 0 0,.int .i64 0,.int .i64 0])):=by kernel_rfl
instance:TyZ prog 135 [.nil,.d false (.i .i64 0),.d false (.i .i64 0)]:=⟨d5 Tryz.z135⟩
instance:TyE prog 135 [.l [],.i .i64 0,.i .i64 0]:=⟨d5 Tryz.z135⟩
instance:TyB prog 135 [(0,1),(1,1),(2,1)]:=⟨_,underlying135,λw=>by kernel_rfl⟩
instance:TyF prog 135 0 0 22:=⟨_,_,underlying135,rfl,rfl,rfl,dF 1⟩
instance:TyF prog 135 1 1 3:=⟨_,_,underlying135,rfl,rfl,rfl,dF 1⟩
instance:TyF prog 135 2 2 3:=⟨_,_,underlying135,rfl,rfl,rfl,dF 1⟩
instance:TyN prog 147 2:=⟨d4⟩
instance:TyAg prog 147 2:=⟨λw=>by kernel_rfl,d4⟩
theorem Tryz.z147:(prog.info? 147).map (·.zero)=some (some (.agg #[.int .i64 0,.slice none 0 0])):=by kernel_rfl
instance:TyZ prog 147 [.d false (.i .i64 0),.nil]:=⟨d5 Tryz.z147⟩
instance:TyE prog 147 [.i .i64 0,.l []]:=⟨d5 Tryz.z147⟩
instance:TyB prog 147 [(0,1),(1,1)]:=⟨_,underlying147,λw=>by kernel_rfl⟩
instance:TyF prog 147 0 0 3:=⟨_,_,underlying147,rfl,rfl,rfl,dF 1⟩
instance:TyF prog 147 1 1 63:=⟨_,_,underlying147,rfl,rfl,rfl,dF 1⟩
instance:TyN prog 172 1:=⟨d4⟩
instance:TyAg prog 172 1:=⟨λw=>by kernel_rfl,d4⟩
theorem Tryz.z172:(prog.info? 172).map (·.zero)=some (some (.agg #[.slice none 0 0])):=by kernel_rfl
instance:TyZ prog 172 [.nil]:=⟨d5 Tryz.z172⟩
instance:TyE prog 172 [.l []]:=⟨d5 Tryz.z172⟩
instance:TyB prog 172 [(0,1)]:=⟨_,underlying172,λw=>by kernel_rfl⟩
instance:TyF prog 172 0 0 63:=⟨_,_,underlying172,rfl,rfl,rfl,dF 1⟩
instance:TyN prog 182 1:=⟨d4⟩
instance:TySc prog 182:=⟨λw=>by kernel_rfl,d4⟩
theorem Tryz.z182:(prog.info? 182).map (·.zero)=some (some (.slice none 0 0)):=by kernel_rfl
instance:TyZ prog 182 [.nil]:=⟨d5 Tryz.z182⟩
instance:TyE prog 182 [.l []]:=⟨d5 Tryz.z182⟩
instance:TySl prog 182 43 11 88:=⟨underlying182,m9 (z:=.agg #[.int .i64 0,.int .i64 0,.int .i64 0,.int .i64 0,.int .i64 0,.int .i64 0,.int .i64 0,.int .i64 0,.int .i64 0,.int .i64 0,.int .i64 0]) (by kernel_rfl) rfl,by decide⟩
instance:TyN prog 184 31:=⟨d4⟩
instance:TyAg prog 184 31:=⟨λw=>by kernel_rfl,d4⟩
theorem Tryz.z184:(prog.info? 184).map (·.zero)=some (some (.agg #[.int .i64 0,.int .i64 0,.int .i64 0,.int .i64 0,.int .i64 0,.int .i64 0,.int .i64 0,.slice none 0 0,.int .i64 0,.int .i64 0,.int .i64 0,.int .i64 0,.int .i64 0,.int .i64 0,.int .i64 0,.int .i64 0,.int .i64 0,.int .i64 0,.int .i64 0,.int .i64 0,.int .i64 0,.int .i64 0,.int .i64 0,.slice none 0 0,.int .i64 0,.slice none 0 0,.int .i64 0,.int .i64 0,.int .i64 0,.int .i64 0,.slice none 0 0])):=by kernel_rfl
instance:TyZ prog 184 [.d false (.i .i64 0),.d false (.i .i64 0),.d false (.i .i64 0),.d false (.i .i64 0),.d false (.i .i64 0),.d false (.i .i64 0),.d false (.i .i64 0),.nil,.d false (.i .i64 0),.d false (.i .i64 0),.d false (.i .i64 0),.d false (.i .i64 0),.d false (.i .i64 0),.d false (.i .i64 0),.d false (.i .i64 0),.d false (.i .i64 0),.d false (.i .i64 0),.d false (.i .i64 0),.d false (.i .i64 0),.d false (.i .i64 0),.d false (.i .i64 0),.d false (.i .i64 0),.d false (.i .i64 0),.nil,.d false (.i .i64 0),.nil,.d false (.i .i64 0),.d false (.i .i64 0),.d false (.i .i64 0),.d false (.i .i64 0),.nil]:=⟨d5 Tryz.z184⟩
instance:TyE prog 184 [.i .i64 0,.i .i64 0,.i .i64 0,.i .i64 0,.i .i64 0,.i .i64 0,.i .i64 0,.l [],.i .i64 0,.i .i64 0,.i .i64 0,.i .i64 0,.i .i64 0,.i .i64 0,.i .i64 0,.i .i64 0,.i .i64 0,.i .i64 0,.i .i64 0,.i .i64 0,.i .i64 0,.i .i64 0,.i .i64 0,.l [],.i .i64 0,.l [],.i .i64 0,.i .i64 0,.i .i64 0,.i .i64 0,.l []]:=⟨d5 Tryz.z184⟩
instance:TyB prog 184 [(0,30),(30,1)]:=⟨_,underlying184,λw=>by kernel_rfl⟩
instance:TyF prog 184 0 0 75:=⟨_,_,underlying184,rfl,rfl,rfl,dF 30⟩
instance:TyF prog 184 1 30 182:=⟨_,_,underlying184,rfl,rfl,rfl,dF 1⟩
instance:TyN prog 189 15:=⟨d4⟩
instance:TyAg prog 189 15:=⟨λw=>by kernel_rfl,d4⟩
theorem Tryz.z189:(prog.info? 189).map (·.zero)=some (some (.agg #[.int .i64 0,.int .i64 0,.int .i64 0,.int .i64 0,.int .i64 0,.int .i64 0,.int .i64 0,.int .i64 0,.int .i64 0,.bool false,.int .i64 0,.int .i64 0,.slice none 0 0,.slice none 0 0,.slice none 0 0])):=by kernel_rfl
instance:TyZ prog 189 [.d false (.i .i64 0),.d false (.i .i64 0),.d false (.i .i64 0),.d false (.i .i64 0),.d false (.i .i64 0),.d false (.i .i64 0),.d false (.i .i64 0),.d false (.i .i64 0),.d false (.i .i64 0),.d false (.b false),.d false (.i .i64 0),.d false (.i .i64 0),.nil,.nil,.nil]:=⟨d5 Tryz.z189⟩
instance:TyE prog 189 [.i .i64 0,.i .i64 0,.i .i64 0,.i .i64 0,.i .i64 0,.i .i64 0,.i .i64 0,.i .i64 0,.i .i64 0,.b false,.i .i64 0,.i .i64 0,.l [],.l [],.l []]:=⟨d5 Tryz.z189⟩
instance:TyB prog 189 [(0,14),(14,1)]:=⟨_,underlying189,λw=>by kernel_rfl⟩
instance:TyF prog 189 0 0 93:=⟨_,_,underlying189,rfl,rfl,rfl,dF 14⟩
instance:TyF prog 189 1 14 182:=⟨_,_,underlying189,rfl,rfl,rfl,dF 1⟩
instance:TyN prog 193 1:=⟨d4⟩
instance:TySc prog 193:=⟨λw=>by kernel_rfl,d4⟩
theorem Tryz.z193:(prog.info? 193).map (·.zero)=some (some (.slice none 0 0)):=by kernel_rfl
instance:TyZ prog 193 [.nil]:=⟨d5 Tryz.z193⟩
instance:TyE prog 193 [.l []]:=⟨d5 Tryz.z193⟩
instance:TySl prog 193 47 6 64:=⟨underlying193,m9 (z:=.agg #[.int .i64 0,.int .i64 0,.int .i64 0,.int .i64 0,.slice none 0 0,.int .i64 0]) (by kernel_rfl) rfl,by decide⟩
instance:TyN prog 195 36:=⟨d4⟩
instance:TyAg prog 195 36:=⟨λw=>by kernel_rfl,d4⟩
theorem Tryz.z195:(prog.info? 195).map (·.zero)=some (some (.agg #[.int .i64 0,.int .i64 0,.int .i64 0,.int .i64 0,.int .i64 0,.int .i64 0,.int .i64 0,.slice none 0 0,.int .i64 0,.int .i64 0,.int .i64 0,.int .i64 0,.int .i64 0,.int .i64 0,.int .i64 0,.int .i64 0,.int .i64 0,.int .i64 0,.int .i64 0,.int .i64 0,.int .i64 0,.int .i64 0,.int .i64 0,.slice none 0 0,.int .i64 0,.slice none 0 0,.int .i64 0,.int .i64 0,.int .i64 0,.int .i64 0,.int .i64 0,.int .i64 0,.int .i64 0,.slice none 0 0,.slice none 0 0,.slice none 0 0])):=by kernel_rfl
instance:TyZ prog 195 [.d false (.i .i64 0),.d false (.i .i64 0),.d false (.i .i64 0),.d false (.i .i64 0),.d false (.i .i64 0),.d false (.i .i64 0),.d false (.i .i64 0),.nil,.d false (.i .i64 0),.d false (.i .i64 0),.d false (.i .i64 0),.d false (.i .i64 0),.d false (.i .i64 0),.d false (.i .i64 0),.d false (.i .i64 0),.d false (.i .i64 0),.d false (.i .i64 0),.d false (.i .i64 0),.d false (.i .i64 0),.d false (.i .i64 0),.d false (.i .i64 0),.d false (.i .i64 0),.d false (.i .i64 0),.nil,.d false (.i .i64 0),.nil,.d false (.i .i64 0),.d false (.i .i64 0),.d false (.i .i64 0),.d false (.i .i64 0),.d false (.i .i64 0),.d false (.i .i64 0),.d false (.i .i64 0),.nil,.nil,.nil]:=⟨d5 Tryz.z195⟩
instance:TyE prog 195 [.i .i64 0,.i .i64 0,.i .i64 0,.i .i64 0,.i .i64 0,.i .i64 0,.i .i64 0,.l [],.i .i64 0,.i .i64 0,.i .i64 0,.i .i64 0,.i .i64 0,.i .i64 0,.i .i64 0,.i .i64 0,.i .i64 0,.i .i64 0,.i .i64 0,.i .i64 0,.i .i64 0,.i .i64 0,.i .i64 0,.l [],.i .i64 0,.l [],.i .i64 0,.i .i64 0,.i .i64 0,.i .i64 0,.i .i64 0,.i .i64 0,.i .i64 0,.l [],.l [],.l []]:=⟨d5 Tryz.z195⟩
instance:TyB prog 195 [(0,30),(30,4),(34,1),(35,1)]:=⟨_,underlying195,λw=>by kernel_rfl⟩
instance:TyF prog 195 0 0 75:=⟨_,_,underlying195,rfl,rfl,rfl,dF 30⟩
instance:TyF prog 195 1 30 57:=⟨_,_,underlying195,rfl,rfl,rfl,dF 4⟩
instance:TyF prog 195 2 34 182:=⟨_,_,underlying195,rfl,rfl,rfl,dF 1⟩
instance:TyF prog 195 3 35 193:=⟨_,_,underlying195,rfl,rfl,rfl,dF 1⟩
instance:TyN prog 219 1:=⟨d4⟩
instance:TySc prog 219:=⟨λw=>by kernel_rfl,d4⟩
theorem Tryz.z219:(prog.info? 219).map (·.zero)=some (some (.slice none 0 0)):=by kernel_rfl
instance:TyZ prog 219 [.nil]:=⟨d5 Tryz.z219⟩
instance:TyE prog 219 [.l []]:=⟨d5 Tryz.z219⟩
instance:TySl prog 219 62 4 32:=⟨underlying219,m9 (z:=.agg #[.int .i64 0,.int .i64 0,.int .i64 0,.int .i64 0]) (by kernel_rfl) rfl,by decide⟩
instance:TyN prog 231 2:=⟨d4⟩
instance:TyAg prog 231 2:=⟨λw=>by kernel_rfl,d4⟩
theorem Tryz.z231:(prog.info? 231).map (·.zero)=some (some (.agg #[.int .i64 0,.slice none 0 0])):=by kernel_rfl
instance:TyZ prog 231 [.d false (.i .i64 0),.nil]:=⟨d5 Tryz.z231⟩
instance:TyE prog 231 [.i .i64 0,.l []]:=⟨d5 Tryz.z231⟩
instance:TyB prog 231 [(0,1),(1,1)]:=⟨_,underlying231,λw=>by kernel_rfl⟩
instance:TyF prog 231 0 0 3:=⟨_,_,underlying231,rfl,rfl,rfl,dF 1⟩
instance:TyF prog 231 1 1 172:=⟨_,_,underlying231,rfl,rfl,rfl,dF 1⟩
instance:TyN prog 274 4:=⟨d4⟩
instance:TyAg prog 274 4:=⟨λw=>by kernel_rfl,d4⟩
theorem Tryz.z274:(prog.info? 274).map (·.zero)=some (some (.agg #[.int .i64 0,.int .i64 0,.int .i64 0,.int .i64 0])):=by kernel_rfl
instance:TyZ prog 274 [.d false (.i .i64 0),.d false (.i .i64 0),.d false (.i .i64 0),.d false (.i .i64 0)]:=⟨d5 Tryz.z274⟩
instance:TyE prog 274 [.i .i64 0,.i .i64 0,.i .i64 0,.i .i64 0]:=⟨d5 Tryz.z274⟩
instance:TyB prog 274 [(0,1),(1,1),(2,1),(3,1)]:=⟨_,underlying274,λw=>by kernel_rfl⟩
instance:TyF prog 274 0 0 3:=⟨_,_,underlying274,rfl,rfl,rfl,dF 1⟩
instance:TyF prog 274 1 1 3:=⟨_,_,underlying274,rfl,rfl,rfl,dF 1⟩
instance:TyF prog 274 2 2 3:=⟨_,_,underlying274,rfl,rfl,rfl,dF 1⟩
instance:TyF prog 274 3 3 3:=⟨_,_,underlying274,rfl,rfl,rfl,dF 1⟩
theorem Tryz.sh5:xn prog 5 [.i .u8]:=.int underlying5
theorem Tryz.sh22:xn prog 22 [.l [.i .u8]]:=.slice underlying22 Tryz.sh5 (by kernel_rfl) (by decide)
theorem Tryz.eqa32:EqA prog 2 32 [.i .i64,.i .i64]:=jc (k:=1) underlying32 (by kernel_rfl) (iB rfl (by decide) inferInstance (eG underlying3) (iB rfl (by decide) inferInstance (eG underlying3) (pL)))
instance:TyEq prog 32 [.i .i64,.i .i64]:=⟨⟨2,by decide,Tryz.eqa32⟩,by kernel_rfl⟩
theorem Tryz.eqa41:EqA prog 2 41 [.i .i64,.i .i64,.i .i64,.i .i64,.i .i64]:=jc (k:=1) underlying41 (by kernel_rfl) (iB rfl (by decide) inferInstance (eG underlying3) (iB rfl (by decide) inferInstance (eG underlying3) (iB rfl (by decide) inferInstance (eG underlying3) (iB rfl (by decide) inferInstance (eG underlying3) (iB rfl (by decide) inferInstance (eG underlying3) (pL))))))
instance:TyEq prog 41 [.i .i64,.i .i64,.i .i64,.i .i64,.i .i64]:=⟨⟨2,by decide,Tryz.eqa41⟩,by kernel_rfl⟩
theorem Tryz.eqa43:EqA prog 3 43 [.i .i64,.i .i64,.i .i64,.i .i64,.i .i64,.i .i64,.i .i64,.i .i64,.i .i64,.i .i64,.i .i64]:=jc (k:=2) underlying43 (by kernel_rfl) (iB rfl (by decide) inferInstance (eG underlying3) (iB rfl (by decide) inferInstance (eG underlying3) (iB rfl (by decide) inferInstance (eG underlying3) (iB rfl (by decide) inferInstance (eG underlying3) (iB rfl (by decide) inferInstance (eG underlying3) (TW (n:=5) (s1:=[.i .i64,.i .i64,.i .i64,.i .i64,.i .i64]) rfl (by decide) inferInstance rfl (by decide) Tryz.eqa41 (iB rfl (by decide) inferInstance (eG underlying3) (pL))))))))
instance:TyEq prog 43 [.i .i64,.i .i64,.i .i64,.i .i64,.i .i64,.i .i64,.i .i64,.i .i64,.i .i64,.i .i64,.i .i64]:=⟨⟨3,by decide,Tryz.eqa43⟩,by kernel_rfl⟩
theorem Tryz.eqa60:EqA prog 2 60 [.i .i64,.i .i64]:=jc (k:=1) underlying60 (by kernel_rfl) (iB rfl (by decide) inferInstance (eG underlying3) (iB rfl (by decide) inferInstance (eG underlying3) (pL)))
instance:TyEq prog 60 [.i .i64,.i .i64]:=⟨⟨2,by decide,Tryz.eqa60⟩,by kernel_rfl⟩
theorem Tryz.eqa62:EqA prog 3 62 [.i .i64,.i .i64,.i .i64,.i .i64]:=jc (k:=2) underlying62 (by kernel_rfl) (TW (n:=2) (s1:=[.i .i64,.i .i64]) rfl (by decide) inferInstance rfl (by decide) Tryz.eqa60 (iB rfl (by decide) inferInstance (eG underlying3) (iB rfl (by decide) inferInstance (eG underlying3) (pL))))
instance:TyEq prog 62 [.i .i64,.i .i64,.i .i64,.i .i64]:=⟨⟨3,by decide,Tryz.eqa62⟩,by kernel_rfl⟩
theorem Tryz.eqa67:EqA prog 2 67 [.i .i64,.i .i64,.i .i64]:=jc (k:=1) underlying67 (by kernel_rfl) (iB rfl (by decide) inferInstance (eG underlying3) (iB rfl (by decide) inferInstance (eG underlying3) (iB rfl (by decide) inferInstance (eG underlying3) (pL))))
instance:TyEq prog 67 [.i .i64,.i .i64,.i .i64]:=⟨⟨2,by decide,Tryz.eqa67⟩,by kernel_rfl⟩
theorem Tryz.eqa73:EqA prog 2 73 [.i .i64,.i .i64,.i .i64]:=jc (k:=1) underlying73 (by kernel_rfl) (iB rfl (by decide) inferInstance (eG underlying3) (iB rfl (by decide) inferInstance (eG underlying3) (iB rfl (by decide) inferInstance (eG underlying3) (pL))))
instance:TyEq prog 73 [.i .i64,.i .i64,.i .i64]:=⟨⟨2,by decide,Tryz.eqa73⟩,by kernel_rfl⟩
theorem Tryz.eqa89:EqA prog 3 89 [.i .i64,.i .i64,.i .i64,.i .i64]:=jc (k:=2) underlying89 (by kernel_rfl) (TW (n:=2) (s1:=[.i .i64,.i .i64]) rfl (by decide) inferInstance rfl (by decide) Tryz.eqa60 (iB rfl (by decide) inferInstance (eG underlying3) (iB rfl (by decide) inferInstance (eG underlying3) (pL))))
instance:TyEq prog 89 [.i .i64,.i .i64,.i .i64,.i .i64]:=⟨⟨3,by decide,Tryz.eqa89⟩,by kernel_rfl⟩
theorem Tryz.eqa115:EqA prog 2 115 [.i .i64,.i .i64]:=jc (k:=1) underlying115 (by kernel_rfl) (iB rfl (by decide) inferInstance (eG underlying3) (iB rfl (by decide) inferInstance (eG underlying3) (pL)))
instance:TyEq prog 115 [.i .i64,.i .i64]:=⟨⟨2,by decide,Tryz.eqa115⟩,by kernel_rfl⟩
theorem Tryz.eqa274:EqA prog 2 274 [.i .i64,.i .i64,.i .i64,.i .i64]:=jc (k:=1) underlying274 (by kernel_rfl) (iB rfl (by decide) inferInstance (eG underlying3) (iB rfl (by decide) inferInstance (eG underlying3) (iB rfl (by decide) inferInstance (eG underlying3) (iB rfl (by decide) inferInstance (eG underlying3) (pL)))))
instance:TyEq prog 274 [.i .i64,.i .i64,.i .i64,.i .i64]:=⟨⟨2,by decide,Tryz.eqa274⟩,by kernel_rfl⟩
theorem Tryz.follows:prog.follows .mixedOrders=true:=by kernel_rfl
structure fr where
 fJ:Int
 cr:List Int
 deriving DecidableEq,Inhabited
def dy (a:fr):List D:=[.i .i64 a.fJ,.l (a.cr.map eI)]
def Od (a:fr):List F:=[.s (.i .i64 a.fJ),.l 3 1 (a.cr.map eI) a.cr.length]
def Pn:fr:=⟨0,[]⟩
structure aS where
 aX:List fr
 deriving DecidableEq,Inhabited
def iw (a:aS):List D:=[.l (a.aX.map dy)]
def SF:aS:=⟨[]⟩
structure bN where
 fo:Int
 fj:Int
 deriving DecidableEq,Inhabited
def nR (a:bN):List D:=[.i .i64 a.fo,.i .i64 a.fj]
def eR (a:bN):List F:=[.s (.i .i64 a.fo),.s (.i .i64 a.fj)]
def xm:bN:=⟨0,0⟩
structure dD where
 dN:Int
 bL:Int
 deriving DecidableEq,Inhabited
def nT (a:dD):List D:=[.i .i64 a.dN,.i .i64 a.bL]
def zF:dD:=⟨0,0⟩
structure kZ where
 ID:dD
 eP:Int
 dm:Int
 deriving DecidableEq,Inhabited
def Ge (a:kZ):List D:=[.i .i64 a.ID.dN,.i .i64 a.ID.bL,.i .i64 a.eP,.i .i64 a.dm]
def uH (a:kZ):List F:=[.s (.i .i64 a.ID.dN),.s (.i .i64 a.ID.bL),.s (.i .i64 a.eP),.s (.i .i64 a.dm)]
def H3:kZ:=⟨zF,0,0⟩
structure ae where
 cV:Int
 bg:List Int
 deriving DecidableEq,Inhabited
def an (a:ae):List D:=[.i .i64 a.cV,.l (a.bg.map eU8)]
def di (a:ae):List F:=[.s (.i .i64 a.cV),.l 5 1 (a.bg.map eU8) a.bg.length]
def bP:ae:=⟨0,[]⟩
structure bM where
 bg:List Int
 deriving DecidableEq,Inhabited
def da (a:bM):List D:=[.l (a.bg.map eU8)]
structure aO where
 bB:Int
 aC:List ae
 bi:List bM
 deriving DecidableEq,Inhabited
def fK (a:aO):List D:=[.i .i64 a.bB,.l (a.aC.map an),.l (a.bi.map da)]
def bH (a:aO):List F:=[.s (.i .i64 a.bB),.l 131 2 (a.aC.map an) a.aC.length,.l 119 1 (a.bi.map da) a.bi.length]
def c7:aO:=⟨0,[],[]⟩
structure aJ where
 df:kZ
 bj:Int
 be:Int
 ag:Int
 aV:Int
 aT:Int
 cj:Bool
 eU:Int
 bV:aO
 deriving DecidableEq,Inhabited
def cS (a:aJ):List D:=[.i .i64 a.df.ID.dN,.i .i64 a.df.ID.bL,.i .i64 a.df.eP,.i .i64 a.df.dm,.i .i64 a.bj,.i .i64 a.be,.i .i64 a.ag,.i .i64 a.aV,.i .i64 a.aT,.b a.cj,.i .i64 a.eU,.i .i64 a.bV.bB,.l (a.bV.aC.map an),.l (a.bV.bi.map da)]
def dt (a:aJ):List F:=[.s (.i .i64 a.df.ID.dN),.s (.i .i64 a.df.ID.bL),.s (.i .i64 a.df.eP),.s (.i .i64 a.df.dm),.s (.i .i64 a.bj),.s (.i .i64 a.be),.s (.i .i64 a.ag),.s (.i .i64 a.aV),.s (.i .i64 a.aT),.s (.b a.cj),.s (.i .i64 a.eU),.s (.i .i64 a.bV.bB),.l 131 2 (a.bV.aC.map an) a.bV.aC.length,.l 119 1 (a.bV.bi.map da) a.bV.bi.length]
def zE:aJ:=⟨H3,0,0,0,0,0,false,0,c7⟩
structure aP where
 ID:dD
 eP:Int
 cV:Int
 deriving DecidableEq,Inhabited
def cQ (a:aP):List D:=[.i .i64 a.ID.dN,.i .i64 a.ID.bL,.i .i64 a.eP,.i .i64 a.cV]
def gm (a:aP):List F:=[.s (.i .i64 a.ID.dN),.s (.i .i64 a.ID.bL),.s (.i .i64 a.eP),.s (.i .i64 a.cV)]
def nq:aP:=⟨zF,0,0⟩
structure bD where
 iv:Int
 iu:Int
 eg:Int
 bC:List Int
 deriving DecidableEq,Inhabited
def iA (a:bD):List D:=[.i .i64 a.iv,.i .i64 a.iu,.i .i64 a.eg,.l (a.bC.map eI)]
def dX (a:bD):List F:=[.s (.i .i64 a.iv),.s (.i .i64 a.iu),.s (.i .i64 a.eg),.l 3 1 (a.bC.map eI) a.bC.length]
def pb:bD:=⟨0,0,0,[]⟩
structure cA where
 er:Int
 fY:Int
 iM:Int
 vT:Int
 eP:Int
 deriving DecidableEq,Inhabited
def lK (a:cA):List D:=[.i .i64 a.er,.i .i64 a.fY,.i .i64 a.iM,.i .i64 a.vT,.i .i64 a.eP]
def ei (a:cA):List F:=[.s (.i .i64 a.er),.s (.i .i64 a.fY),.s (.i .i64 a.iM),.s (.i .i64 a.vT),.s (.i .i64 a.eP)]
def cg:cA:=⟨0,0,0,0,0⟩
structure cR where
 fJ:Int
 eQ:Int
 eU:Int
 deriving DecidableEq,Inhabited
def uG (a:cR):List D:=[.i .i64 a.fJ,.i .i64 a.eQ,.i .i64 a.eU]
def ml (a:cR):List F:=[.s (.i .i64 a.fJ),.s (.i .i64 a.eQ),.s (.i .i64 a.eU)]
def ec:cR:=⟨0,0,0⟩
structure aY where
 bB:Int
 aw:List ae
 deriving DecidableEq,Inhabited
def gz (a:aY):List D:=[.i .i64 a.bB,.l (a.aw.map an)]
def dE (a:aY):List F:=[.s (.i .i64 a.bB),.l 131 2 (a.aw.map an) a.aw.length]
def jY:aY:=⟨0,[]⟩
structure cX where
 aG:Int
 cG:Int
 ev:Int
 deriving DecidableEq,Inhabited
def pK (a:cX):List D:=[.i .i64 a.aG,.i .i64 a.cG,.i .i64 a.ev]
def nU (a:cX):List F:=[.s (.i .i64 a.aG),.s (.i .i64 a.cG),.s (.i .i64 a.ev)]
def C0:cX:=⟨0,0,0⟩
structure ah where
 bA:aP
 gF:bD
 bj:Int
 aC:cA
 bE:Int
 ag:Int
 aV:Int
 aT:Int
 be:Int
 d6:Int
 ge:cR
 aM:List bM
 ax:aY
 dP:Int
 bT:cX
 deriving DecidableEq,Inhabited
def bU (a:ah):List D:=[.i .i64 a.bA.ID.dN,.i .i64 a.bA.ID.bL,.i .i64 a.bA.eP,.i .i64 a.bA.cV,.i .i64 a.gF.iv,.i .i64 a.gF.iu,.i .i64 a.gF.eg,.l (a.gF.bC.map eI),.i .i64 a.bj,.i .i64 a.aC.er,.i .i64 a.aC.fY,.i .i64 a.aC.iM,.i .i64 a.aC.vT,.i .i64 a.aC.eP,.i .i64 a.bE,.i .i64 a.ag,.i .i64 a.aV,.i .i64 a.aT,.i .i64 a.be,.i .i64 a.d6,.i .i64 a.ge.fJ,.i .i64 a.ge.eQ,.i .i64 a.ge.eU,.l (a.aM.map da),.i .i64 a.ax.bB,.l (a.ax.aw.map an),.i .i64 a.dP,.i .i64 a.bT.aG,.i .i64 a.bT.cG,.i .i64 a.bT.ev]
def ct (a:ah):List F:=[.s (.i .i64 a.bA.ID.dN),.s (.i .i64 a.bA.ID.bL),.s (.i .i64 a.bA.eP),.s (.i .i64 a.bA.cV),.s (.i .i64 a.gF.iv),.s (.i .i64 a.gF.iu),.s (.i .i64 a.gF.eg),.l 3 1 (a.gF.bC.map eI) a.gF.bC.length,.s (.i .i64 a.bj),.s (.i .i64 a.aC.er),.s (.i .i64 a.aC.fY),.s (.i .i64 a.aC.iM),.s (.i .i64 a.aC.vT),.s (.i .i64 a.aC.eP),.s (.i .i64 a.bE),.s (.i .i64 a.ag),.s (.i .i64 a.aV),.s (.i .i64 a.aT),.s (.i .i64 a.be),.s (.i .i64 a.d6),.s (.i .i64 a.ge.fJ),.s (.i .i64 a.ge.eQ),.s (.i .i64 a.ge.eU),.l 119 1 (a.aM.map da) a.aM.length,.s (.i .i64 a.ax.bB),.l 131 2 (a.ax.aw.map an) a.ax.aw.length,.s (.i .i64 a.dP),.s (.i .i64 a.bT.aG),.s (.i .i64 a.bT.cG),.s (.i .i64 a.bT.ev)]
def rZ:ah:=⟨nq,pb,0,cg,0,0,0,0,0,0,ec,[],jY,0,C0⟩
structure aH where
 aG:Int
 d8:Int
 deriving DecidableEq,Inhabited
def bv (a:aH):List D:=[.i .i64 a.aG,.i .i64 a.d8]
def H7 (a:aH):List F:=[.s (.i .i64 a.aG),.s (.i .i64 a.d8)]
def dJ:aH:=⟨0,0⟩
structure am where
 fw:Int
 bJ:Int
 eD:Int
 aj:List aH
 deriving DecidableEq,Inhabited
def cN (a:am):List D:=[.i .i64 a.fw,.i .i64 a.bJ,.i .i64 a.eD,.l (a.aj.map bv)]
def cZ (a:am):List F:=[.s (.i .i64 a.fw),.s (.i .i64 a.bJ),.s (.i .i64 a.eD),.l 115 2 (a.aj.map bv) a.aj.length]
def lW:am:=⟨0,0,0,[]⟩
structure aD where
 a8:Int
 be:Int
 ag:Int
 aT:Int
 bL:Int
 bW:cA
 iM:Int
 deriving DecidableEq,Inhabited
def c9 (a:aD):List D:=[.i .i64 a.a8,.i .i64 a.be,.i .i64 a.ag,.i .i64 a.aT,.i .i64 a.bL,.i .i64 a.bW.er,.i .i64 a.bW.fY,.i .i64 a.bW.iM,.i .i64 a.bW.vT,.i .i64 a.bW.eP,.i .i64 a.iM]
def cP (a:aD):List F:=[.s (.i .i64 a.a8),.s (.i .i64 a.be),.s (.i .i64 a.ag),.s (.i .i64 a.aT),.s (.i .i64 a.bL),.s (.i .i64 a.bW.er),.s (.i .i64 a.bW.fY),.s (.i .i64 a.bW.iM),.s (.i .i64 a.bW.vT),.s (.i .i64 a.bW.eP),.s (.i .i64 a.iM)]
def dQ:aD:=⟨0,0,0,0,0,cg,0⟩
structure bp where
 cM:Int
 fE:Int
 bg:List Int
 iM:Int
 deriving DecidableEq,Inhabited
def eh (a:bp):List D:=[.i .i64 a.cM,.i .i64 a.fE,.l (a.bg.map eU8),.i .i64 a.iM]
def pf (a:bp):List F:=[.s (.i .i64 a.cM),.s (.i .i64 a.fE),.l 5 1 (a.bg.map eU8) a.bg.length,.s (.i .i64 a.iM)]
def lX:bp:=⟨0,0,[],0⟩
structure aA where
 ag:Int
 aT:Int
 bz:bp
 deriving DecidableEq,Inhabited
def dH (a:aA):List D:=[.i .i64 a.ag,.i .i64 a.aT,.i .i64 a.bz.cM,.i .i64 a.bz.fE,.l (a.bz.bg.map eU8),.i .i64 a.bz.iM]
def jd (a:aA):List F:=[.s (.i .i64 a.ag),.s (.i .i64 a.aT),.s (.i .i64 a.bz.cM),.s (.i .i64 a.bz.fE),.l 5 1 (a.bz.bg.map eU8) a.bz.bg.length,.s (.i .i64 a.bz.iM)]
def eE:aA:=⟨0,0,lX⟩
structure bF where
 bk:Int
 eH:Bool
 dR:Bool
 be:Int
 bh:aD
 cz:aA
 deriving DecidableEq,Inhabited
def dr (a:bF):List D:=[.i .i64 a.bk,.b a.eH,.b a.dR,.i .i64 a.be,.i .i64 a.bh.a8,.i .i64 a.bh.be,.i .i64 a.bh.ag,.i .i64 a.bh.aT,.i .i64 a.bh.bL,.i .i64 a.bh.bW.er,.i .i64 a.bh.bW.fY,.i .i64 a.bh.bW.iM,.i .i64 a.bh.bW.vT,.i .i64 a.bh.bW.eP,.i .i64 a.bh.iM,.i .i64 a.cz.ag,.i .i64 a.cz.aT,.i .i64 a.cz.bz.cM,.i .i64 a.cz.bz.fE,.l (a.cz.bz.bg.map eU8),.i .i64 a.cz.bz.iM]
def jt (a:bF):List F:=[.s (.i .i64 a.bk),.s (.b a.eH),.s (.b a.dR),.s (.i .i64 a.be),.s (.i .i64 a.bh.a8),.s (.i .i64 a.bh.be),.s (.i .i64 a.bh.ag),.s (.i .i64 a.bh.aT),.s (.i .i64 a.bh.bL),.s (.i .i64 a.bh.bW.er),.s (.i .i64 a.bh.bW.fY),.s (.i .i64 a.bh.bW.iM),.s (.i .i64 a.bh.bW.vT),.s (.i .i64 a.bh.bW.eP),.s (.i .i64 a.bh.iM),.s (.i .i64 a.cz.ag),.s (.i .i64 a.cz.aT),.s (.i .i64 a.cz.bz.cM),.s (.i .i64 a.cz.bz.fE),.l 5 1 (a.cz.bz.bg.map eU8) a.cz.bz.bg.length,.s (.i .i64 a.cz.bz.iM)]
def eF:bF:=⟨0,false,false,0,dQ,eE⟩
structure ab where
 eo:aS
 av:List aJ
 aF:List ah
 bG:List am
 aK:List bF
 dv:Int
 ef:bN
 qz:Int
 jr:Int
 deriving DecidableEq,Inhabited
def iy (a:ab):List D:=[.l (a.eo.aX.map dy),.l (a.av.map cS),.l (a.aF.map bU),.l (a.bG.map cN),.l (a.aK.map dr),.i .i64 a.dv,.i .i64 a.ef.fo,.i .i64 a.ef.fj,.i .i64 a.qz,.i .i64 a.jr]
def aU (a:ab):List F:=[.l 147 2 (a.eo.aX.map dy) a.eo.aX.length,.l 93 14 (a.av.map cS) a.av.length,.l 75 30 (a.aF.map bU) a.aF.length,.l 57 4 (a.bG.map cN) a.bG.length,.l 49 21 (a.aK.map dr) a.aK.length,.s (.i .i64 a.dv),.s (.i .i64 a.ef.fo),.s (.i .i64 a.ef.fj),.s (.i .i64 a.qz),.s (.i .i64 a.jr)]
def dT:ab:=⟨SF,[],[],[],[],0,xm,0,0⟩
structure dh where
 a8:Int
 cF:Int
 be:Int
 bg:List Int
 bS:bF
 deriving DecidableEq,Inhabited
def Fk (a:dh):List D:=[.i .i64 a.a8,.i .i64 a.cF,.i .i64 a.be,.l (a.bg.map eU8),.i .i64 a.bS.bk,.b a.bS.eH,.b a.bS.dR,.i .i64 a.bS.be,.i .i64 a.bS.bh.a8,.i .i64 a.bS.bh.be,.i .i64 a.bS.bh.ag,.i .i64 a.bS.bh.aT,.i .i64 a.bS.bh.bL,.i .i64 a.bS.bh.bW.er,.i .i64 a.bS.bh.bW.fY,.i .i64 a.bS.bh.bW.iM,.i .i64 a.bS.bh.bW.vT,.i .i64 a.bS.bh.bW.eP,.i .i64 a.bS.bh.iM,.i .i64 a.bS.cz.ag,.i .i64 a.bS.cz.aT,.i .i64 a.bS.cz.bz.cM,.i .i64 a.bS.cz.bz.fE,.l (a.bS.cz.bz.bg.map eU8),.i .i64 a.bS.cz.bz.iM]
def fB (a:dh):List F:=[.s (.i .i64 a.a8),.s (.i .i64 a.cF),.s (.i .i64 a.be),.l 5 1 (a.bg.map eU8) a.bg.length,.s (.i .i64 a.bS.bk),.s (.b a.bS.eH),.s (.b a.bS.dR),.s (.i .i64 a.bS.be),.s (.i .i64 a.bS.bh.a8),.s (.i .i64 a.bS.bh.be),.s (.i .i64 a.bS.bh.ag),.s (.i .i64 a.bS.bh.aT),.s (.i .i64 a.bS.bh.bL),.s (.i .i64 a.bS.bh.bW.er),.s (.i .i64 a.bS.bh.bW.fY),.s (.i .i64 a.bS.bh.bW.iM),.s (.i .i64 a.bS.bh.bW.vT),.s (.i .i64 a.bS.bh.bW.eP),.s (.i .i64 a.bS.bh.iM),.s (.i .i64 a.bS.cz.ag),.s (.i .i64 a.bS.cz.aT),.s (.i .i64 a.bS.cz.bz.cM),.s (.i .i64 a.bS.cz.bz.fE),.l 5 1 (a.bS.cz.bz.bg.map eU8) a.bS.cz.bz.bg.length,.s (.i .i64 a.bS.cz.bz.iM)]
def d9:dh:=⟨0,0,0,[],eF⟩
structure bm where
 fb:List Int
 fi:Int
 fh:Int
 deriving DecidableEq,Inhabited
def WO (a:bm):List D:=[.l (a.fb.map eU8),.i .i64 a.fi,.i .i64 a.fh]
def ci (a:bm):List F:=[.l 5 1 (a.fb.map eU8) a.fb.length,.s (.i .i64 a.fi),.s (.i .i64 a.fh)]
structure fF where
 Steps:List Int
 deriving DecidableEq,Inhabited
def IU (a:fF):List D:=[.l (a.Steps.map eI)]
structure bI where
 aZ:ah
 db:List aD
 deriving DecidableEq,Inhabited
def cK (a:bI):List F:=[.s (.i .i64 a.aZ.bA.ID.dN),.s (.i .i64 a.aZ.bA.ID.bL),.s (.i .i64 a.aZ.bA.eP),.s (.i .i64 a.aZ.bA.cV),.s (.i .i64 a.aZ.gF.iv),.s (.i .i64 a.aZ.gF.iu),.s (.i .i64 a.aZ.gF.eg),.l 3 1 (a.aZ.gF.bC.map eI) a.aZ.gF.bC.length,.s (.i .i64 a.aZ.bj),.s (.i .i64 a.aZ.aC.er),.s (.i .i64 a.aZ.aC.fY),.s (.i .i64 a.aZ.aC.iM),.s (.i .i64 a.aZ.aC.vT),.s (.i .i64 a.aZ.aC.eP),.s (.i .i64 a.aZ.bE),.s (.i .i64 a.aZ.ag),.s (.i .i64 a.aZ.aV),.s (.i .i64 a.aZ.aT),.s (.i .i64 a.aZ.be),.s (.i .i64 a.aZ.d6),.s (.i .i64 a.aZ.ge.fJ),.s (.i .i64 a.aZ.ge.eQ),.s (.i .i64 a.aZ.ge.eU),.l 119 1 (a.aZ.aM.map da) a.aZ.aM.length,.s (.i .i64 a.aZ.ax.bB),.l 131 2 (a.aZ.ax.aw.map an) a.aZ.ax.aw.length,.s (.i .i64 a.aZ.dP),.s (.i .i64 a.aZ.bT.aG),.s (.i .i64 a.aZ.bT.cG),.s (.i .i64 a.aZ.bT.ev),.l 43 11 (a.db.map c9) a.db.length]
def fg:bI:=⟨rZ,[]⟩
structure a9 where
 bk:aJ
 db:List aD
 deriving DecidableEq,Inhabited
def cf (a:a9):List F:=[.s (.i .i64 a.bk.df.ID.dN),.s (.i .i64 a.bk.df.ID.bL),.s (.i .i64 a.bk.df.eP),.s (.i .i64 a.bk.df.dm),.s (.i .i64 a.bk.bj),.s (.i .i64 a.bk.be),.s (.i .i64 a.bk.ag),.s (.i .i64 a.bk.aV),.s (.i .i64 a.bk.aT),.s (.b a.bk.cj),.s (.i .i64 a.bk.eU),.s (.i .i64 a.bk.bV.bB),.l 131 2 (a.bk.bV.aC.map an) a.bk.bV.aC.length,.l 119 1 (a.bk.bV.bi.map da) a.bk.bV.bi.length,.l 43 11 (a.db.map c9) a.db.length]
def dZ:a9:=⟨zE,[]⟩
structure bZ where
 aZ:ah
 eL:am
 kF:List aD
 cz:List aA
 deriving DecidableEq,Inhabited
def cY (a:bZ):List F:=[.s (.i .i64 a.aZ.bA.ID.dN),.s (.i .i64 a.aZ.bA.ID.bL),.s (.i .i64 a.aZ.bA.eP),.s (.i .i64 a.aZ.bA.cV),.s (.i .i64 a.aZ.gF.iv),.s (.i .i64 a.aZ.gF.iu),.s (.i .i64 a.aZ.gF.eg),.l 3 1 (a.aZ.gF.bC.map eI) a.aZ.gF.bC.length,.s (.i .i64 a.aZ.bj),.s (.i .i64 a.aZ.aC.er),.s (.i .i64 a.aZ.aC.fY),.s (.i .i64 a.aZ.aC.iM),.s (.i .i64 a.aZ.aC.vT),.s (.i .i64 a.aZ.aC.eP),.s (.i .i64 a.aZ.bE),.s (.i .i64 a.aZ.ag),.s (.i .i64 a.aZ.aV),.s (.i .i64 a.aZ.aT),.s (.i .i64 a.aZ.be),.s (.i .i64 a.aZ.d6),.s (.i .i64 a.aZ.ge.fJ),.s (.i .i64 a.aZ.ge.eQ),.s (.i .i64 a.aZ.ge.eU),.l 119 1 (a.aZ.aM.map da) a.aZ.aM.length,.s (.i .i64 a.aZ.ax.bB),.l 131 2 (a.aZ.ax.aw.map an) a.aZ.ax.aw.length,.s (.i .i64 a.aZ.dP),.s (.i .i64 a.aZ.bT.aG),.s (.i .i64 a.aZ.bT.cG),.s (.i .i64 a.aZ.bT.ev),.s (.i .i64 a.eL.fw),.s (.i .i64 a.eL.bJ),.s (.i .i64 a.eL.eD),.l 115 2 (a.eL.aj.map bv) a.eL.aj.length,.l 43 11 (a.kF.map c9) a.kF.length,.l 47 6 (a.cz.map dH) a.cz.length]
def dw:bZ:=⟨rZ,lW,[],[]⟩
structure Yz where
 ag:Int
 Path:fF
 deriving DecidableEq,Inhabited
structure ig where
 Code:Int
 vT:Int
 vU:Int
 Pr:Int
 deriving DecidableEq,Inhabited
def fZ (a:ig):List F:=[.s (.i .i64 a.Code),.s (.i .i64 a.vT),.s (.i .i64 a.vU),.s (.i .i64 a.Pr)]
def eC:ig:=⟨0,0,0,0⟩
theorem Try.follows:prog.follows .mixedOrders=true:=Tryz.follows
end Go.AM
