/- A part. -/
import Derived.Test.YtmginjngmidkbaaGreatE3
import Derived.Test.YtmginjngmidkbaaGreatProg
set_option linter.unusedVariables false
set_option linter.unusedSimpArgs false
namespace Go.AM
open Go.Proofs
open Tryz
variable {P:Program} {t:TypeId}
theorem ZS {n:Nat} (h:(P.info? t).map (·.size)=some n):∃i,P.info? t=some i/\i.size=n:=by
 cases hi:P.info? t with
 |none=>simp[hi] at h
 |some i=>simp[hi] at h;exact⟨i,rfl,h⟩
theorem ZT {z:Value} (h:(P.info? t).map (·.zero)=some (some z)):∃i,P.info? t=some i/\i.zero=some z:=by
 cases hi:P.info? t with
 |none=>simp[hi] at h
 |some i=>simp[hi] at h;exact⟨i,rfl,h⟩
theorem nL {z:Value} {n b:Nat} (h:(P.info? t).map (λi=>(i.size,i.bytes,i.zero))=some (n,b,some z)) (hz:z.cells.size=n):∃i z,P.info? t=some i/\i.size=n/\i.bytes=b/\i.zero=some z/\z.cells.size=n:=by
 cases hi:P.info? t with
 |none=>simp[hi] at h
 |some i=>simp[hi] at h;exact⟨i,z,rfl,h.1,h.2.1,h.2.2,hz⟩
theorem ZR {n:Nat} (h:(P.info? t).map (·.size)=some n) (hn:n≠0):∃i,P.info? t=some i/\i.size≠0:=by
 cases hi:P.info? t with
 |none=>simp[hi] at h
 |some i=>simp[hi] at h;exact⟨i,rfl,by omega⟩
theorem d7 {z:Value} {Q:Value->Prop} (h:(P.info? t).map (·.zero)=some (some z)) (q:Q z:=by exact rfl):∃i z,P.info? t=some i/\i.zero=some z/\Q z:=by
 obtain⟨i,h1,h2⟩:=ZT h
 exact⟨i,_,h1,h2,q⟩
theorem d6 {n:Nat} (h:(P.info? t).map (·.size)=some n:=by kernel_rfl):∃i,P.info? t=some i/\i.size=n:=ZS h
theorem dB (n:Nat) (h:(P.info? t).map (·.size)=some n:=by kernel_rfl) (hn:n≠0:=by decide):∃i,P.info? t=some i/\i.size≠0:=ZR h hn
instance:TyN prog 3 1:=⟨d6⟩
instance:jN prog 3:=⟨λw=>by kernel_rfl,d6⟩
instance:TyU prog 3 (.int .i64):=⟨underlying3⟩
theorem Tryz.z3:(prog.info? 3).map (·.zero)=some (some (.int .i64 0)):=by kernel_rfl
instance:TyZ prog 3 [.d false (.i .i64 0)]:=⟨d7 Tryz.z3⟩
instance:TyE prog 3 [.i .i64 0]:=⟨d7 Tryz.z3⟩
instance:TyN prog 4 1:=⟨d6⟩
instance:jN prog 4:=⟨λw=>by kernel_rfl,d6⟩
instance:TyU prog 4 (.bool):=⟨underlying4⟩
theorem Tryz.z4:(prog.info? 4).map (·.zero)=some (some (.bool false)):=by kernel_rfl
instance:TyZ prog 4 [.d false (.b false)]:=⟨d7 Tryz.z4⟩
instance:TyE prog 4 [.b false]:=⟨d7 Tryz.z4⟩
instance:TyN prog 5 1:=⟨d6⟩
instance:jN prog 5:=⟨λw=>by kernel_rfl,d6⟩
instance:TyU prog 5 (.int .u8):=⟨underlying5⟩
theorem Tryz.z5:(prog.info? 5).map (·.zero)=some (some (.int .u8 0)):=by kernel_rfl
instance:TyZ prog 5 [.d false (.i .u8 0)]:=⟨d7 Tryz.z5⟩
instance:TyE prog 5 [.i .u8 0]:=⟨d7 Tryz.z5⟩
instance:TyN prog 9 1:=⟨d6⟩
instance:jN prog 9:=⟨λw=>by kernel_rfl,d6⟩
instance:TyU prog 9 (.string):=⟨underlying9⟩
theorem Tryz.z9:(prog.info? 9).map (·.zero)=some (some (.string ⟨#[]⟩)):=by kernel_rfl
instance:TyZ prog 9 [.d false (.str ⟨#[]⟩)]:=⟨d7 Tryz.z9⟩
instance:TyE prog 9 [.str ⟨#[]⟩]:=⟨d7 Tryz.z9⟩
instance:TyN prog 22 1:=⟨d6⟩
instance:jN prog 22:=⟨λw=>by kernel_rfl,d6⟩
theorem Tryz.z22:(prog.info? 22).map (·.zero)=some (some (.slice none 0 0)):=by kernel_rfl
instance:TyZ prog 22 [.nil]:=⟨d7 Tryz.z22⟩
instance:TyE prog 22 [.l []]:=⟨d7 Tryz.z22⟩
instance:eB prog 22 5 1 1:=⟨underlying22,nL (z:=.int .u8 0) (by kernel_rfl) rfl,by decide⟩
instance:TyN prog 24 1:=⟨d6⟩
instance:jN prog 24:=⟨λw=>by kernel_rfl,d6⟩
theorem Tryz.z24:(prog.info? 24).map (·.zero)=some (some (.slice none 0 0)):=by kernel_rfl
instance:TyZ prog 24 [.nil]:=⟨d7 Tryz.z24⟩
instance:TyE prog 24 [.l []]:=⟨d7 Tryz.z24⟩
instance:eB prog 24 147 2 32:=⟨underlying24,nL (z:=.agg #[.int .i64 0,.slice none 0 0]) (by kernel_rfl) rfl,by decide⟩
instance:TyN prog 26 1:=⟨d6⟩
instance:hP prog 26 1:=⟨λw=>by kernel_rfl,d6⟩
theorem Tryz.z26:(prog.info? 26).map (·.zero)=some (some (.agg #[.slice none 0 0])):=by kernel_rfl
instance:TyZ prog 26 [.nil]:=⟨d7 Tryz.z26⟩
instance:TyE prog 26 [.l []]:=⟨d7 Tryz.z26⟩
instance:TyB prog 26 [(0,1)]:=⟨_,underlying26,λw=>by kernel_rfl⟩
instance:TyF prog 26 0 0 24:=⟨_,_,underlying26,rfl,rfl,rfl,dB 1⟩
instance:TyN prog 27 1:=⟨d6⟩
instance:jN prog 27:=⟨λw=>by kernel_rfl,d6⟩
theorem Tryz.z27:(prog.info? 27).map (·.zero)=some (some (.slice none 0 0)):=by kernel_rfl
instance:TyZ prog 27 [.nil]:=⟨d7 Tryz.z27⟩
instance:TyE prog 27 [.l []]:=⟨d7 Tryz.z27⟩
instance:eB prog 27 93 14 144:=⟨underlying27,nL (z:=.agg #[.int .i64 0,.int .i64 0,.int .i64 0,.int .i64 0,.int .i64 0,.int .i64 0,.int .i64 0,.int .i64 0,.int .i64 0,.bool false,.int .i64 0,.int .i64 0,.slice none 0 0,.slice none 0 0]) (by kernel_rfl) rfl,by decide⟩
instance:TyN prog 28 1:=⟨d6⟩
instance:jN prog 28:=⟨λw=>by kernel_rfl,d6⟩
theorem Tryz.z28:(prog.info? 28).map (·.zero)=some (some (.slice none 0 0)):=by kernel_rfl
instance:TyZ prog 28 [.nil]:=⟨d7 Tryz.z28⟩
instance:TyE prog 28 [.l []]:=⟨d7 Tryz.z28⟩
instance:eB prog 28 75 30 288:=⟨underlying28,nL (z:=.agg #[.int .i64 0,.int .i64 0,.int .i64 0,.int .i64 0,.int .i64 0,.int .i64 0,.int .i64 0,.slice none 0 0,.int .i64 0,.int .i64 0,.int .i64 0,.int .i64 0,.int .i64 0,.int .i64 0,.int .i64 0,.int .i64 0,.int .i64 0,.int .i64 0,.int .i64 0,.int .i64 0,.int .i64 0,.int .i64 0,.int .i64 0,.slice none 0 0,.int .i64 0,.slice none 0 0,.int .i64 0,.int .i64 0,.int .i64 0,.int .i64 0]) (by kernel_rfl) rfl,by decide⟩
instance:TyN prog 29 1:=⟨d6⟩
instance:jN prog 29:=⟨λw=>by kernel_rfl,d6⟩
theorem Tryz.z29:(prog.info? 29).map (·.zero)=some (some (.slice none 0 0)):=by kernel_rfl
instance:TyZ prog 29 [.nil]:=⟨d7 Tryz.z29⟩
instance:TyE prog 29 [.l []]:=⟨d7 Tryz.z29⟩
instance:eB prog 29 57 4 48:=⟨underlying29,nL (z:=.agg #[.int .i64 0,.int .i64 0,.int .i64 0,.slice none 0 0]) (by kernel_rfl) rfl,by decide⟩
instance:TyN prog 30 1:=⟨d6⟩
instance:jN prog 30:=⟨λw=>by kernel_rfl,d6⟩
theorem Tryz.z30:(prog.info? 30).map (·.zero)=some (some (.slice none 0 0)):=by kernel_rfl
instance:TyZ prog 30 [.nil]:=⟨d7 Tryz.z30⟩
instance:TyE prog 30 [.l []]:=⟨d7 Tryz.z30⟩
instance:eB prog 30 49 21 176:=⟨underlying30,nL (z:=.agg #[.int .i64 0,.bool false,.bool false,.int .i64 0,.int .i64 0,.int .i64 0,.int .i64 0,.int .i64 0,.int .i64 0,.int .i64 0,.int .i64 0,.int .i64 0,.int .i64 0,.int .i64 0,.int .i64 0,.int .i64 0,.int .i64 0,.int .i64 0,.int .i64 0,.slice none 0 0,.int .i64 0]) (by kernel_rfl) rfl,by decide⟩
instance:TyN prog 32 2:=⟨d6⟩
instance:hP prog 32 2:=⟨λw=>by kernel_rfl,d6⟩
theorem Tryz.z32:(prog.info? 32).map (·.zero)=some (some (.agg #[.int .i64 0,.int .i64 0])):=by kernel_rfl
instance:TyZ prog 32 [.d false (.i .i64 0),.d false (.i .i64 0)]:=⟨d7 Tryz.z32⟩
instance:TyE prog 32 [.i .i64 0,.i .i64 0]:=⟨d7 Tryz.z32⟩
instance:TyB prog 32 [(0,1),(1,1)]:=⟨_,underlying32,λw=>by kernel_rfl⟩
instance:TyF prog 32 0 0 3:=⟨_,_,underlying32,rfl,rfl,rfl,dB 1⟩
instance:TyF prog 32 1 1 3:=⟨_,_,underlying32,rfl,rfl,rfl,dB 1⟩
instance:TyN prog 34 10:=⟨d6⟩
instance:hP prog 34 10:=⟨λw=>by kernel_rfl,d6⟩
theorem Tryz.z34:(prog.info? 34).map (·.zero)=some (some (.agg #[.slice none 0 0,.slice none 0 0,.slice none 0 0,.slice none 0 0,.slice none 0 0,.int .i64 0,.int .i64 0,.int .i64 0,.int .i64 0,.int .i64 0])):=by kernel_rfl
instance:TyZ prog 34 [.nil,.nil,.nil,.nil,.nil,.d false (.i .i64 0),.d false (.i .i64 0),.d false (.i .i64 0),.d false (.i .i64 0),.d false (.i .i64 0)]:=⟨d7 Tryz.z34⟩
instance:TyE prog 34 [.l [],.l [],.l [],.l [],.l [],.i .i64 0,.i .i64 0,.i .i64 0,.i .i64 0,.i .i64 0]:=⟨d7 Tryz.z34⟩
instance:TyB prog 34 [(0,1),(1,1),(2,1),(3,1),(4,1),(5,1),(6,2),(8,1),(9,1)]:=⟨_,underlying34,λw=>by kernel_rfl⟩
instance:TyF prog 34 0 0 26:=⟨_,_,underlying34,rfl,rfl,rfl,dB 1⟩
instance:TyF prog 34 1 1 27:=⟨_,_,underlying34,rfl,rfl,rfl,dB 1⟩
instance:TyF prog 34 2 2 28:=⟨_,_,underlying34,rfl,rfl,rfl,dB 1⟩
instance:TyF prog 34 3 3 29:=⟨_,_,underlying34,rfl,rfl,rfl,dB 1⟩
instance:TyF prog 34 4 4 30:=⟨_,_,underlying34,rfl,rfl,rfl,dB 1⟩
instance:TyF prog 34 5 5 3:=⟨_,_,underlying34,rfl,rfl,rfl,dB 1⟩
instance:TyF prog 34 6 6 32:=⟨_,_,underlying34,rfl,rfl,rfl,dB 2⟩
instance:TyF prog 34 7 8 3:=⟨_,_,underlying34,rfl,rfl,rfl,dB 1⟩
instance:TyF prog 34 8 9 3:=⟨_,_,underlying34,rfl,rfl,rfl,dB 1⟩
instance:TyN prog 41 5:=⟨d6⟩
instance:hP prog 41 5:=⟨λw=>by kernel_rfl,d6⟩
theorem Tryz.z41:(prog.info? 41).map (·.zero)=some (some (.agg #[.int .i64 0,.int .i64 0,.int .i64 0,.int .i64 0,.int .i64 0])):=by kernel_rfl
instance:TyZ prog 41 [.d false (.i .i64 0),.d false (.i .i64 0),.d false (.i .i64 0),.d false (.i .i64 0),.d false (.i .i64 0)]:=⟨d7 Tryz.z41⟩
instance:TyE prog 41 [.i .i64 0,.i .i64 0,.i .i64 0,.i .i64 0,.i .i64 0]:=⟨d7 Tryz.z41⟩
instance:TyB prog 41 [(0,1),(1,1),(2,1),(3,1),(4,1)]:=⟨_,underlying41,λw=>by kernel_rfl⟩
instance:TyF prog 41 0 0 3:=⟨_,_,underlying41,rfl,rfl,rfl,dB 1⟩
instance:TyF prog 41 1 1 3:=⟨_,_,underlying41,rfl,rfl,rfl,dB 1⟩
instance:TyF prog 41 2 2 3:=⟨_,_,underlying41,rfl,rfl,rfl,dB 1⟩
instance:TyF prog 41 3 3 3:=⟨_,_,underlying41,rfl,rfl,rfl,dB 1⟩
instance:TyF prog 41 4 4 3:=⟨_,_,underlying41,rfl,rfl,rfl,dB 1⟩
instance:TyN prog 43 11:=⟨d6⟩
instance:hP prog 43 11:=⟨λw=>by kernel_rfl,d6⟩
theorem Tryz.z43:(prog.info? 43).map (·.zero)=some (some (.agg #[.int .i64 0,.int .i64 0,.int .i64 0,.int .i64 0,.int .i64 0,.int .i64 0,.int .i64 0,.int .i64 0,.int .i64 0,.int .i64 0,.int .i64 0])):=by kernel_rfl
instance:TyZ prog 43 [.d false (.i .i64 0),.d false (.i .i64 0),.d false (.i .i64 0),.d false (.i .i64 0),.d false (.i .i64 0),.d false (.i .i64 0),.d false (.i .i64 0),.d false (.i .i64 0),.d false (.i .i64 0),.d false (.i .i64 0),.d false (.i .i64 0)]:=⟨d7 Tryz.z43⟩
instance:TyE prog 43 [.i .i64 0,.i .i64 0,.i .i64 0,.i .i64 0,.i .i64 0,.i .i64 0,.i .i64 0,.i .i64 0,.i .i64 0,.i .i64 0,.i .i64 0]:=⟨d7 Tryz.z43⟩
instance:TyB prog 43 [(0,1),(1,1),(2,1),(3,1),(4,1),(5,5),(10,1)]:=⟨_,underlying43,λw=>by kernel_rfl⟩
instance:TyF prog 43 0 0 3:=⟨_,_,underlying43,rfl,rfl,rfl,dB 1⟩
instance:TyF prog 43 1 1 3:=⟨_,_,underlying43,rfl,rfl,rfl,dB 1⟩
instance:TyF prog 43 2 2 3:=⟨_,_,underlying43,rfl,rfl,rfl,dB 1⟩
instance:TyF prog 43 3 3 3:=⟨_,_,underlying43,rfl,rfl,rfl,dB 1⟩
instance:TyF prog 43 4 4 3:=⟨_,_,underlying43,rfl,rfl,rfl,dB 1⟩
instance:TyF prog 43 5 5 41:=⟨_,_,underlying43,rfl,rfl,rfl,dB 5⟩
instance:TyF prog 43 6 10 3:=⟨_,_,underlying43,rfl,rfl,rfl,dB 1⟩
instance:TyN prog 45 4:=⟨d6⟩
instance:hP prog 45 4:=⟨λw=>by kernel_rfl,d6⟩
theorem Tryz.z45:(prog.info? 45).map (·.zero)=some (some (.agg #[.int .i64 0,.int .i64 0,.slice none 0 0,.int .i64 0])):=by kernel_rfl
instance:TyZ prog 45 [.d false (.i .i64 0),.d false (.i .i64 0),.nil,.d false (.i .i64 0)]:=⟨d7 Tryz.z45⟩
instance:TyE prog 45 [.i .i64 0,.i .i64 0,.l [],.i .i64 0]:=⟨d7 Tryz.z45⟩
instance:TyB prog 45 [(0,1),(1,1),(2,1),(3,1)]:=⟨_,underlying45,λw=>by kernel_rfl⟩
instance:TyF prog 45 0 0 3:=⟨_,_,underlying45,rfl,rfl,rfl,dB 1⟩
instance:TyF prog 45 1 1 3:=⟨_,_,underlying45,rfl,rfl,rfl,dB 1⟩
instance:TyF prog 45 2 2 22:=⟨_,_,underlying45,rfl,rfl,rfl,dB 1⟩
instance:TyF prog 45 3 3 3:=⟨_,_,underlying45,rfl,rfl,rfl,dB 1⟩
instance:TyN prog 47 6:=⟨d6⟩
instance:hP prog 47 6:=⟨λw=>by kernel_rfl,d6⟩
theorem Tryz.z47:(prog.info? 47).map (·.zero)=some (some (.agg #[.int .i64 0,.int .i64 0,.int .i64 0,.int .i64 0,.slice none 0 0,.int .i64 0])):=by kernel_rfl
instance:TyZ prog 47 [.d false (.i .i64 0),.d false (.i .i64 0),.d false (.i .i64 0),.d false (.i .i64 0),.nil,.d false (.i .i64 0)]:=⟨d7 Tryz.z47⟩
instance:TyE prog 47 [.i .i64 0,.i .i64 0,.i .i64 0,.i .i64 0,.l [],.i .i64 0]:=⟨d7 Tryz.z47⟩
instance:TyB prog 47 [(0,1),(1,1),(2,4)]:=⟨_,underlying47,λw=>by kernel_rfl⟩
instance:TyF prog 47 0 0 3:=⟨_,_,underlying47,rfl,rfl,rfl,dB 1⟩
instance:TyF prog 47 1 1 3:=⟨_,_,underlying47,rfl,rfl,rfl,dB 1⟩
instance:TyF prog 47 2 2 45:=⟨_,_,underlying47,rfl,rfl,rfl,dB 4⟩
instance:TyN prog 49 21:=⟨d6⟩
instance:hP prog 49 21:=⟨λw=>by kernel_rfl,d6⟩
theorem Tryz.z49:(prog.info? 49).map (·.zero)=some (some (.agg #[.int .i64 0,.bool false,.bool false,.int .i64 0,.int .i64 0,.int .i64 0,.int .i64 0,.int .i64 0,.int .i64 0,.int .i64 0,.int .i64 0,.int .i64 0,.int .i64 0,.int .i64 0,.int .i64 0,.int .i64 0,.int .i64 0,.int .i64 0,.int .i64 0,.slice none 0 0,.int .i64 0])):=by kernel_rfl
instance:TyZ prog 49 [.d false (.i .i64 0),.d false (.b false),.d false (.b false),.d false (.i .i64 0),.d false (.i .i64 0),.d false (.i .i64 0),.d false (.i .i64 0),.d false (.i .i64 0),.d false (.i .i64 0),.d false (.i .i64 0),.d false (.i .i64 0),.d false (.i .i64 0),.d false (.i .i64 0),.d false (.i .i64 0),.d false (.i .i64 0),.d false (.i .i64 0),.d false (.i .i64 0),.d false (.i .i64 0),.d false (.i .i64 0),.nil,.d false (.i .i64 0)]:=⟨d7 Tryz.z49⟩
instance:TyE prog 49 [.i .i64 0,.b false,.b false,.i .i64 0,.i .i64 0,.i .i64 0,.i .i64 0,.i .i64 0,.i .i64 0,.i .i64 0,.i .i64 0,.i .i64 0,.i .i64 0,.i .i64 0,.i .i64 0,.i .i64 0,.i .i64 0,.i .i64 0,.i .i64 0,.l [],.i .i64 0]:=⟨d7 Tryz.z49⟩
instance:TyB prog 49 [(0,1),(1,1),(2,1),(3,1),(4,11),(15,6)]:=⟨_,underlying49,λw=>by kernel_rfl⟩
instance:TyF prog 49 0 0 3:=⟨_,_,underlying49,rfl,rfl,rfl,dB 1⟩
instance:TyF prog 49 1 1 4:=⟨_,_,underlying49,rfl,rfl,rfl,dB 1⟩
instance:TyF prog 49 2 2 4:=⟨_,_,underlying49,rfl,rfl,rfl,dB 1⟩
instance:TyF prog 49 3 3 3:=⟨_,_,underlying49,rfl,rfl,rfl,dB 1⟩
instance:TyF prog 49 4 4 43:=⟨_,_,underlying49,rfl,rfl,rfl,dB 11⟩
instance:TyF prog 49 5 15 47:=⟨_,_,underlying49,rfl,rfl,rfl,dB 6⟩
instance:TyN prog 51 25:=⟨d6⟩
instance:hP prog 51 25:=⟨λw=>by kernel_rfl,d6⟩
theorem Tryz.z51:(prog.info? 51).map (·.zero)=some (some (.agg #[.int .i64 0,.int .i64 0,.int .i64 0,.slice none 0 0,.int .i64 0,.bool false,.bool false,.int .i64 0,.int .i64 0,.int .i64 0,.int .i64 0,.int .i64 0,.int .i64 0,.int .i64 0,.int .i64 0,.int .i64 0,.int .i64 0,.int .i64 0,.int .i64 0,.int .i64 0,.int .i64 0,.int .i64 0,.int .i64 0,.slice none 0 0,.int .i64 0])):=by kernel_rfl
instance:TyZ prog 51 [.d false (.i .i64 0),.d false (.i .i64 0),.d false (.i .i64 0),.nil,.d false (.i .i64 0),.d false (.b false),.d false (.b false),.d false (.i .i64 0),.d false (.i .i64 0),.d false (.i .i64 0),.d false (.i .i64 0),.d false (.i .i64 0),.d false (.i .i64 0),.d false (.i .i64 0),.d false (.i .i64 0),.d false (.i .i64 0),.d false (.i .i64 0),.d false (.i .i64 0),.d false (.i .i64 0),.d false (.i .i64 0),.d false (.i .i64 0),.d false (.i .i64 0),.d false (.i .i64 0),.nil,.d false (.i .i64 0)]:=⟨d7 Tryz.z51⟩
instance:TyE prog 51 [.i .i64 0,.i .i64 0,.i .i64 0,.l [],.i .i64 0,.b false,.b false,.i .i64 0,.i .i64 0,.i .i64 0,.i .i64 0,.i .i64 0,.i .i64 0,.i .i64 0,.i .i64 0,.i .i64 0,.i .i64 0,.i .i64 0,.i .i64 0,.i .i64 0,.i .i64 0,.i .i64 0,.i .i64 0,.l [],.i .i64 0]:=⟨d7 Tryz.z51⟩
instance:TyB prog 51 [(0,1),(1,1),(2,1),(3,1),(4,21)]:=⟨_,underlying51,λw=>by kernel_rfl⟩
instance:TyF prog 51 0 0 3:=⟨_,_,underlying51,rfl,rfl,rfl,dB 1⟩
instance:TyF prog 51 1 1 3:=⟨_,_,underlying51,rfl,rfl,rfl,dB 1⟩
instance:TyF prog 51 2 2 3:=⟨_,_,underlying51,rfl,rfl,rfl,dB 1⟩
instance:TyF prog 51 3 3 22:=⟨_,_,underlying51,rfl,rfl,rfl,dB 1⟩
instance:TyF prog 51 4 4 49:=⟨_,_,underlying51,rfl,rfl,rfl,dB 21⟩
instance:TyN prog 55 1:=⟨d6⟩
instance:jN prog 55:=⟨λw=>by kernel_rfl,d6⟩
theorem Tryz.z55:(prog.info? 55).map (·.zero)=some (some (.slice none 0 0)):=by kernel_rfl
instance:TyZ prog 55 [.nil]:=⟨d7 Tryz.z55⟩
instance:TyE prog 55 [.l []]:=⟨d7 Tryz.z55⟩
instance:eB prog 55 115 2 16:=⟨underlying55,nL (z:=.agg #[.int .i64 0,.int .i64 0]) (by kernel_rfl) rfl,by decide⟩
instance:TyN prog 57 4:=⟨d6⟩
instance:hP prog 57 4:=⟨λw=>by kernel_rfl,d6⟩
theorem Tryz.z57:(prog.info? 57).map (·.zero)=some (some (.agg #[.int .i64 0,.int .i64 0,.int .i64 0,.slice none 0 0])):=by kernel_rfl
instance:TyZ prog 57 [.d false (.i .i64 0),.d false (.i .i64 0),.d false (.i .i64 0),.nil]:=⟨d7 Tryz.z57⟩
instance:TyE prog 57 [.i .i64 0,.i .i64 0,.i .i64 0,.l []]:=⟨d7 Tryz.z57⟩
instance:TyB prog 57 [(0,1),(1,1),(2,1),(3,1)]:=⟨_,underlying57,λw=>by kernel_rfl⟩
instance:TyF prog 57 0 0 3:=⟨_,_,underlying57,rfl,rfl,rfl,dB 1⟩
instance:TyF prog 57 1 1 3:=⟨_,_,underlying57,rfl,rfl,rfl,dB 1⟩
instance:TyF prog 57 2 2 3:=⟨_,_,underlying57,rfl,rfl,rfl,dB 1⟩
instance:TyF prog 57 3 3 55:=⟨_,_,underlying57,rfl,rfl,rfl,dB 1⟩
instance:TyN prog 60 2:=⟨d6⟩
instance:hP prog 60 2:=⟨λw=>by kernel_rfl,d6⟩
theorem Tryz.z60:(prog.info? 60).map (·.zero)=some (some (.agg #[.int .i64 0,.int .i64 0])):=by kernel_rfl
instance:TyZ prog 60 [.d false (.i .i64 0),.d false (.i .i64 0)]:=⟨d7 Tryz.z60⟩
instance:TyE prog 60 [.i .i64 0,.i .i64 0]:=⟨d7 Tryz.z60⟩
instance:TyB prog 60 [(0,1),(1,1)]:=⟨_,underlying60,λw=>by kernel_rfl⟩
instance:TyF prog 60 0 0 3:=⟨_,_,underlying60,rfl,rfl,rfl,dB 1⟩
instance:TyF prog 60 1 1 3:=⟨_,_,underlying60,rfl,rfl,rfl,dB 1⟩
instance:TyN prog 62 4:=⟨d6⟩
instance:hP prog 62 4:=⟨λw=>by kernel_rfl,d6⟩
theorem Tryz.z62:(prog.info? 62).map (·.zero)=some (some (.agg #[.int .i64 0,.int .i64 0,.int .i64 0,.int .i64 0])):=by kernel_rfl
instance:TyZ prog 62 [.d false (.i .i64 0),.d false (.i .i64 0),.d false (.i .i64 0),.d false (.i .i64 0)]:=⟨d7 Tryz.z62⟩
instance:TyE prog 62 [.i .i64 0,.i .i64 0,.i .i64 0,.i .i64 0]:=⟨d7 Tryz.z62⟩
instance:TyB prog 62 [(0,2),(2,1),(3,1)]:=⟨_,underlying62,λw=>by kernel_rfl⟩
instance:TyF prog 62 0 0 60:=⟨_,_,underlying62,rfl,rfl,rfl,dB 2⟩
instance:TyF prog 62 1 2 3:=⟨_,_,underlying62,rfl,rfl,rfl,dB 1⟩
instance:TyF prog 62 2 3 3:=⟨_,_,underlying62,rfl,rfl,rfl,dB 1⟩
instance:TyN prog 63 1:=⟨d6⟩
instance:jN prog 63:=⟨λw=>by kernel_rfl,d6⟩
theorem Tryz.z63:(prog.info? 63).map (·.zero)=some (some (.slice none 0 0)):=by kernel_rfl
instance:TyZ prog 63 [.nil]:=⟨d7 Tryz.z63⟩
instance:TyE prog 63 [.l []]:=⟨d7 Tryz.z63⟩
instance:eB prog 63 3 1 8:=⟨underlying63,nL (z:=.int .i64 0) (by kernel_rfl) rfl,by decide⟩
instance:TyN prog 65 4:=⟨d6⟩
instance:hP prog 65 4:=⟨λw=>by kernel_rfl,d6⟩
theorem Tryz.z65:(prog.info? 65).map (·.zero)=some (some (.agg #[.int .i64 0,.int .i64 0,.int .i64 0,.slice none 0 0])):=by kernel_rfl
instance:TyZ prog 65 [.d false (.i .i64 0),.d false (.i .i64 0),.d false (.i .i64 0),.nil]:=⟨d7 Tryz.z65⟩
instance:TyE prog 65 [.i .i64 0,.i .i64 0,.i .i64 0,.l []]:=⟨d7 Tryz.z65⟩
instance:TyB prog 65 [(0,1),(1,1),(2,1),(3,1)]:=⟨_,underlying65,λw=>by kernel_rfl⟩
instance:TyF prog 65 0 0 3:=⟨_,_,underlying65,rfl,rfl,rfl,dB 1⟩
instance:TyF prog 65 1 1 3:=⟨_,_,underlying65,rfl,rfl,rfl,dB 1⟩
instance:TyF prog 65 2 2 3:=⟨_,_,underlying65,rfl,rfl,rfl,dB 1⟩
instance:TyF prog 65 3 3 63:=⟨_,_,underlying65,rfl,rfl,rfl,dB 1⟩
instance:TyN prog 67 3:=⟨d6⟩
instance:hP prog 67 3:=⟨λw=>by kernel_rfl,d6⟩
theorem Tryz.z67:(prog.info? 67).map (·.zero)=some (some (.agg #[.int .i64 0,.int .i64 0,.int .i64 0])):=by kernel_rfl
instance:TyZ prog 67 [.d false (.i .i64 0),.d false (.i .i64 0),.d false (.i .i64 0)]:=⟨d7 Tryz.z67⟩
instance:TyE prog 67 [.i .i64 0,.i .i64 0,.i .i64 0]:=⟨d7 Tryz.z67⟩
instance:TyB prog 67 [(0,1),(1,1),(2,1)]:=⟨_,underlying67,λw=>by kernel_rfl⟩
instance:TyF prog 67 0 0 3:=⟨_,_,underlying67,rfl,rfl,rfl,dB 1⟩
instance:TyF prog 67 1 1 3:=⟨_,_,underlying67,rfl,rfl,rfl,dB 1⟩
instance:TyF prog 67 2 2 3:=⟨_,_,underlying67,rfl,rfl,rfl,dB 1⟩
instance:TyN prog 68 1:=⟨d6⟩
instance:jN prog 68:=⟨λw=>by kernel_rfl,d6⟩
theorem Tryz.z68:(prog.info? 68).map (·.zero)=some (some (.slice none 0 0)):=by kernel_rfl
instance:TyZ prog 68 [.nil]:=⟨d7 Tryz.z68⟩
instance:TyE prog 68 [.l []]:=⟨d7 Tryz.z68⟩
instance:eB prog 68 119 1 24:=⟨underlying68,nL (z:=.agg #[.slice none 0 0]) (by kernel_rfl) rfl,by decide⟩
instance:TyN prog 69 1:=⟨d6⟩
instance:jN prog 69:=⟨λw=>by kernel_rfl,d6⟩
theorem Tryz.z69:(prog.info? 69).map (·.zero)=some (some (.slice none 0 0)):=by kernel_rfl
instance:TyZ prog 69 [.nil]:=⟨d7 Tryz.z69⟩
instance:TyE prog 69 [.l []]:=⟨d7 Tryz.z69⟩
instance:eB prog 69 131 2 32:=⟨underlying69,nL (z:=.agg #[.int .i64 0,.slice none 0 0]) (by kernel_rfl) rfl,by decide⟩
instance:TyN prog 71 2:=⟨d6⟩
instance:hP prog 71 2:=⟨λw=>by kernel_rfl,d6⟩
theorem Tryz.z71:(prog.info? 71).map (·.zero)=some (some (.agg #[.int .i64 0,.slice none 0 0])):=by kernel_rfl
instance:TyZ prog 71 [.d false (.i .i64 0),.nil]:=⟨d7 Tryz.z71⟩
instance:TyE prog 71 [.i .i64 0,.l []]:=⟨d7 Tryz.z71⟩
instance:TyB prog 71 [(0,1),(1,1)]:=⟨_,underlying71,λw=>by kernel_rfl⟩
instance:TyF prog 71 0 0 3:=⟨_,_,underlying71,rfl,rfl,rfl,dB 1⟩
instance:TyF prog 71 1 1 69:=⟨_,_,underlying71,rfl,rfl,rfl,dB 1⟩
instance:TyN prog 73 3:=⟨d6⟩
instance:hP prog 73 3:=⟨λw=>by kernel_rfl,d6⟩
theorem Tryz.z73:(prog.info? 73).map (·.zero)=some (some (.agg #[.int .i64 0,.int .i64 0,.int .i64 0])):=by kernel_rfl
instance:TyZ prog 73 [.d false (.i .i64 0),.d false (.i .i64 0),.d false (.i .i64 0)]:=⟨d7 Tryz.z73⟩
instance:TyE prog 73 [.i .i64 0,.i .i64 0,.i .i64 0]:=⟨d7 Tryz.z73⟩
instance:TyB prog 73 [(0,1),(1,1),(2,1)]:=⟨_,underlying73,λw=>by kernel_rfl⟩
instance:TyF prog 73 0 0 3:=⟨_,_,underlying73,rfl,rfl,rfl,dB 1⟩
instance:TyF prog 73 1 1 3:=⟨_,_,underlying73,rfl,rfl,rfl,dB 1⟩
instance:TyF prog 73 2 2 3:=⟨_,_,underlying73,rfl,rfl,rfl,dB 1⟩
instance:TyN prog 75 30:=⟨d6⟩
instance:hP prog 75 30:=⟨λw=>by kernel_rfl,d6⟩
theorem Tryz.z75:(prog.info? 75).map (·.zero)=some (some (.agg #[.int .i64 0,.int .i64 0,.int .i64 0,.int .i64 0,.int .i64 0,.int .i64 0,.int .i64 0,.slice none 0 0,.int .i64 0,.int .i64 0,.int .i64 0,.int .i64 0,.int .i64 0,.int .i64 0,.int .i64 0,.int .i64 0,.int .i64 0,.int .i64 0,.int .i64 0,.int .i64 0,.int .i64 0,.int .i64 0,.int .i64 0,.slice none 0 0,.int .i64 0,.slice none 0 0,.int .i64 0,.int .i64 0,.int .i64 0,.int .i64 0])):=by kernel_rfl
instance:TyZ prog 75 [.d false (.i .i64 0),.d false (.i .i64 0),.d false (.i .i64 0),.d false (.i .i64 0),.d false (.i .i64 0),.d false (.i .i64 0),.d false (.i .i64 0),.nil,.d false (.i .i64 0),.d false (.i .i64 0),.d false (.i .i64 0),.d false (.i .i64 0),.d false (.i .i64 0),.d false (.i .i64 0),.d false (.i .i64 0),.d false (.i .i64 0),.d false (.i .i64 0),.d false (.i .i64 0),.d false (.i .i64 0),.d false (.i .i64 0),.d false (.i .i64 0),.d false (.i .i64 0),.d false (.i .i64 0),.nil,.d false (.i .i64 0),.nil,.d false (.i .i64 0),.d false (.i .i64 0),.d false (.i .i64 0),.d false (.i .i64 0)]:=⟨d7 Tryz.z75⟩
instance:TyE prog 75 [.i .i64 0,.i .i64 0,.i .i64 0,.i .i64 0,.i .i64 0,.i .i64 0,.i .i64 0,.l [],.i .i64 0,.i .i64 0,.i .i64 0,.i .i64 0,.i .i64 0,.i .i64 0,.i .i64 0,.i .i64 0,.i .i64 0,.i .i64 0,.i .i64 0,.i .i64 0,.i .i64 0,.i .i64 0,.i .i64 0,.l [],.i .i64 0,.l [],.i .i64 0,.i .i64 0,.i .i64 0,.i .i64 0]:=⟨d7 Tryz.z75⟩
instance:TyB prog 75 [(0,4),(4,4),(8,1),(9,5),(14,1),(15,1),(16,1),(17,1),(18,1),(19,1),(20,3),(23,1),(24,2),(26,1),(27,3)]:=⟨_,underlying75,λw=>by kernel_rfl⟩
instance:TyF prog 75 0 0 62:=⟨_,_,underlying75,rfl,rfl,rfl,dB 4⟩
instance:TyF prog 75 1 4 65:=⟨_,_,underlying75,rfl,rfl,rfl,dB 4⟩
instance:TyF prog 75 2 8 3:=⟨_,_,underlying75,rfl,rfl,rfl,dB 1⟩
instance:TyF prog 75 3 9 41:=⟨_,_,underlying75,rfl,rfl,rfl,dB 5⟩
instance:TyF prog 75 4 14 3:=⟨_,_,underlying75,rfl,rfl,rfl,dB 1⟩
instance:TyF prog 75 5 15 3:=⟨_,_,underlying75,rfl,rfl,rfl,dB 1⟩
instance:TyF prog 75 6 16 3:=⟨_,_,underlying75,rfl,rfl,rfl,dB 1⟩
instance:TyF prog 75 7 17 3:=⟨_,_,underlying75,rfl,rfl,rfl,dB 1⟩
instance:TyF prog 75 8 18 3:=⟨_,_,underlying75,rfl,rfl,rfl,dB 1⟩
instance:TyF prog 75 9 19 3:=⟨_,_,underlying75,rfl,rfl,rfl,dB 1⟩
instance:TyF prog 75 10 20 67:=⟨_,_,underlying75,rfl,rfl,rfl,dB 3⟩
instance:TyF prog 75 11 23 68:=⟨_,_,underlying75,rfl,rfl,rfl,dB 1⟩
instance:TyF prog 75 12 24 71:=⟨_,_,underlying75,rfl,rfl,rfl,dB 2⟩
instance:TyF prog 75 13 26 3:=⟨_,_,underlying75,rfl,rfl,rfl,dB 1⟩
instance:TyF prog 75 14 27 73:=⟨_,_,underlying75,rfl,rfl,rfl,dB 3⟩
instance:TyN prog 81 1:=⟨d6⟩
instance:jN prog 81:=⟨λw=>by kernel_rfl,d6⟩
theorem Tryz.z81:(prog.info? 81).map (·.zero)=some (some (.slice none 0 0)):=by kernel_rfl
instance:TyZ prog 81 [.nil]:=⟨d7 Tryz.z81⟩
instance:TyE prog 81 [.l []]:=⟨d7 Tryz.z81⟩
instance:eB prog 81 51 25 224:=⟨underlying81,nL (z:=.agg #[.int .i64 0,.int .i64 0,.int .i64 0,.slice none 0 0,.int .i64 0,.bool false,.bool false,.int .i64 0,.int .i64 0,.int .i64 0,.int .i64 0,.int .i64 0,.int .i64 0,.int .i64 0,.int .i64 0,.int .i64 0,.int .i64 0,.int .i64 0,.int .i64 0,.int .i64 0,.int .i64 0,.int .i64 0,.int .i64 0,.slice none 0 0,.int .i64 0]) (by kernel_rfl) rfl,by decide⟩
instance:TyN prog 87 1:=⟨d6⟩
instance:jN prog 87:=⟨λw=>by kernel_rfl,d6⟩
theorem Tryz.z87:(prog.info? 87).map (·.zero)=some (some (.slice none 0 0)):=by kernel_rfl
instance:TyZ prog 87 [.nil]:=⟨d7 Tryz.z87⟩
instance:TyE prog 87 [.l []]:=⟨d7 Tryz.z87⟩
instance:eB prog 87 231 2 32:=⟨underlying87,nL (z:=.agg #[.int .i64 0,.slice none 0 0]) (by kernel_rfl) rfl,by decide⟩
instance:TyN prog 89 4:=⟨d6⟩
instance:hP prog 89 4:=⟨λw=>by kernel_rfl,d6⟩
theorem Tryz.z89:(prog.info? 89).map (·.zero)=some (some (.agg #[.int .i64 0,.int .i64 0,.int .i64 0,.int .i64 0])):=by kernel_rfl
instance:TyZ prog 89 [.d false (.i .i64 0),.d false (.i .i64 0),.d false (.i .i64 0),.d false (.i .i64 0)]:=⟨d7 Tryz.z89⟩
instance:TyE prog 89 [.i .i64 0,.i .i64 0,.i .i64 0,.i .i64 0]:=⟨d7 Tryz.z89⟩
instance:TyB prog 89 [(0,2),(2,1),(3,1)]:=⟨_,underlying89,λw=>by kernel_rfl⟩
instance:TyF prog 89 0 0 60:=⟨_,_,underlying89,rfl,rfl,rfl,dB 2⟩
instance:TyF prog 89 1 2 3:=⟨_,_,underlying89,rfl,rfl,rfl,dB 1⟩
instance:TyF prog 89 2 3 3:=⟨_,_,underlying89,rfl,rfl,rfl,dB 1⟩
instance:TyN prog 91 3:=⟨d6⟩
instance:hP prog 91 3:=⟨λw=>by kernel_rfl,d6⟩
theorem Tryz.z91:(prog.info? 91).map (·.zero)=some (some (.agg #[.int .i64 0,.slice none 0 0,.slice none 0 0])):=by kernel_rfl
instance:TyZ prog 91 [.d false (.i .i64 0),.nil,.nil]:=⟨d7 Tryz.z91⟩
instance:TyE prog 91 [.i .i64 0,.l [],.l []]:=⟨d7 Tryz.z91⟩
instance:TyB prog 91 [(0,1),(1,1),(2,1)]:=⟨_,underlying91,λw=>by kernel_rfl⟩
instance:TyF prog 91 0 0 3:=⟨_,_,underlying91,rfl,rfl,rfl,dB 1⟩
instance:TyF prog 91 1 1 69:=⟨_,_,underlying91,rfl,rfl,rfl,dB 1⟩
instance:TyF prog 91 2 2 68:=⟨_,_,underlying91,rfl,rfl,rfl,dB 1⟩
instance:TyN prog 93 14:=⟨d6⟩
instance:hP prog 93 14:=⟨λw=>by kernel_rfl,d6⟩
theorem Tryz.z93:(prog.info? 93).map (·.zero)=some (some (.agg #[.int .i64 0,.int .i64 0,.int .i64 0,.int .i64 0,.int .i64 0,.int .i64 0,.int .i64 0,.int .i64 0,.int .i64 0,.bool false,.int .i64 0,.int .i64 0,.slice none 0 0,.slice none 0 0])):=by kernel_rfl
instance:TyZ prog 93 [.d false (.i .i64 0),.d false (.i .i64 0),.d false (.i .i64 0),.d false (.i .i64 0),.d false (.i .i64 0),.d false (.i .i64 0),.d false (.i .i64 0),.d false (.i .i64 0),.d false (.i .i64 0),.d false (.b false),.d false (.i .i64 0),.d false (.i .i64 0),.nil,.nil]:=⟨d7 Tryz.z93⟩
instance:TyE prog 93 [.i .i64 0,.i .i64 0,.i .i64 0,.i .i64 0,.i .i64 0,.i .i64 0,.i .i64 0,.i .i64 0,.i .i64 0,.b false,.i .i64 0,.i .i64 0,.l [],.l []]:=⟨d7 Tryz.z93⟩
instance:TyB prog 93 [(0,4),(4,1),(5,1),(6,1),(7,1),(8,1),(9,1),(10,1),(11,3)]:=⟨_,underlying93,λw=>by kernel_rfl⟩
instance:TyF prog 93 0 0 89:=⟨_,_,underlying93,rfl,rfl,rfl,dB 4⟩
instance:TyF prog 93 1 4 3:=⟨_,_,underlying93,rfl,rfl,rfl,dB 1⟩
instance:TyF prog 93 2 5 3:=⟨_,_,underlying93,rfl,rfl,rfl,dB 1⟩
instance:TyF prog 93 3 6 3:=⟨_,_,underlying93,rfl,rfl,rfl,dB 1⟩
instance:TyF prog 93 4 7 3:=⟨_,_,underlying93,rfl,rfl,rfl,dB 1⟩
instance:TyF prog 93 5 8 3:=⟨_,_,underlying93,rfl,rfl,rfl,dB 1⟩
instance:TyF prog 93 6 9 4:=⟨_,_,underlying93,rfl,rfl,rfl,dB 1⟩
instance:TyF prog 93 7 10 3:=⟨_,_,underlying93,rfl,rfl,rfl,dB 1⟩
instance:TyF prog 93 8 11 91:=⟨_,_,underlying93,rfl,rfl,rfl,dB 3⟩
instance:TyN prog 115 2:=⟨d6⟩
instance:hP prog 115 2:=⟨λw=>by kernel_rfl,d6⟩
theorem Tryz.z115:(prog.info? 115).map (·.zero)=some (some (.agg #[.int .i64 0,.int .i64 0])):=by kernel_rfl
instance:TyZ prog 115 [.d false (.i .i64 0),.d false (.i .i64 0)]:=⟨d7 Tryz.z115⟩
instance:TyE prog 115 [.i .i64 0,.i .i64 0]:=⟨d7 Tryz.z115⟩
instance:TyB prog 115 [(0,1),(1,1)]:=⟨_,underlying115,λw=>by kernel_rfl⟩
instance:TyF prog 115 0 0 3:=⟨_,_,underlying115,rfl,rfl,rfl,dB 1⟩
instance:TyF prog 115 1 1 3:=⟨_,_,underlying115,rfl,rfl,rfl,dB 1⟩
instance:TyN prog 119 1:=⟨d6⟩
instance:hP prog 119 1:=⟨λw=>by kernel_rfl,d6⟩
theorem Tryz.z119:(prog.info? 119).map (·.zero)=some (some (.agg #[.slice none 0 0])):=by kernel_rfl
instance:TyZ prog 119 [.nil]:=⟨d7 Tryz.z119⟩
instance:TyE prog 119 [.l []]:=⟨d7 Tryz.z119⟩
instance:TyB prog 119 [(0,1)]:=⟨_,underlying119,λw=>by kernel_rfl⟩
instance:TyF prog 119 0 0 22:=⟨_,_,underlying119,rfl,rfl,rfl,dB 1⟩
instance:TyN prog 131 2:=⟨d6⟩
instance:hP prog 131 2:=⟨λw=>by kernel_rfl,d6⟩
theorem Tryz.z131:(prog.info? 131).map (·.zero)=some (some (.agg #[.int .i64 0,.slice none 0 0])):=by kernel_rfl
instance:TyZ prog 131 [.d false (.i .i64 0),.nil]:=⟨d7 Tryz.z131⟩
instance:TyE prog 131 [.i .i64 0,.l []]:=⟨d7 Tryz.z131⟩
instance:TyB prog 131 [(0,1),(1,1)]:=⟨_,underlying131,λw=>by kernel_rfl⟩
instance:TyF prog 131 0 0 3:=⟨_,_,underlying131,rfl,rfl,rfl,dB 1⟩
instance:TyF prog 131 1 1 22:=⟨_,_,underlying131,rfl,rfl,rfl,dB 1⟩
instance:TyN prog 135 3:=⟨d6⟩
instance:hP prog 135 3:=⟨λw=>by kernel_rfl,d6⟩
theorem Tryz.z135:(prog.info? 135).map (·.zero)=some (some (.agg #[.slice none 0 0,.int .i64 0,.int .i64 0])):=by kernel_rfl
instance:TyZ prog 135 [.nil,.d false (.i .i64 0),.d false (.i .i64 0)]:=⟨d7 Tryz.z135⟩
instance:TyE prog 135 [.l [],.i .i64 0,.i .i64 0]:=⟨d7 Tryz.z135⟩
instance:TyB prog 135 [(0,1),(1,1),(2,1)]:=⟨_,underlying135,λw=>by kernel_rfl⟩
instance:TyF prog 135 0 0 22:=⟨_,_,underlying135,rfl,rfl,rfl,dB 1⟩
instance:TyF prog 135 1 1 3:=⟨_,_,underlying135,rfl,rfl,rfl,dB 1⟩
instance:TyF prog 135 2 2 3:=⟨_,_,underlying135,rfl,rfl,rfl,dB 1⟩
instance:TyN prog 147 2:=⟨d6⟩
instance:hP prog 147 2:=⟨λw=>by kernel_rfl,d6⟩
theorem Tryz.z147:(prog.info? 147).map (·.zero)=some (some (.agg #[.int .i64 0,.slice none 0 0])):=by kernel_rfl
instance:TyZ prog 147 [.d false (.i .i64 0),.nil]:=⟨d7 Tryz.z147⟩
instance:TyE prog 147 [.i .i64 0,.l []]:=⟨d7 Tryz.z147⟩
instance:TyB prog 147 [(0,1),(1,1)]:=⟨_,underlying147,λw=>by kernel_rfl⟩
instance:TyF prog 147 0 0 3:=⟨_,_,underlying147,rfl,rfl,rfl,dB 1⟩
instance:TyF prog 147 1 1 63:=⟨_,_,underlying147,rfl,rfl,rfl,dB 1⟩
instance:TyN prog 172 1:=⟨d6⟩
instance:hP prog 172 1:=⟨λw=>by kernel_rfl,d6⟩
theorem Tryz.z172:(prog.info? 172).map (·.zero)=some (some (.agg #[.slice none 0 0])):=by kernel_rfl
instance:TyZ prog 172 [.nil]:=⟨d7 Tryz.z172⟩
instance:TyE prog 172 [.l []]:=⟨d7 Tryz.z172⟩
instance:TyB prog 172 [(0,1)]:=⟨_,underlying172,λw=>by kernel_rfl⟩
instance:TyF prog 172 0 0 63:=⟨_,_,underlying172,rfl,rfl,rfl,dB 1⟩
instance:TyN prog 182 1:=⟨d6⟩
instance:jN prog 182:=⟨λw=>by kernel_rfl,d6⟩
theorem Tryz.z182:(prog.info? 182).map (·.zero)=some (some (.slice none 0 0)):=by kernel_rfl
instance:TyZ prog 182 [.nil]:=⟨d7 Tryz.z182⟩
instance:TyE prog 182 [.l []]:=⟨d7 Tryz.z182⟩
instance:eB prog 182 43 11 88:=⟨underlying182,nL (z:=.agg #[.int .i64 0,.int .i64 0,.int .i64 0,.int .i64 0,.int .i64 0,.int .i64 0,.int .i64 0,.int .i64 0,.int .i64 0,.int .i64 0,.int .i64 0]) (by kernel_rfl) rfl,by decide⟩
instance:TyN prog 184 31:=⟨d6⟩
instance:hP prog 184 31:=⟨λw=>by kernel_rfl,d6⟩
theorem Tryz.z184:(prog.info? 184).map (·.zero)=some (some (.agg #[.int .i64 0,.int .i64 0,.int .i64 0,.int .i64 0,.int .i64 0,.int .i64 0,.int .i64 0,.slice none 0 0,.int .i64 0,.int .i64 0,.int .i64 0,.int .i64 0,.int .i64 0,.int .i64 0,.int .i64 0,.int .i64 0,.int .i64 0,.int .i64 0,.int .i64 0,.int .i64 0,.int .i64 0,.int .i64 0,.int .i64 0,.slice none 0 0,.int .i64 0,.slice none 0 0,.int .i64 0,.int .i64 0,.int .i64 0,.int .i64 0,.slice none 0 0])):=by kernel_rfl
instance:TyZ prog 184 [.d false (.i .i64 0),.d false (.i .i64 0),.d false (.i .i64 0),.d false (.i .i64 0),.d false (.i .i64 0),.d false (.i .i64 0),.d false (.i .i64 0),.nil,.d false (.i .i64 0),.d false (.i .i64 0),.d false (.i .i64 0),.d false (.i .i64 0),.d false (.i .i64 0),.d false (.i .i64 0),.d false (.i .i64 0),.d false (.i .i64 0),.d false (.i .i64 0),.d false (.i .i64 0),.d false (.i .i64 0),.d false (.i .i64 0),.d false (.i .i64 0),.d false (.i .i64 0),.d false (.i .i64 0),.nil,.d false (.i .i64 0),.nil,.d false (.i .i64 0),.d false (.i .i64 0),.d false (.i .i64 0),.d false (.i .i64 0),.nil]:=⟨d7 Tryz.z184⟩
instance:TyE prog 184 [.i .i64 0,.i .i64 0,.i .i64 0,.i .i64 0,.i .i64 0,.i .i64 0,.i .i64 0,.l [],.i .i64 0,.i .i64 0,.i .i64 0,.i .i64 0,.i .i64 0,.i .i64 0,.i .i64 0,.i .i64 0,.i .i64 0,.i .i64 0,.i .i64 0,.i .i64 0,.i .i64 0,.i .i64 0,.i .i64 0,.l [],.i .i64 0,.l [],.i .i64 0,.i .i64 0,.i .i64 0,.i .i64 0,.l []]:=⟨d7 Tryz.z184⟩
instance:TyB prog 184 [(0,30),(30,1)]:=⟨_,underlying184,λw=>by kernel_rfl⟩
instance:TyF prog 184 0 0 75:=⟨_,_,underlying184,rfl,rfl,rfl,dB 30⟩
instance:TyF prog 184 1 30 182:=⟨_,_,underlying184,rfl,rfl,rfl,dB 1⟩
instance:TyN prog 189 15:=⟨d6⟩
instance:hP prog 189 15:=⟨λw=>by kernel_rfl,d6⟩
theorem Tryz.z189:(prog.info? 189).map (·.zero)=some (some (.agg #[.int .i64 0,.int .i64 0,.int .i64 0,.int .i64 0,.int .i64 0,.int .i64 0,.int .i64 0,.int .i64 0,.int .i64 0,.bool false,.int .i64 0,.int .i64 0,.slice none 0 0,.slice none 0 0,.slice none 0 0])):=by kernel_rfl
instance:TyZ prog 189 [.d false (.i .i64 0),.d false (.i .i64 0),.d false (.i .i64 0),.d false (.i .i64 0),.d false (.i .i64 0),.d false (.i .i64 0),.d false (.i .i64 0),.d false (.i .i64 0),.d false (.i .i64 0),.d false (.b false),.d false (.i .i64 0),.d false (.i .i64 0),.nil,.nil,.nil]:=⟨d7 Tryz.z189⟩
instance:TyE prog 189 [.i .i64 0,.i .i64 0,.i .i64 0,.i .i64 0,.i .i64 0,.i .i64 0,.i .i64 0,.i .i64 0,.i .i64 0,.b false,.i .i64 0,.i .i64 0,.l [],.l [],.l []]:=⟨d7 Tryz.z189⟩
instance:TyB prog 189 [(0,14),(14,1)]:=⟨_,underlying189,λw=>by kernel_rfl⟩
instance:TyF prog 189 0 0 93:=⟨_,_,underlying189,rfl,rfl,rfl,dB 14⟩
instance:TyF prog 189 1 14 182:=⟨_,_,underlying189,rfl,rfl,rfl,dB 1⟩
instance:TyN prog 193 1:=⟨d6⟩
instance:jN prog 193:=⟨λw=>by kernel_rfl,d6⟩
theorem Tryz.z193:(prog.info? 193).map (·.zero)=some (some (.slice none 0 0)):=by kernel_rfl
instance:TyZ prog 193 [.nil]:=⟨d7 Tryz.z193⟩
instance:TyE prog 193 [.l []]:=⟨d7 Tryz.z193⟩
instance:eB prog 193 47 6 64:=⟨underlying193,nL (z:=.agg #[.int .i64 0,.int .i64 0,.int .i64 0,.int .i64 0,.slice none 0 0,.int .i64 0]) (by kernel_rfl) rfl,by decide⟩
instance:TyN prog 195 36:=⟨d6⟩
instance:hP prog 195 36:=⟨λw=>by kernel_rfl,d6⟩
theorem Tryz.z195:(prog.info? 195).map (·.zero)=some (some (.agg #[.int .i64 0,.int .i64 0,.int .i64 0,.int .i64 0,.int .i64 0,.int .i64 0,.int .i64 0,.slice none 0 0,.int .i64 0,.int .i64 0,.int .i64 0,.int .i64 0,.int .i64 0,.int .i64 0,.int .i64 0,.int .i64 0,.int .i64 0,.int .i64 0,.int .i64 0,.int .i64 0,.int .i64 0,.int .i64 0,.int .i64 0,.slice none 0 0,.int .i64 0,.slice none 0 0,.int .i64 0,.int .i64 0,.int .i64 0,.int .i64 0,.int .i64 0,.int .i64 0,.int .i64 0,.slice none 0 0,.slice none 0 0,.slice none 0 0])):=by kernel_rfl
instance:TyZ prog 195 [.d false (.i .i64 0),.d false (.i .i64 0),.d false (.i .i64 0),.d false (.i .i64 0),.d false (.i .i64 0),.d false (.i .i64 0),.d false (.i .i64 0),.nil,.d false (.i .i64 0),.d false (.i .i64 0),.d false (.i .i64 0),.d false (.i .i64 0),.d false (.i .i64 0),.d false (.i .i64 0),.d false (.i .i64 0),.d false (.i .i64 0),.d false (.i .i64 0),.d false (.i .i64 0),.d false (.i .i64 0),.d false (.i .i64 0),.d false (.i .i64 0),.d false (.i .i64 0),.d false (.i .i64 0),.nil,.d false (.i .i64 0),.nil,.d false (.i .i64 0),.d false (.i .i64 0),.d false (.i .i64 0),.d false (.i .i64 0),.d false (.i .i64 0),.d false (.i .i64 0),.d false (.i .i64 0),.nil,.nil,.nil]:=⟨d7 Tryz.z195⟩
instance:TyE prog 195 [.i .i64 0,.i .i64 0,.i .i64 0,.i .i64 0,.i .i64 0,.i .i64 0,.i .i64 0,.l [],.i .i64 0,.i .i64 0,.i .i64 0,.i .i64 0,.i .i64 0,.i .i64 0,.i .i64 0,.i .i64 0,.i .i64 0,.i .i64 0,.i .i64 0,.i .i64 0,.i .i64 0,.i .i64 0,.i .i64 0,.l [],.i .i64 0,.l [],.i .i64 0,.i .i64 0,.i .i64 0,.i .i64 0,.i .i64 0,.i .i64 0,.i .i64 0,.l [],.l [],.l []]:=⟨d7 Tryz.z195⟩
instance:TyB prog 195 [(0,30),(30,4),(34,1),(35,1)]:=⟨_,underlying195,λw=>by kernel_rfl⟩
instance:TyF prog 195 0 0 75:=⟨_,_,underlying195,rfl,rfl,rfl,dB 30⟩
instance:TyF prog 195 1 30 57:=⟨_,_,underlying195,rfl,rfl,rfl,dB 4⟩
instance:TyF prog 195 2 34 182:=⟨_,_,underlying195,rfl,rfl,rfl,dB 1⟩
instance:TyF prog 195 3 35 193:=⟨_,_,underlying195,rfl,rfl,rfl,dB 1⟩
instance:TyN prog 219 1:=⟨d6⟩
instance:jN prog 219:=⟨λw=>by kernel_rfl,d6⟩
theorem Tryz.z219:(prog.info? 219).map (·.zero)=some (some (.slice none 0 0)):=by kernel_rfl
instance:TyZ prog 219 [.nil]:=⟨d7 Tryz.z219⟩
instance:TyE prog 219 [.l []]:=⟨d7 Tryz.z219⟩
instance:eB prog 219 62 4 32:=⟨underlying219,nL (z:=.agg #[.int .i64 0,.int .i64 0,.int .i64 0,.int .i64 0]) (by kernel_rfl) rfl,by decide⟩
instance:TyN prog 231 2:=⟨d6⟩
instance:hP prog 231 2:=⟨λw=>by kernel_rfl,d6⟩
theorem Tryz.z231:(prog.info? 231).map (·.zero)=some (some (.agg #[.int .i64 0,.slice none 0 0])):=by kernel_rfl
instance:TyZ prog 231 [.d false (.i .i64 0),.nil]:=⟨d7 Tryz.z231⟩
instance:TyE prog 231 [.i .i64 0,.l []]:=⟨d7 Tryz.z231⟩
instance:TyB prog 231 [(0,1),(1,1)]:=⟨_,underlying231,λw=>by kernel_rfl⟩
instance:TyF prog 231 0 0 3:=⟨_,_,underlying231,rfl,rfl,rfl,dB 1⟩
instance:TyF prog 231 1 1 172:=⟨_,_,underlying231,rfl,rfl,rfl,dB 1⟩
instance:TyN prog 274 4:=⟨d6⟩
instance:hP prog 274 4:=⟨λw=>by kernel_rfl,d6⟩
theorem Tryz.z274:(prog.info? 274).map (·.zero)=some (some (.agg #[.int .i64 0,.int .i64 0,.int .i64 0,.int .i64 0])):=by kernel_rfl
instance:TyZ prog 274 [.d false (.i .i64 0),.d false (.i .i64 0),.d false (.i .i64 0),.d false (.i .i64 0)]:=⟨d7 Tryz.z274⟩
instance:TyE prog 274 [.i .i64 0,.i .i64 0,.i .i64 0,.i .i64 0]:=⟨d7 Tryz.z274⟩
instance:TyB prog 274 [(0,1),(1,1),(2,1),(3,1)]:=⟨_,underlying274,λw=>by kernel_rfl⟩
instance:TyF prog 274 0 0 3:=⟨_,_,underlying274,rfl,rfl,rfl,dB 1⟩
instance:TyF prog 274 1 1 3:=⟨_,_,underlying274,rfl,rfl,rfl,dB 1⟩
instance:TyF prog 274 2 2 3:=⟨_,_,underlying274,rfl,rfl,rfl,dB 1⟩
instance:TyF prog 274 3 3 3:=⟨_,_,underlying274,rfl,rfl,rfl,dB 1⟩
theorem Tryz.sh5:w8 prog 5 [.i .u8]:=.int underlying5
theorem Tryz.sh22:w8 prog 22 [.l [.i .u8]]:=.slice underlying22 Tryz.sh5 (by kernel_rfl) (by decide)
theorem Tryz.eqa32:EqA prog 2 32 [.i .i64,.i .i64]:=js (k:=1) underlying32 (by kernel_rfl) (iI rfl (by decide) inferInstance (eH underlying3) (iI rfl (by decide) inferInstance (eH underlying3) (pZ)))
instance:zW prog 32 [.i .i64,.i .i64]:=⟨⟨2,by decide,Tryz.eqa32⟩,by kernel_rfl⟩
theorem Tryz.eqa41:EqA prog 2 41 [.i .i64,.i .i64,.i .i64,.i .i64,.i .i64]:=js (k:=1) underlying41 (by kernel_rfl) (iI rfl (by decide) inferInstance (eH underlying3) (iI rfl (by decide) inferInstance (eH underlying3) (iI rfl (by decide) inferInstance (eH underlying3) (iI rfl (by decide) inferInstance (eH underlying3) (iI rfl (by decide) inferInstance (eH underlying3) (pZ))))))
instance:zW prog 41 [.i .i64,.i .i64,.i .i64,.i .i64,.i .i64]:=⟨⟨2,by decide,Tryz.eqa41⟩,by kernel_rfl⟩
theorem Tryz.eqa43:EqA prog 3 43 [.i .i64,.i .i64,.i .i64,.i .i64,.i .i64,.i .i64,.i .i64,.i .i64,.i .i64,.i .i64,.i .i64]:=js (k:=2) underlying43 (by kernel_rfl) (iI rfl (by decide) inferInstance (eH underlying3) (iI rfl (by decide) inferInstance (eH underlying3) (iI rfl (by decide) inferInstance (eH underlying3) (iI rfl (by decide) inferInstance (eH underlying3) (iI rfl (by decide) inferInstance (eH underlying3) (T3 (n:=5) (s1:=[.i .i64,.i .i64,.i .i64,.i .i64,.i .i64]) rfl (by decide) inferInstance rfl (by decide) Tryz.eqa41 (iI rfl (by decide) inferInstance (eH underlying3) (pZ))))))))
instance:zW prog 43 [.i .i64,.i .i64,.i .i64,.i .i64,.i .i64,.i .i64,.i .i64,.i .i64,.i .i64,.i .i64,.i .i64]:=⟨⟨3,by decide,Tryz.eqa43⟩,by kernel_rfl⟩
theorem Tryz.eqa60:EqA prog 2 60 [.i .i64,.i .i64]:=js (k:=1) underlying60 (by kernel_rfl) (iI rfl (by decide) inferInstance (eH underlying3) (iI rfl (by decide) inferInstance (eH underlying3) (pZ)))
instance:zW prog 60 [.i .i64,.i .i64]:=⟨⟨2,by decide,Tryz.eqa60⟩,by kernel_rfl⟩
theorem Tryz.eqa62:EqA prog 3 62 [.i .i64,.i .i64,.i .i64,.i .i64]:=js (k:=2) underlying62 (by kernel_rfl) (T3 (n:=2) (s1:=[.i .i64,.i .i64]) rfl (by decide) inferInstance rfl (by decide) Tryz.eqa60 (iI rfl (by decide) inferInstance (eH underlying3) (iI rfl (by decide) inferInstance (eH underlying3) (pZ))))
instance:zW prog 62 [.i .i64,.i .i64,.i .i64,.i .i64]:=⟨⟨3,by decide,Tryz.eqa62⟩,by kernel_rfl⟩
theorem Tryz.eqa67:EqA prog 2 67 [.i .i64,.i .i64,.i .i64]:=js (k:=1) underlying67 (by kernel_rfl) (iI rfl (by decide) inferInstance (eH underlying3) (iI rfl (by decide) inferInstance (eH underlying3) (iI rfl (by decide) inferInstance (eH underlying3) (pZ))))
instance:zW prog 67 [.i .i64,.i .i64,.i .i64]:=⟨⟨2,by decide,Tryz.eqa67⟩,by kernel_rfl⟩
theorem Tryz.eqa73:EqA prog 2 73 [.i .i64,.i .i64,.i .i64]:=js (k:=1) underlying73 (by kernel_rfl) (iI rfl (by decide) inferInstance (eH underlying3) (iI rfl (by decide) inferInstance (eH underlying3) (iI rfl (by decide) inferInstance (eH underlying3) (pZ))))
instance:zW prog 73 [.i .i64,.i .i64,.i .i64]:=⟨⟨2,by decide,Tryz.eqa73⟩,by kernel_rfl⟩
theorem Tryz.eqa89:EqA prog 3 89 [.i .i64,.i .i64,.i .i64,.i .i64]:=js (k:=2) underlying89 (by kernel_rfl) (T3 (n:=2) (s1:=[.i .i64,.i .i64]) rfl (by decide) inferInstance rfl (by decide) Tryz.eqa60 (iI rfl (by decide) inferInstance (eH underlying3) (iI rfl (by decide) inferInstance (eH underlying3) (pZ))))
instance:zW prog 89 [.i .i64,.i .i64,.i .i64,.i .i64]:=⟨⟨3,by decide,Tryz.eqa89⟩,by kernel_rfl⟩
theorem Tryz.eqa115:EqA prog 2 115 [.i .i64,.i .i64]:=js (k:=1) underlying115 (by kernel_rfl) (iI rfl (by decide) inferInstance (eH underlying3) (iI rfl (by decide) inferInstance (eH underlying3) (pZ)))
instance:zW prog 115 [.i .i64,.i .i64]:=⟨⟨2,by decide,Tryz.eqa115⟩,by kernel_rfl⟩
theorem Tryz.eqa274:EqA prog 2 274 [.i .i64,.i .i64,.i .i64,.i .i64]:=js (k:=1) underlying274 (by kernel_rfl) (iI rfl (by decide) inferInstance (eH underlying3) (iI rfl (by decide) inferInstance (eH underlying3) (iI rfl (by decide) inferInstance (eH underlying3) (iI rfl (by decide) inferInstance (eH underlying3) (pZ)))))
instance:zW prog 274 [.i .i64,.i .i64,.i .i64,.i .i64]:=⟨⟨2,by decide,Tryz.eqa274⟩,by kernel_rfl⟩
theorem Tryz.follows:prog.follows .mixedOrders=true:=by kernel_rfl
structure fy where
 f6:Int
 cF:List Int
 deriving DecidableEq,Inhabited
def dK (a:fy):List D:=[.i .i64 a.f6,.l (a.cF.map eI)]
def ZC (a:fy):List F:=[.s (.i .i64 a.f6),.l 3 1 (a.cF.map eI) a.cF.length]
def OH:fy:=⟨0,[]⟩
structure aS where
 a8:List fy
 deriving DecidableEq,Inhabited
def gu (a:aS):List D:=[.l (a.a8.map dK)]
def Ss:aS:=⟨[]⟩
structure bH where
 fx:Int
 fB:Int
 deriving DecidableEq,Inhabited
def je (a:bH):List D:=[.i .i64 a.fx,.i .i64 a.fB]
def eJ (a:bH):List F:=[.s (.i .i64 a.fx),.s (.i .i64 a.fB)]
def pA:bH:=⟨0,0⟩
structure dw where
 dZ:Int
 bW:Int
 deriving DecidableEq,Inhabited
def om (a:dw):List D:=[.i .i64 a.dZ,.i .i64 a.bW]
def yH:dw:=⟨0,0⟩
structure lC where
 ID:dw
 fo:Int
 dv:Int
 deriving DecidableEq,Inhabited
def EE (a:lC):List D:=[.i .i64 a.ID.dZ,.i .i64 a.ID.bW,.i .i64 a.fo,.i .i64 a.dv]
def xH (a:lC):List F:=[.s (.i .i64 a.ID.dZ),.s (.i .i64 a.ID.bW),.s (.i .i64 a.fo),.s (.i .i64 a.dv)]
def KD:lC:=⟨yH,0,0⟩
structure ae where
 c8:Int
 bb:List Int
 deriving DecidableEq,Inhabited
def aM (a:ae):List D:=[.i .i64 a.c8,.l (a.bb.map eU8)]
def dh (a:ae):List F:=[.s (.i .i64 a.c8),.l 5 1 (a.bb.map eU8) a.bb.length]
def bT:ae:=⟨0,[]⟩
structure bV where
 bb:List Int
 deriving DecidableEq,Inhabited
def ee (a:bV):List D:=[.l (a.bb.map eU8)]
structure aP where
 bB:Int
 aK:List ae
 be:List bV
 deriving DecidableEq,Inhabited
def hU (a:aP):List D:=[.i .i64 a.bB,.l (a.aK.map aM),.l (a.be.map ee)]
def b9 (a:aP):List F:=[.s (.i .i64 a.bB),.l 131 2 (a.aK.map aM) a.aK.length,.l 119 1 (a.be.map ee) a.be.length]
def de:aP:=⟨0,[],[]⟩
structure aJ where
 dq:lC
 bi:Int
 bg:Int
 ag:Int
 aZ:Int
 aX:Int
 cy:Bool
 fA:Int
 bY:aP
 deriving DecidableEq,Inhabited
def c9 (a:aJ):List D:=[.i .i64 a.dq.ID.dZ,.i .i64 a.dq.ID.bW,.i .i64 a.dq.fo,.i .i64 a.dq.dv,.i .i64 a.bi,.i .i64 a.bg,.i .i64 a.ag,.i .i64 a.aZ,.i .i64 a.aX,.b a.cy,.i .i64 a.fA,.i .i64 a.bY.bB,.l (a.bY.aK.map aM),.l (a.bY.be.map ee)]
def dF (a:aJ):List F:=[.s (.i .i64 a.dq.ID.dZ),.s (.i .i64 a.dq.ID.bW),.s (.i .i64 a.dq.fo),.s (.i .i64 a.dq.dv),.s (.i .i64 a.bi),.s (.i .i64 a.bg),.s (.i .i64 a.ag),.s (.i .i64 a.aZ),.s (.i .i64 a.aX),.s (.b a.cy),.s (.i .i64 a.fA),.s (.i .i64 a.bY.bB),.l 131 2 (a.bY.aK.map aM) a.bY.aK.length,.l 119 1 (a.bY.be.map ee) a.bY.be.length]
def vP:aJ:=⟨KD,0,0,0,0,0,false,0,de⟩
structure aO where
 ID:dw
 fo:Int
 c8:Int
 deriving DecidableEq,Inhabited
def dO (a:aO):List D:=[.i .i64 a.ID.dZ,.i .i64 a.ID.bW,.i .i64 a.fo,.i .i64 a.c8]
def sL (a:aO):List F:=[.s (.i .i64 a.ID.dZ),.s (.i .i64 a.ID.bW),.s (.i .i64 a.fo),.s (.i .i64 a.c8)]
def AG:aO:=⟨yH,0,0⟩
structure bP where
 jM:Int
 jJ:Int
 et:Int
 bJ:List Int
 deriving DecidableEq,Inhabited
def lE (a:bP):List D:=[.i .i64 a.jM,.i .i64 a.jJ,.i .i64 a.et,.l (a.bJ.map eI)]
def eN (a:bP):List F:=[.s (.i .i64 a.jM),.s (.i .i64 a.jJ),.s (.i .i64 a.et),.l 3 1 (a.bJ.map eI) a.bJ.length]
def pB:bP:=⟨0,0,0,[]⟩
structure cE where
 eC:Int
 gm:Int
 jE:Int
 yI:Int
 fo:Int
 deriving DecidableEq,Inhabited
def me (a:cE):List D:=[.i .i64 a.eC,.i .i64 a.gm,.i .i64 a.jE,.i .i64 a.yI,.i .i64 a.fo]
def eT (a:cE):List F:=[.s (.i .i64 a.eC),.s (.i .i64 a.gm),.s (.i .i64 a.jE),.s (.i .i64 a.yI),.s (.i .i64 a.fo)]
def cr:cE:=⟨0,0,0,0,0⟩
structure cN where
 f6:Int
 eX:Int
 fA:Int
 deriving DecidableEq,Inhabited
def pY (a:cN):List D:=[.i .i64 a.f6,.i .i64 a.eX,.i .i64 a.fA]
def iw (a:cN):List F:=[.s (.i .i64 a.f6),.s (.i .i64 a.eX),.s (.i .i64 a.fA)]
def ed:cN:=⟨0,0,0⟩
structure a9 where
 bB:Int
 aA:List ae
 deriving DecidableEq,Inhabited
def gH (a:a9):List D:=[.i .i64 a.bB,.l (a.aA.map aM)]
def dx (a:a9):List F:=[.s (.i .i64 a.bB),.l 131 2 (a.aA.map aM) a.aA.length]
def kA:a9:=⟨0,[]⟩
structure cP where
 aC:Int
 cS:Int
 er:Int
 deriving DecidableEq,Inhabited
def mf (a:cP):List D:=[.i .i64 a.aC,.i .i64 a.cS,.i .i64 a.er]
def yQ (a:cP):List F:=[.s (.i .i64 a.aC),.s (.i .i64 a.cS),.s (.i .i64 a.er)]
def QB:cP:=⟨0,0,0⟩
structure ah where
 bE:aO
 gG:bP
 bi:Int
 aK:cE
 bL:Int
 ag:Int
 aZ:Int
 aX:Int
 bg:Int
 dX:Int
 gr:cN
 aG:List bV
 aw:a9
 dP:Int
 bU:cP
 deriving DecidableEq,Inhabited
def bZ (a:ah):List D:=[.i .i64 a.bE.ID.dZ,.i .i64 a.bE.ID.bW,.i .i64 a.bE.fo,.i .i64 a.bE.c8,.i .i64 a.gG.jM,.i .i64 a.gG.jJ,.i .i64 a.gG.et,.l (a.gG.bJ.map eI),.i .i64 a.bi,.i .i64 a.aK.eC,.i .i64 a.aK.gm,.i .i64 a.aK.jE,.i .i64 a.aK.yI,.i .i64 a.aK.fo,.i .i64 a.bL,.i .i64 a.ag,.i .i64 a.aZ,.i .i64 a.aX,.i .i64 a.bg,.i .i64 a.dX,.i .i64 a.gr.f6,.i .i64 a.gr.eX,.i .i64 a.gr.fA,.l (a.aG.map ee),.i .i64 a.aw.bB,.l (a.aw.aA.map aM),.i .i64 a.dP,.i .i64 a.bU.aC,.i .i64 a.bU.cS,.i .i64 a.bU.er]
def c7 (a:ah):List F:=[.s (.i .i64 a.bE.ID.dZ),.s (.i .i64 a.bE.ID.bW),.s (.i .i64 a.bE.fo),.s (.i .i64 a.bE.c8),.s (.i .i64 a.gG.jM),.s (.i .i64 a.gG.jJ),.s (.i .i64 a.gG.et),.l 3 1 (a.gG.bJ.map eI) a.gG.bJ.length,.s (.i .i64 a.bi),.s (.i .i64 a.aK.eC),.s (.i .i64 a.aK.gm),.s (.i .i64 a.aK.jE),.s (.i .i64 a.aK.yI),.s (.i .i64 a.aK.fo),.s (.i .i64 a.bL),.s (.i .i64 a.ag),.s (.i .i64 a.aZ),.s (.i .i64 a.aX),.s (.i .i64 a.bg),.s (.i .i64 a.dX),.s (.i .i64 a.gr.f6),.s (.i .i64 a.gr.eX),.s (.i .i64 a.gr.fA),.l 119 1 (a.aG.map ee) a.aG.length,.s (.i .i64 a.aw.bB),.l 131 2 (a.aw.aA.map aM) a.aw.aA.length,.s (.i .i64 a.dP),.s (.i .i64 a.bU.aC),.s (.i .i64 a.bU.cS),.s (.i .i64 a.bU.er)]
def pX:ah:=⟨AG,pB,0,cr,0,0,0,0,0,0,ed,[],kA,0,QB⟩
structure aD where
 aC:Int
 dW:Int
 deriving DecidableEq,Inhabited
def bu (a:aD):List D:=[.i .i64 a.aC,.i .i64 a.dW]
def df:aD:=⟨0,0⟩
structure am where
 eE:Int
 bz:Int
 eg:Int
 aj:List aD
 deriving DecidableEq,Inhabited
def cT (a:am):List D:=[.i .i64 a.eE,.i .i64 a.bz,.i .i64 a.eg,.l (a.aj.map bu)]
def cq (a:am):List F:=[.s (.i .i64 a.eE),.s (.i .i64 a.bz),.s (.i .i64 a.eg),.l 115 2 (a.aj.map bu) a.aj.length]
def i9:am:=⟨0,0,0,[]⟩
structure aH where
 bh:Int
 bg:Int
 ag:Int
 aX:Int
 bW:Int
 cm:cE
 jE:Int
 deriving DecidableEq,Inhabited
def cZ (a:aH):List D:=[.i .i64 a.bh,.i .i64 a.bg,.i .i64 a.ag,.i .i64 a.aX,.i .i64 a.bW,.i .i64 a.cm.eC,.i .i64 a.cm.gm,.i .i64 a.cm.jE,.i .i64 a.cm.yI,.i .i64 a.cm.fo,.i .i64 a.jE]
def dt (a:aH):List F:=[.s (.i .i64 a.bh),.s (.i .i64 a.bg),.s (.i .i64 a.ag),.s (.i .i64 a.aX),.s (.i .i64 a.bW),.s (.i .i64 a.cm.eC),.s (.i .i64 a.cm.gm),.s (.i .i64 a.cm.jE),.s (.i .i64 a.cm.yI),.s (.i .i64 a.cm.fo),.s (.i .i64 a.jE)]
def dQ:aH:=⟨0,0,0,0,0,cr,0⟩
structure bv where
 cY:Int
 fU:Int
 bb:List Int
 jE:Int
 deriving DecidableEq,Inhabited
def eQ (a:bv):List D:=[.i .i64 a.cY,.i .i64 a.fU,.l (a.bb.map eU8),.i .i64 a.jE]
def pI (a:bv):List F:=[.s (.i .i64 a.cY),.s (.i .i64 a.fU),.l 5 1 (a.bb.map eU8) a.bb.length,.s (.i .i64 a.jE)]
def mB:bv:=⟨0,0,[],0⟩
structure ax where
 ag:Int
 aX:Int
 bC:bv
 deriving DecidableEq,Inhabited
def db (a:ax):List D:=[.i .i64 a.ag,.i .i64 a.aX,.i .i64 a.bC.cY,.i .i64 a.bC.fU,.l (a.bC.bb.map eU8),.i .i64 a.bC.jE]
def iy (a:ax):List F:=[.s (.i .i64 a.ag),.s (.i .i64 a.aX),.s (.i .i64 a.bC.cY),.s (.i .i64 a.bC.fU),.l 5 1 (a.bC.bb.map eU8) a.bC.bb.length,.s (.i .i64 a.bC.jE)]
def eF:ax:=⟨0,0,mB⟩
structure bS where
 bm:Int
 eW:Bool
 ef:Bool
 bg:Int
 bA:aH
 cA:ax
 deriving DecidableEq,Inhabited
def eb (a:bS):List D:=[.i .i64 a.bm,.b a.eW,.b a.ef,.i .i64 a.bg,.i .i64 a.bA.bh,.i .i64 a.bA.bg,.i .i64 a.bA.ag,.i .i64 a.bA.aX,.i .i64 a.bA.bW,.i .i64 a.bA.cm.eC,.i .i64 a.bA.cm.gm,.i .i64 a.bA.cm.jE,.i .i64 a.bA.cm.yI,.i .i64 a.bA.cm.fo,.i .i64 a.bA.jE,.i .i64 a.cA.ag,.i .i64 a.cA.aX,.i .i64 a.cA.bC.cY,.i .i64 a.cA.bC.fU,.l (a.cA.bC.bb.map eU8),.i .i64 a.cA.bC.jE]
def mN (a:bS):List F:=[.s (.i .i64 a.bm),.s (.b a.eW),.s (.b a.ef),.s (.i .i64 a.bg),.s (.i .i64 a.bA.bh),.s (.i .i64 a.bA.bg),.s (.i .i64 a.bA.ag),.s (.i .i64 a.bA.aX),.s (.i .i64 a.bA.bW),.s (.i .i64 a.bA.cm.eC),.s (.i .i64 a.bA.cm.gm),.s (.i .i64 a.bA.cm.jE),.s (.i .i64 a.bA.cm.yI),.s (.i .i64 a.bA.cm.fo),.s (.i .i64 a.bA.jE),.s (.i .i64 a.cA.ag),.s (.i .i64 a.cA.aX),.s (.i .i64 a.cA.bC.cY),.s (.i .i64 a.cA.bC.fU),.l 5 1 (a.cA.bC.bb.map eU8) a.cA.bC.bb.length,.s (.i .i64 a.cA.bC.jE)]
def fL:bS:=⟨0,false,false,0,dQ,eF⟩
structure ab where
 ei:aS
 av:List aJ
 aF:List ah
 bk:List am
 aT:List bS
 dy:Int
 ev:bH
 qO:Int
 ki:Int
 deriving DecidableEq,Inhabited
def gv (a:ab):List D:=[.l (a.ei.a8.map dK),.l (a.av.map c9),.l (a.aF.map bZ),.l (a.bk.map cT),.l (a.aT.map eb),.i .i64 a.dy,.i .i64 a.ev.fx,.i .i64 a.ev.fB,.i .i64 a.qO,.i .i64 a.ki]
def bw (a:ab):List F:=[.l 147 2 (a.ei.a8.map dK) a.ei.a8.length,.l 93 14 (a.av.map c9) a.av.length,.l 75 30 (a.aF.map bZ) a.aF.length,.l 57 4 (a.bk.map cT) a.bk.length,.l 49 21 (a.aT.map eb) a.aT.length,.s (.i .i64 a.dy),.s (.i .i64 a.ev.fx),.s (.i .i64 a.ev.fB),.s (.i .i64 a.qO),.s (.i .i64 a.ki)]
def dV:ab:=⟨Ss,[],[],[],[],0,pA,0,0⟩
structure dN where
 bh:Int
 cB:Int
 bg:Int
 bb:List Int
 b8:bS
 deriving DecidableEq,Inhabited
def DJ (a:dN):List D:=[.i .i64 a.bh,.i .i64 a.cB,.i .i64 a.bg,.l (a.bb.map eU8),.i .i64 a.b8.bm,.b a.b8.eW,.b a.b8.ef,.i .i64 a.b8.bg,.i .i64 a.b8.bA.bh,.i .i64 a.b8.bA.bg,.i .i64 a.b8.bA.ag,.i .i64 a.b8.bA.aX,.i .i64 a.b8.bA.bW,.i .i64 a.b8.bA.cm.eC,.i .i64 a.b8.bA.cm.gm,.i .i64 a.b8.bA.cm.jE,.i .i64 a.b8.bA.cm.yI,.i .i64 a.b8.bA.cm.fo,.i .i64 a.b8.bA.jE,.i .i64 a.b8.cA.ag,.i .i64 a.b8.cA.aX,.i .i64 a.b8.cA.bC.cY,.i .i64 a.b8.cA.bC.fU,.l (a.b8.cA.bC.bb.map eU8),.i .i64 a.b8.cA.bC.jE]
def f8 (a:dN):List F:=[.s (.i .i64 a.bh),.s (.i .i64 a.cB),.s (.i .i64 a.bg),.l 5 1 (a.bb.map eU8) a.bb.length,.s (.i .i64 a.b8.bm),.s (.b a.b8.eW),.s (.b a.b8.ef),.s (.i .i64 a.b8.bg),.s (.i .i64 a.b8.bA.bh),.s (.i .i64 a.b8.bA.bg),.s (.i .i64 a.b8.bA.ag),.s (.i .i64 a.b8.bA.aX),.s (.i .i64 a.b8.bA.bW),.s (.i .i64 a.b8.bA.cm.eC),.s (.i .i64 a.b8.bA.cm.gm),.s (.i .i64 a.b8.bA.cm.jE),.s (.i .i64 a.b8.bA.cm.yI),.s (.i .i64 a.b8.bA.cm.fo),.s (.i .i64 a.b8.bA.jE),.s (.i .i64 a.b8.cA.ag),.s (.i .i64 a.b8.cA.aX),.s (.i .i64 a.b8.cA.bC.cY),.s (.i .i64 a.b8.cA.bC.fU),.l 5 1 (a.b8.cA.bC.bb.map eU8) a.b8.cA.bC.bb.length,.s (.i .i64 a.b8.cA.bC.jE)]
def eo:dN:=⟨0,0,0,[],fL⟩
structure bj where
 fb:List Int
 fi:Int
 fh:Int
 deriving DecidableEq,Inhabited
def Xe (a:bj):List D:=[.l (a.fb.map eU8),.i .i64 a.fi,.i .i64 a.fh]
def co (a:bj):List F:=[.l 5 1 (a.fb.map eU8) a.fb.length,.s (.i .i64 a.fi),.s (.i .i64 a.fh)]
structure fJ where
 Steps:List Int
 deriving DecidableEq,Inhabited
def HE (a:fJ):List D:=[.l (a.Steps.map eI)]
structure bI where
 aU:ah
 dE:List aH
 deriving DecidableEq,Inhabited
def eh (a:bI):List F:=[.s (.i .i64 a.aU.bE.ID.dZ),.s (.i .i64 a.aU.bE.ID.bW),.s (.i .i64 a.aU.bE.fo),.s (.i .i64 a.aU.bE.c8),.s (.i .i64 a.aU.gG.jM),.s (.i .i64 a.aU.gG.jJ),.s (.i .i64 a.aU.gG.et),.l 3 1 (a.aU.gG.bJ.map eI) a.aU.gG.bJ.length,.s (.i .i64 a.aU.bi),.s (.i .i64 a.aU.aK.eC),.s (.i .i64 a.aU.aK.gm),.s (.i .i64 a.aU.aK.jE),.s (.i .i64 a.aU.aK.yI),.s (.i .i64 a.aU.aK.fo),.s (.i .i64 a.aU.bL),.s (.i .i64 a.aU.ag),.s (.i .i64 a.aU.aZ),.s (.i .i64 a.aU.aX),.s (.i .i64 a.aU.bg),.s (.i .i64 a.aU.dX),.s (.i .i64 a.aU.gr.f6),.s (.i .i64 a.aU.gr.eX),.s (.i .i64 a.aU.gr.fA),.l 119 1 (a.aU.aG.map ee) a.aU.aG.length,.s (.i .i64 a.aU.aw.bB),.l 131 2 (a.aU.aw.aA.map aM) a.aU.aw.aA.length,.s (.i .i64 a.aU.dP),.s (.i .i64 a.aU.bU.aC),.s (.i .i64 a.aU.bU.cS),.s (.i .i64 a.aU.bU.er),.l 43 11 (a.dE.map cZ) a.dE.length]
def DD:bI:=⟨pX,[]⟩
structure aY where
 bm:aJ
 dE:List aH
 deriving DecidableEq,Inhabited
def cd (a:aY):List F:=[.s (.i .i64 a.bm.dq.ID.dZ),.s (.i .i64 a.bm.dq.ID.bW),.s (.i .i64 a.bm.dq.fo),.s (.i .i64 a.bm.dq.dv),.s (.i .i64 a.bm.bi),.s (.i .i64 a.bm.bg),.s (.i .i64 a.bm.ag),.s (.i .i64 a.bm.aZ),.s (.i .i64 a.bm.aX),.s (.b a.bm.cy),.s (.i .i64 a.bm.fA),.s (.i .i64 a.bm.bY.bB),.l 131 2 (a.bm.bY.aK.map aM) a.bm.bY.aK.length,.l 119 1 (a.bm.bY.be.map ee) a.bm.bY.be.length,.l 43 11 (a.dE.map cZ) a.dE.length]
def d5:aY:=⟨vP,[]⟩
structure bM where
 aU:ah
 d8:am
 ja:List aH
 cA:List ax
 deriving DecidableEq,Inhabited
def bD (a:bM):List F:=[.s (.i .i64 a.aU.bE.ID.dZ),.s (.i .i64 a.aU.bE.ID.bW),.s (.i .i64 a.aU.bE.fo),.s (.i .i64 a.aU.bE.c8),.s (.i .i64 a.aU.gG.jM),.s (.i .i64 a.aU.gG.jJ),.s (.i .i64 a.aU.gG.et),.l 3 1 (a.aU.gG.bJ.map eI) a.aU.gG.bJ.length,.s (.i .i64 a.aU.bi),.s (.i .i64 a.aU.aK.eC),.s (.i .i64 a.aU.aK.gm),.s (.i .i64 a.aU.aK.jE),.s (.i .i64 a.aU.aK.yI),.s (.i .i64 a.aU.aK.fo),.s (.i .i64 a.aU.bL),.s (.i .i64 a.aU.ag),.s (.i .i64 a.aU.aZ),.s (.i .i64 a.aU.aX),.s (.i .i64 a.aU.bg),.s (.i .i64 a.aU.dX),.s (.i .i64 a.aU.gr.f6),.s (.i .i64 a.aU.gr.eX),.s (.i .i64 a.aU.gr.fA),.l 119 1 (a.aU.aG.map ee) a.aU.aG.length,.s (.i .i64 a.aU.aw.bB),.l 131 2 (a.aU.aw.aA.map aM) a.aU.aw.aA.length,.s (.i .i64 a.aU.dP),.s (.i .i64 a.aU.bU.aC),.s (.i .i64 a.aU.bU.cS),.s (.i .i64 a.aU.bU.er),.s (.i .i64 a.d8.eE),.s (.i .i64 a.d8.bz),.s (.i .i64 a.d8.eg),.l 115 2 (a.d8.aj.map bu) a.d8.aj.length,.l 43 11 (a.ja.map cZ) a.ja.length,.l 47 6 (a.cA.map db) a.cA.length]
def cj:bM:=⟨pX,i9,[],[]⟩
structure Zl where
 ag:Int
 Path:fJ
 deriving DecidableEq,Inhabited
structure iv where
 Code:Int
 yI:Int
 vQ:Int
 OK:Int
 deriving DecidableEq,Inhabited
def gN (a:iv):List F:=[.s (.i .i64 a.Code),.s (.i .i64 a.yI),.s (.i .i64 a.vQ),.s (.i .i64 a.OK)]
def eP:iv:=⟨0,0,0,0⟩
theorem Try.follows:prog.follows .mixedOrders=true:=Tryz.follows
end Go.AM
