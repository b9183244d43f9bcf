/- A part. -/
import Derived.Test.YtcfhabdgiieejaaGreatE3
import Derived.Test.YtcfhabdgiieejaaGreatProg
set_option linter.unusedVariables false
set_option linter.unusedSimpArgs false
namespace Go.AM
open Go.Proofs
open Tryz
variable {P:Program} {t:TypeId}
theorem Z2 {n:Nat} (h:(P.info? t).map (·.size)=some n):∃i,P.info? t=some i/\i.size=n:=by
 cases hi:P.info? t with
 |none=>simp[hi] at h
 |some i=>simp[hi] at h;exact⟨i,rfl,h⟩
theorem Z3 {z:Value} (h:(P.info? t).map (·.zero)=some (some z)):∃i,P.info? t=some i/\i.zero=some z:=by
 cases hi:P.info? t with
 |none=>simp[hi] at h
 |some i=>simp[hi] at h;exact⟨i,rfl,h⟩
theorem nk {z:Value} {n b:Nat} (h:(P.info? t).map (λi=>(i.size,i.bytes,i.zero))=some (n,b,some z)) (hz:z.cells.size=n):∃i z,P.info? t=some i/\i.size=n/\i.bytes=b/\i.zero=some z/\z.cells.size=n:=by
 cases hi:P.info? t with
 |none=>simp[hi] at h
 |some i=>simp[hi] at h;exact⟨i,z,rfl,h.1,h.2.1,h.2.2,hz⟩
theorem Z1 {n:Nat} (h:(P.info? t).map (·.size)=some n) (hn:n≠0):∃i,P.info? t=some i/\i.size≠0:=by
 cases hi:P.info? t with
 |none=>simp[hi] at h
 |some i=>simp[hi] at h;exact⟨i,rfl,by omega⟩
theorem dY {z:Value} {Q:Value->Prop} (h:(P.info? t).map (·.zero)=some (some z)) (q:Q z:=by exact rfl):∃i z,P.info? t=some i/\i.zero=some z/\Q z:=by
 obtain⟨i,h1,h2⟩:=Z3 h
 exact⟨i,_,h1,h2,q⟩
theorem dX {n:Nat} (h:(P.info? t).map (·.size)=some n:=by kernel_rfl):∃i,P.info? t=some i/\i.size=n:=Z2 h
theorem dx (n:Nat) (h:(P.info? t).map (·.size)=some n:=by kernel_rfl) (hn:n≠0:=by decide):∃i,P.info? t=some i/\i.size≠0:=Z1 h hn
instance:TyN prog 3 1:=⟨dX⟩
instance:jw prog 3:=⟨λw=>by kernel_rfl,dX⟩
instance:TyU prog 3 (.int .i64):=⟨underlying3⟩
theorem Tryz.z3:(prog.info? 3).map (·.zero)=some (some (.int .i64 0)):=by kernel_rfl
instance:TyZ prog 3 [.d false (.i .i64 0)]:=⟨dY Tryz.z3⟩
instance:TyE prog 3 [.i .i64 0]:=⟨dY Tryz.z3⟩
instance:TyN prog 4 1:=⟨dX⟩
instance:jw prog 4:=⟨λw=>by kernel_rfl,dX⟩
instance:TyU prog 4 (.bool):=⟨underlying4⟩
theorem Tryz.z4:(prog.info? 4).map (·.zero)=some (some (.bool false)):=by kernel_rfl
instance:TyZ prog 4 [.d false (.b false)]:=⟨dY Tryz.z4⟩
instance:TyE prog 4 [.b false]:=⟨dY Tryz.z4⟩
instance:TyN prog 5 1:=⟨dX⟩
instance:jw prog 5:=⟨λw=>by kernel_rfl,dX⟩
instance:TyU prog 5 (.int .u8):=⟨underlying5⟩
theorem Tryz.z5:(prog.info? 5).map (·.zero)=some (some (.int .u8 0)):=by kernel_rfl
instance:TyZ prog 5 [.d false (.i .u8 0)]:=⟨dY Tryz.z5⟩
instance:TyE prog 5 [.i .u8 0]:=⟨dY Tryz.z5⟩
instance:TyN prog 9 1:=⟨dX⟩
instance:jw prog 9:=⟨λw=>by kernel_rfl,dX⟩
instance:TyU prog 9 (.string):=⟨underlying9⟩
theorem Tryz.z9:(prog.info? 9).map (·.zero)=some (some (.string ⟨#[]⟩)):=by kernel_rfl
instance:TyZ prog 9 [.d false (.str ⟨#[]⟩)]:=⟨dY Tryz.z9⟩
instance:TyE prog 9 [.str ⟨#[]⟩]:=⟨dY Tryz.z9⟩
instance:TyN prog 22 1:=⟨dX⟩
instance:jw prog 22:=⟨λw=>by kernel_rfl,dX⟩
theorem Tryz.z22:(prog.info? 22).map (·.zero)=some (some (.slice none 0 0)):=by kernel_rfl
instance:TyZ prog 22 [.nil]:=⟨dY Tryz.z22⟩
instance:TyE prog 22 [.l []]:=⟨dY Tryz.z22⟩
instance:ei prog 22 5 1 1:=⟨underlying22,nk (z:=.int .u8 0) (by kernel_rfl) rfl,by decide⟩
instance:TyN prog 24 1:=⟨dX⟩
instance:jw prog 24:=⟨λw=>by kernel_rfl,dX⟩
theorem Tryz.z24:(prog.info? 24).map (·.zero)=some (some (.slice none 0 0)):=by kernel_rfl
instance:TyZ prog 24 [.nil]:=⟨dY Tryz.z24⟩
instance:TyE prog 24 [.l []]:=⟨dY Tryz.z24⟩
instance:ei prog 24 155 2 32:=⟨underlying24,nk (z:=.agg #[.int .i64 0,.slice none 0 0]) (by kernel_rfl) rfl,by decide⟩
instance:TyN prog 26 1:=⟨dX⟩
instance:g7 prog 26 1:=⟨λw=>by kernel_rfl,dX⟩
theorem Tryz.z26:(prog.info? 26).map (·.zero)=some (some (.agg #[.slice none 0 0])):=by kernel_rfl
instance:TyZ prog 26 [.nil]:=⟨dY Tryz.z26⟩
instance:TyE prog 26 [.l []]:=⟨dY Tryz.z26⟩
instance:TyB prog 26 [(0,1)]:=⟨_,underlying26,λw=>by kernel_rfl⟩
instance:TyF prog 26 0 0 24:=⟨_,_,underlying26,rfl,rfl,rfl,dx 1⟩
instance:TyN prog 27 1:=⟨dX⟩
instance:jw prog 27:=⟨λw=>by kernel_rfl,dX⟩
theorem Tryz.z27:(prog.info? 27).map (·.zero)=some (some (.slice none 0 0)):=by kernel_rfl
instance:TyZ prog 27 [.nil]:=⟨dY Tryz.z27⟩
instance:TyE prog 27 [.l []]:=⟨dY Tryz.z27⟩
instance:ei prog 27 67 14 144:=⟨underlying27,nk (z:=.agg #[.int .i64 0,.int .i64 0,.int .i64 0,.int .i64 0,.int .i64 0,.int .i64 0,.int .i64 0,.int .i64 0,.int .i64 0,.bool false,.int .i64 0,.int .i64 0,.slice none 0 0,.slice none 0 0]) (by kernel_rfl) rfl,by decide⟩
instance:TyN prog 28 1:=⟨dX⟩
instance:jw prog 28:=⟨λw=>by kernel_rfl,dX⟩
theorem Tryz.z28:(prog.info? 28).map (·.zero)=some (some (.slice none 0 0)):=by kernel_rfl
instance:TyZ prog 28 [.nil]:=⟨dY Tryz.z28⟩
instance:TyE prog 28 [.l []]:=⟨dY Tryz.z28⟩
instance:ei prog 28 93 30 288:=⟨underlying28,nk (z:=.agg #[.int .i64 0,.int .i64 0,.int .i64 0,.int .i64 0,.int .i64 0,.int .i64 0,.int .i64 0,.slice none 0 0,.int .i64 0,.int .i64 0,.int .i64 0,.int .i64 0,.int .i64 0,.int .i64 0,.int .i64 0,.int .i64 0,.int .i64 0,.int .i64 0,.int .i64 0,.int .i64 0,.int .i64 0,.int .i64 0,.int .i64 0,.slice none 0 0,.int .i64 0,.slice none 0 0,.int .i64 0,.int .i64 0,.int .i64 0,.int .i64 0]) (by kernel_rfl) rfl,by decide⟩
instance:TyN prog 29 1:=⟨dX⟩
instance:jw prog 29:=⟨λw=>by kernel_rfl,dX⟩
theorem Tryz.z29:(prog.info? 29).map (·.zero)=some (some (.slice none 0 0)):=by kernel_rfl
instance:TyZ prog 29 [.nil]:=⟨dY Tryz.z29⟩
instance:TyE prog 29 [.l []]:=⟨dY Tryz.z29⟩
instance:ei prog 29 107 4 48:=⟨underlying29,nk (z:=.agg #[.int .i64 0,.int .i64 0,.int .i64 0,.slice none 0 0]) (by kernel_rfl) rfl,by decide⟩
instance:TyN prog 30 1:=⟨dX⟩
instance:jw prog 30:=⟨λw=>by kernel_rfl,dX⟩
theorem Tryz.z30:(prog.info? 30).map (·.zero)=some (some (.slice none 0 0)):=by kernel_rfl
instance:TyZ prog 30 [.nil]:=⟨dY Tryz.z30⟩
instance:TyE prog 30 [.l []]:=⟨dY Tryz.z30⟩
instance:ei prog 30 48 21 176:=⟨underlying30,nk (z:=.agg #[.int .i64 0,.bool false,.bool false,.int .i64 0,.int .i64 0,.int .i64 0,.int .i64 0,.int .i64 0,.int .i64 0,.int .i64 0,.int .i64 0,.int .i64 0,.int .i64 0,.int .i64 0,.int .i64 0,.int .i64 0,.int .i64 0,.int .i64 0,.int .i64 0,.slice none 0 0,.int .i64 0]) (by kernel_rfl) rfl,by decide⟩
instance:TyN prog 32 2:=⟨dX⟩
instance:g7 prog 32 2:=⟨λw=>by kernel_rfl,dX⟩
theorem Tryz.z32:(prog.info? 32).map (·.zero)=some (some (.agg #[.int .i64 0,.int .i64 0])):=by kernel_rfl
instance:TyZ prog 32 [.d false (.i .i64 0),.d false (.i .i64 0)]:=⟨dY Tryz.z32⟩
instance:TyE prog 32 [.i .i64 0,.i .i64 0]:=⟨dY Tryz.z32⟩
instance:TyB prog 32 [(0,1),(1,1)]:=⟨_,underlying32,λw=>by kernel_rfl⟩
instance:TyF prog 32 0 0 3:=⟨_,_,underlying32,rfl,rfl,rfl,dx 1⟩
instance:TyF prog 32 1 1 3:=⟨_,_,underlying32,rfl,rfl,rfl,dx 1⟩
instance:TyN prog 34 10:=⟨dX⟩
instance:g7 prog 34 10:=⟨λw=>by kernel_rfl,dX⟩
theorem Tryz.z34:(prog.info? 34).map (·.zero)=some (some (.agg #[.slice none 0 0,.slice none 0 0,.slice none 0 0,.slice none 0 0,.slice none 0 0,.int .i64 0,.int .i64 0,.int .i64 0,.int .i64 0,.int .i64 0])):=by kernel_rfl
instance:TyZ prog 34 [.nil,.nil,.nil,.nil,.nil,.d false (.i .i64 0),.d false (.i .i64 0),.d false (.i .i64 0),.d false (.i .i64 0),.d false (.i .i64 0)]:=⟨dY Tryz.z34⟩
instance:TyE prog 34 [.l [],.l [],.l [],.l [],.l [],.i .i64 0,.i .i64 0,.i .i64 0,.i .i64 0,.i .i64 0]:=⟨dY Tryz.z34⟩
instance:TyB prog 34 [(0,1),(1,1),(2,1),(3,1),(4,1),(5,1),(6,2),(8,1),(9,1)]:=⟨_,underlying34,λw=>by kernel_rfl⟩
instance:TyF prog 34 0 0 26:=⟨_,_,underlying34,rfl,rfl,rfl,dx 1⟩
instance:TyF prog 34 1 1 27:=⟨_,_,underlying34,rfl,rfl,rfl,dx 1⟩
instance:TyF prog 34 2 2 28:=⟨_,_,underlying34,rfl,rfl,rfl,dx 1⟩
instance:TyF prog 34 3 3 29:=⟨_,_,underlying34,rfl,rfl,rfl,dx 1⟩
instance:TyF prog 34 4 4 30:=⟨_,_,underlying34,rfl,rfl,rfl,dx 1⟩
instance:TyF prog 34 5 5 3:=⟨_,_,underlying34,rfl,rfl,rfl,dx 1⟩
instance:TyF prog 34 6 6 32:=⟨_,_,underlying34,rfl,rfl,rfl,dx 2⟩
instance:TyF prog 34 7 8 3:=⟨_,_,underlying34,rfl,rfl,rfl,dx 1⟩
instance:TyF prog 34 8 9 3:=⟨_,_,underlying34,rfl,rfl,rfl,dx 1⟩
instance:TyN prog 35 1:=⟨dX⟩
instance:jw prog 35:=⟨λw=>by kernel_rfl,dX⟩
theorem Tryz.z35:(prog.info? 35).map (·.zero)=some (some (.slice none 0 0)):=by kernel_rfl
instance:TyZ prog 35 [.nil]:=⟨dY Tryz.z35⟩
instance:TyE prog 35 [.l []]:=⟨dY Tryz.z35⟩
instance:ei prog 35 50 25 224:=⟨underlying35,nk (z:=.agg #[.int .i64 0,.int .i64 0,.int .i64 0,.slice none 0 0,.int .i64 0,.bool false,.bool false,.int .i64 0,.int .i64 0,.int .i64 0,.int .i64 0,.int .i64 0,.int .i64 0,.int .i64 0,.int .i64 0,.int .i64 0,.int .i64 0,.int .i64 0,.int .i64 0,.int .i64 0,.int .i64 0,.int .i64 0,.int .i64 0,.slice none 0 0,.int .i64 0]) (by kernel_rfl) rfl,by decide⟩
instance:TyN prog 40 5:=⟨dX⟩
instance:g7 prog 40 5:=⟨λw=>by kernel_rfl,dX⟩
theorem Tryz.z40:(prog.info? 40).map (·.zero)=some (some (.agg #[.int .i64 0,.int .i64 0,.int .i64 0,.int .i64 0,.int .i64 0])):=by kernel_rfl
instance:TyZ prog 40 [.d false (.i .i64 0),.d false (.i .i64 0),.d false (.i .i64 0),.d false (.i .i64 0),.d false (.i .i64 0)]:=⟨dY Tryz.z40⟩
instance:TyE prog 40 [.i .i64 0,.i .i64 0,.i .i64 0,.i .i64 0,.i .i64 0]:=⟨dY Tryz.z40⟩
instance:TyB prog 40 [(0,1),(1,1),(2,1),(3,1),(4,1)]:=⟨_,underlying40,λw=>by kernel_rfl⟩
instance:TyF prog 40 0 0 3:=⟨_,_,underlying40,rfl,rfl,rfl,dx 1⟩
instance:TyF prog 40 1 1 3:=⟨_,_,underlying40,rfl,rfl,rfl,dx 1⟩
instance:TyF prog 40 2 2 3:=⟨_,_,underlying40,rfl,rfl,rfl,dx 1⟩
instance:TyF prog 40 3 3 3:=⟨_,_,underlying40,rfl,rfl,rfl,dx 1⟩
instance:TyF prog 40 4 4 3:=⟨_,_,underlying40,rfl,rfl,rfl,dx 1⟩
instance:TyN prog 42 11:=⟨dX⟩
instance:g7 prog 42 11:=⟨λw=>by kernel_rfl,dX⟩
theorem Tryz.z42:(prog.info? 42).map (·.zero)=some (some (.agg #[.int .i64 0,.int .i64 0,.int .i64 0,.int .i64 0,.int .i64 0,.int .i64 0,.int .i64 0,.int .i64 0,.int .i64 0,.int .i64 0,.int .i64 0])):=by kernel_rfl
instance:TyZ prog 42 [.d false (.i .i64 0),.d false (.i .i64 0),.d false (.i .i64 0),.d false (.i .i64 0),.d false (.i .i64 0),.d false (.i .i64 0),.d false (.i .i64 0),.d false (.i .i64 0),.d false (.i .i64 0),.d false (.i .i64 0),.d false (.i .i64 0)]:=⟨dY Tryz.z42⟩
instance:TyE prog 42 [.i .i64 0,.i .i64 0,.i .i64 0,.i .i64 0,.i .i64 0,.i .i64 0,.i .i64 0,.i .i64 0,.i .i64 0,.i .i64 0,.i .i64 0]:=⟨dY Tryz.z42⟩
instance:TyB prog 42 [(0,1),(1,1),(2,1),(3,1),(4,1),(5,5),(10,1)]:=⟨_,underlying42,λw=>by kernel_rfl⟩
instance:TyF prog 42 0 0 3:=⟨_,_,underlying42,rfl,rfl,rfl,dx 1⟩
instance:TyF prog 42 1 1 3:=⟨_,_,underlying42,rfl,rfl,rfl,dx 1⟩
instance:TyF prog 42 2 2 3:=⟨_,_,underlying42,rfl,rfl,rfl,dx 1⟩
instance:TyF prog 42 3 3 3:=⟨_,_,underlying42,rfl,rfl,rfl,dx 1⟩
instance:TyF prog 42 4 4 3:=⟨_,_,underlying42,rfl,rfl,rfl,dx 1⟩
instance:TyF prog 42 5 5 40:=⟨_,_,underlying42,rfl,rfl,rfl,dx 5⟩
instance:TyF prog 42 6 10 3:=⟨_,_,underlying42,rfl,rfl,rfl,dx 1⟩
instance:TyN prog 44 4:=⟨dX⟩
instance:g7 prog 44 4:=⟨λw=>by kernel_rfl,dX⟩
theorem Tryz.z44:(prog.info? 44).map (·.zero)=some (some (.agg #[.int .i64 0,.int .i64 0,.slice none 0 0,.int .i64 0])):=by kernel_rfl
instance:TyZ prog 44 [.d false (.i .i64 0),.d false (.i .i64 0),.nil,.d false (.i .i64 0)]:=⟨dY Tryz.z44⟩
instance:TyE prog 44 [.i .i64 0,.i .i64 0,.l [],.i .i64 0]:=⟨dY Tryz.z44⟩
instance:TyB prog 44 [(0,1),(1,1),(2,1),(3,1)]:=⟨_,underlying44,λw=>by kernel_rfl⟩
instance:TyF prog 44 0 0 3:=⟨_,_,underlying44,rfl,rfl,rfl,dx 1⟩
instance:TyF prog 44 1 1 3:=⟨_,_,underlying44,rfl,rfl,rfl,dx 1⟩
instance:TyF prog 44 2 2 22:=⟨_,_,underlying44,rfl,rfl,rfl,dx 1⟩
instance:TyF prog 44 3 3 3:=⟨_,_,underlying44,rfl,rfl,rfl,dx 1⟩
instance:TyN prog 46 6:=⟨dX⟩
instance:g7 prog 46 6:=⟨λw=>by kernel_rfl,dX⟩
theorem Tryz.z46:(prog.info? 46).map (·.zero)=some (some (.agg #[.int .i64 0,.int .i64 0,.int .i64 0,.int .i64 0,.slice none 0 0,.int .i64 0])):=by kernel_rfl
instance:TyZ prog 46 [.d false (.i .i64 0),.d false (.i .i64 0),.d false (.i .i64 0),.d false (.i .i64 0),.nil,.d false (.i .i64 0)]:=⟨dY Tryz.z46⟩
instance:TyE prog 46 [.i .i64 0,.i .i64 0,.i .i64 0,.i .i64 0,.l [],.i .i64 0]:=⟨dY Tryz.z46⟩
instance:TyB prog 46 [(0,1),(1,1),(2,4)]:=⟨_,underlying46,λw=>by kernel_rfl⟩
instance:TyF prog 46 0 0 3:=⟨_,_,underlying46,rfl,rfl,rfl,dx 1⟩
instance:TyF prog 46 1 1 3:=⟨_,_,underlying46,rfl,rfl,rfl,dx 1⟩
instance:TyF prog 46 2 2 44:=⟨_,_,underlying46,rfl,rfl,rfl,dx 4⟩
instance:TyN prog 48 21:=⟨dX⟩
instance:g7 prog 48 21:=⟨λw=>by kernel_rfl,dX⟩
theorem Tryz.z48:(prog.info? 48).map (·.zero)=some (some (.agg #[.int .i64 0,.bool false,.bool false,.int .i64 0,.int .i64 0,.int .i64 0,.int .i64 0,.int .i64 0,.int .i64 0,.int .i64 0,.int .i64 0,.int .i64 0,.int .i64 0,.int .i64 0,.int .i64 0,.int .i64 0,.int .i64 0,.int .i64 0,.int .i64 0,.slice none 0 0,.int .i64 0])):=by kernel_rfl
instance:TyZ prog 48 [.d false (.i .i64 0),.d false (.b false),.d false (.b false),.d false (.i .i64 0),.d false (.i .i64 0),.d false (.i .i64 0),.d false (.i .i64 0),.d false (.i .i64 0),.d false (.i .i64 0),.d false (.i .i64 0),.d false (.i .i64 0),.d false (.i .i64 0),.d false (.i .i64 0),.d false (.i .i64 0),.d false (.i .i64 0),.d false (.i .i64 0),.d false (.i .i64 0),.d false (.i .i64 0),.d false (.i .i64 0),.nil,.d false (.i .i64 0)]:=⟨dY Tryz.z48⟩
instance:TyE prog 48 [.i .i64 0,.b false,.b false,.i .i64 0,.i .i64 0,.i .i64 0,.i .i64 0,.i .i64 0,.i .i64 0,.i .i64 0,.i .i64 0,.i .i64 0,.i .i64 0,.i .i64 0,.i .i64 0,.i .i64 0,.i .i64 0,.i .i64 0,.i .i64 0,.l [],.i .i64 0]:=⟨dY Tryz.z48⟩
instance:TyB prog 48 [(0,1),(1,1),(2,1),(3,1),(4,11),(15,6)]:=⟨_,underlying48,λw=>by kernel_rfl⟩
instance:TyF prog 48 0 0 3:=⟨_,_,underlying48,rfl,rfl,rfl,dx 1⟩
instance:TyF prog 48 1 1 4:=⟨_,_,underlying48,rfl,rfl,rfl,dx 1⟩
instance:TyF prog 48 2 2 4:=⟨_,_,underlying48,rfl,rfl,rfl,dx 1⟩
instance:TyF prog 48 3 3 3:=⟨_,_,underlying48,rfl,rfl,rfl,dx 1⟩
instance:TyF prog 48 4 4 42:=⟨_,_,underlying48,rfl,rfl,rfl,dx 11⟩
instance:TyF prog 48 5 15 46:=⟨_,_,underlying48,rfl,rfl,rfl,dx 6⟩
instance:TyN prog 50 25:=⟨dX⟩
instance:g7 prog 50 25:=⟨λw=>by kernel_rfl,dX⟩
theorem Tryz.z50:(prog.info? 50).map (·.zero)=some (some (.agg #[.int .i64 0,.int .i64 0,.int .i64 0,.slice none 0 0,.int .i64 0,.bool false,.bool false,.int .i64 0,.int .i64 0,.int .i64 0,.int .i64 0,.int .i64 0,.int .i64 0,.int .i64 0,.int .i64 0,.int .i64 0,.int .i64 0,.int .i64 0,.int .i64 0,.int .i64 0,.int .i64 0,.int .i64 0,.int .i64 0,.slice none 0 0,.int .i64 0])):=by kernel_rfl
instance:TyZ prog 50 [.d false (.i .i64 0),.d false (.i .i64 0),.d false (.i .i64 0),.nil,.d false (.i .i64 0),.d false (.b false),.d false (.b false),.d false (.i .i64 0),.d false (.i .i64 0),.d false (.i .i64 0),.d false (.i .i64 0),.d false (.i .i64 0),.d false (.i .i64 0),.d false (.i .i64 0),.d false (.i .i64 0),.d false (.i .i64 0),.d false (.i .i64 0),.d false (.i .i64 0),.d false (.i .i64 0),.d false (.i .i64 0),.d false (.i .i64 0),.d false (.i .i64 0),.d false (.i .i64 0),.nil,.d false (.i .i64 0)]:=⟨dY Tryz.z50⟩
instance:TyE prog 50 [.i .i64 0,.i .i64 0,.i .i64 0,.l [],.i .i64 0,.b false,.b false,.i .i64 0,.i .i64 0,.i .i64 0,.i .i64 0,.i .i64 0,.i .i64 0,.i .i64 0,.i .i64 0,.i .i64 0,.i .i64 0,.i .i64 0,.i .i64 0,.i .i64 0,.i .i64 0,.i .i64 0,.i .i64 0,.l [],.i .i64 0]:=⟨dY Tryz.z50⟩
instance:TyB prog 50 [(0,1),(1,1),(2,1),(3,1),(4,21)]:=⟨_,underlying50,λw=>by kernel_rfl⟩
instance:TyF prog 50 0 0 3:=⟨_,_,underlying50,rfl,rfl,rfl,dx 1⟩
instance:TyF prog 50 1 1 3:=⟨_,_,underlying50,rfl,rfl,rfl,dx 1⟩
instance:TyF prog 50 2 2 3:=⟨_,_,underlying50,rfl,rfl,rfl,dx 1⟩
instance:TyF prog 50 3 3 22:=⟨_,_,underlying50,rfl,rfl,rfl,dx 1⟩
instance:TyF prog 50 4 4 48:=⟨_,_,underlying50,rfl,rfl,rfl,dx 21⟩
instance:TyN prog 56 1:=⟨dX⟩
instance:jw prog 56:=⟨λw=>by kernel_rfl,dX⟩
theorem Tryz.z56:(prog.info? 56).map (·.zero)=some (some (.slice none 0 0)):=by kernel_rfl
instance:TyZ prog 56 [.nil]:=⟨dY Tryz.z56⟩
instance:TyE prog 56 [.l []]:=⟨dY Tryz.z56⟩
instance:ei prog 56 211 2 32:=⟨underlying56,nk (z:=.agg #[.int .i64 0,.slice none 0 0]) (by kernel_rfl) rfl,by decide⟩
instance:TyN prog 59 2:=⟨dX⟩
instance:g7 prog 59 2:=⟨λw=>by kernel_rfl,dX⟩
theorem Tryz.z59:(prog.info? 59).map (·.zero)=some (some (.agg #[.int .i64 0,.int .i64 0])):=by kernel_rfl
instance:TyZ prog 59 [.d false (.i .i64 0),.d false (.i .i64 0)]:=⟨dY Tryz.z59⟩
instance:TyE prog 59 [.i .i64 0,.i .i64 0]:=⟨dY Tryz.z59⟩
instance:TyB prog 59 [(0,1),(1,1)]:=⟨_,underlying59,λw=>by kernel_rfl⟩
instance:TyF prog 59 0 0 3:=⟨_,_,underlying59,rfl,rfl,rfl,dx 1⟩
instance:TyF prog 59 1 1 3:=⟨_,_,underlying59,rfl,rfl,rfl,dx 1⟩
instance:TyN prog 61 4:=⟨dX⟩
instance:g7 prog 61 4:=⟨λw=>by kernel_rfl,dX⟩
theorem Tryz.z61:(prog.info? 61).map (·.zero)=some (some (.agg #[.int .i64 0,.int .i64 0,.int .i64 0,.int .i64 0])):=by kernel_rfl
instance:TyZ prog 61 [.d false (.i .i64 0),.d false (.i .i64 0),.d false (.i .i64 0),.d false (.i .i64 0)]:=⟨dY Tryz.z61⟩
instance:TyE prog 61 [.i .i64 0,.i .i64 0,.i .i64 0,.i .i64 0]:=⟨dY Tryz.z61⟩
instance:TyB prog 61 [(0,2),(2,1),(3,1)]:=⟨_,underlying61,λw=>by kernel_rfl⟩
instance:TyF prog 61 0 0 59:=⟨_,_,underlying61,rfl,rfl,rfl,dx 2⟩
instance:TyF prog 61 1 2 3:=⟨_,_,underlying61,rfl,rfl,rfl,dx 1⟩
instance:TyF prog 61 2 3 3:=⟨_,_,underlying61,rfl,rfl,rfl,dx 1⟩
instance:TyN prog 62 1:=⟨dX⟩
instance:jw prog 62:=⟨λw=>by kernel_rfl,dX⟩
theorem Tryz.z62:(prog.info? 62).map (·.zero)=some (some (.slice none 0 0)):=by kernel_rfl
instance:TyZ prog 62 [.nil]:=⟨dY Tryz.z62⟩
instance:TyE prog 62 [.l []]:=⟨dY Tryz.z62⟩
instance:ei prog 62 100 2 32:=⟨underlying62,nk (z:=.agg #[.int .i64 0,.slice none 0 0]) (by kernel_rfl) rfl,by decide⟩
instance:TyN prog 63 1:=⟨dX⟩
instance:jw prog 63:=⟨λw=>by kernel_rfl,dX⟩
theorem Tryz.z63:(prog.info? 63).map (·.zero)=some (some (.slice none 0 0)):=by kernel_rfl
instance:TyZ prog 63 [.nil]:=⟨dY Tryz.z63⟩
instance:TyE prog 63 [.l []]:=⟨dY Tryz.z63⟩
instance:ei prog 63 152 1 24:=⟨underlying63,nk (z:=.agg #[.slice none 0 0]) (by kernel_rfl) rfl,by decide⟩
instance:TyN prog 65 3:=⟨dX⟩
instance:g7 prog 65 3:=⟨λw=>by kernel_rfl,dX⟩
theorem Tryz.z65:(prog.info? 65).map (·.zero)=some (some (.agg #[.int .i64 0,.slice none 0 0,.slice none 0 0])):=by kernel_rfl
instance:TyZ prog 65 [.d false (.i .i64 0),.nil,.nil]:=⟨dY Tryz.z65⟩
instance:TyE prog 65 [.i .i64 0,.l [],.l []]:=⟨dY Tryz.z65⟩
instance:TyB prog 65 [(0,1),(1,1),(2,1)]:=⟨_,underlying65,λw=>by kernel_rfl⟩
instance:TyF prog 65 0 0 3:=⟨_,_,underlying65,rfl,rfl,rfl,dx 1⟩
instance:TyF prog 65 1 1 62:=⟨_,_,underlying65,rfl,rfl,rfl,dx 1⟩
instance:TyF prog 65 2 2 63:=⟨_,_,underlying65,rfl,rfl,rfl,dx 1⟩
instance:TyN prog 67 14:=⟨dX⟩
instance:g7 prog 67 14:=⟨λw=>by kernel_rfl,dX⟩
theorem Tryz.z67:(prog.info? 67).map (·.zero)=some (some (.agg #[.int .i64 0,.int .i64 0,.int .i64 0,.int .i64 0,.int .i64 0,.int .i64 0,.int .i64 0,.int .i64 0,.int .i64 0,.bool false,.int .i64 0,.int .i64 0,.slice none 0 0,.slice none 0 0])):=by kernel_rfl
instance:TyZ prog 67 [.d false (.i .i64 0),.d false (.i .i64 0),.d false (.i .i64 0),.d false (.i .i64 0),.d false (.i .i64 0),.d false (.i .i64 0),.d false (.i .i64 0),.d false (.i .i64 0),.d false (.i .i64 0),.d false (.b false),.d false (.i .i64 0),.d false (.i .i64 0),.nil,.nil]:=⟨dY Tryz.z67⟩
instance:TyE prog 67 [.i .i64 0,.i .i64 0,.i .i64 0,.i .i64 0,.i .i64 0,.i .i64 0,.i .i64 0,.i .i64 0,.i .i64 0,.b false,.i .i64 0,.i .i64 0,.l [],.l []]:=⟨dY Tryz.z67⟩
instance:TyB prog 67 [(0,4),(4,1),(5,1),(6,1),(7,1),(8,1),(9,1),(10,1),(11,3)]:=⟨_,underlying67,λw=>by kernel_rfl⟩
instance:TyF prog 67 0 0 61:=⟨_,_,underlying67,rfl,rfl,rfl,dx 4⟩
instance:TyF prog 67 1 4 3:=⟨_,_,underlying67,rfl,rfl,rfl,dx 1⟩
instance:TyF prog 67 2 5 3:=⟨_,_,underlying67,rfl,rfl,rfl,dx 1⟩
instance:TyF prog 67 3 6 3:=⟨_,_,underlying67,rfl,rfl,rfl,dx 1⟩
instance:TyF prog 67 4 7 3:=⟨_,_,underlying67,rfl,rfl,rfl,dx 1⟩
instance:TyF prog 67 5 8 3:=⟨_,_,underlying67,rfl,rfl,rfl,dx 1⟩
instance:TyF prog 67 6 9 4:=⟨_,_,underlying67,rfl,rfl,rfl,dx 1⟩
instance:TyF prog 67 7 10 3:=⟨_,_,underlying67,rfl,rfl,rfl,dx 1⟩
instance:TyF prog 67 8 11 65:=⟨_,_,underlying67,rfl,rfl,rfl,dx 3⟩
instance:TyN prog 82 4:=⟨dX⟩
instance:g7 prog 82 4:=⟨λw=>by kernel_rfl,dX⟩
theorem Tryz.z82:(prog.info? 82).map (·.zero)=some (some (.agg #[.int .i64 0,.int .i64 0,.int .i64 0,.int .i64 0])):=by kernel_rfl
instance:TyZ prog 82 [.d false (.i .i64 0),.d false (.i .i64 0),.d false (.i .i64 0),.d false (.i .i64 0)]:=⟨dY Tryz.z82⟩
instance:TyE prog 82 [.i .i64 0,.i .i64 0,.i .i64 0,.i .i64 0]:=⟨dY Tryz.z82⟩
instance:TyB prog 82 [(0,2),(2,1),(3,1)]:=⟨_,underlying82,λw=>by kernel_rfl⟩
instance:TyF prog 82 0 0 59:=⟨_,_,underlying82,rfl,rfl,rfl,dx 2⟩
instance:TyF prog 82 1 2 3:=⟨_,_,underlying82,rfl,rfl,rfl,dx 1⟩
instance:TyF prog 82 2 3 3:=⟨_,_,underlying82,rfl,rfl,rfl,dx 1⟩
instance:TyN prog 83 1:=⟨dX⟩
instance:jw prog 83:=⟨λw=>by kernel_rfl,dX⟩
theorem Tryz.z83:(prog.info? 83).map (·.zero)=some (some (.slice none 0 0)):=by kernel_rfl
instance:TyZ prog 83 [.nil]:=⟨dY Tryz.z83⟩
instance:TyE prog 83 [.l []]:=⟨dY Tryz.z83⟩
instance:ei prog 83 3 1 8:=⟨underlying83,nk (z:=.int .i64 0) (by kernel_rfl) rfl,by decide⟩
instance:TyN prog 85 4:=⟨dX⟩
instance:g7 prog 85 4:=⟨λw=>by kernel_rfl,dX⟩
theorem Tryz.z85:(prog.info? 85).map (·.zero)=some (some (.agg #[.int .i64 0,.int .i64 0,.int .i64 0,.slice none 0 0])):=by kernel_rfl
instance:TyZ prog 85 [.d false (.i .i64 0),.d false (.i .i64 0),.d false (.i .i64 0),.nil]:=⟨dY Tryz.z85⟩
instance:TyE prog 85 [.i .i64 0,.i .i64 0,.i .i64 0,.l []]:=⟨dY Tryz.z85⟩
instance:TyB prog 85 [(0,1),(1,1),(2,1),(3,1)]:=⟨_,underlying85,λw=>by kernel_rfl⟩
instance:TyF prog 85 0 0 3:=⟨_,_,underlying85,rfl,rfl,rfl,dx 1⟩
instance:TyF prog 85 1 1 3:=⟨_,_,underlying85,rfl,rfl,rfl,dx 1⟩
instance:TyF prog 85 2 2 3:=⟨_,_,underlying85,rfl,rfl,rfl,dx 1⟩
instance:TyF prog 85 3 3 83:=⟨_,_,underlying85,rfl,rfl,rfl,dx 1⟩
instance:TyN prog 87 3:=⟨dX⟩
instance:g7 prog 87 3:=⟨λw=>by kernel_rfl,dX⟩
theorem Tryz.z87:(prog.info? 87).map (·.zero)=some (some (.agg #[.int .i64 0,.int .i64 0,.int .i64 0])):=by kernel_rfl
instance:TyZ prog 87 [.d false (.i .i64 0),.d false (.i .i64 0),.d false (.i .i64 0)]:=⟨dY Tryz.z87⟩
instance:TyE prog 87 [.i .i64 0,.i .i64 0,.i .i64 0]:=⟨dY Tryz.z87⟩
instance:TyB prog 87 [(0,1),(1,1),(2,1)]:=⟨_,underlying87,λw=>by kernel_rfl⟩
instance:TyF prog 87 0 0 3:=⟨_,_,underlying87,rfl,rfl,rfl,dx 1⟩
instance:TyF prog 87 1 1 3:=⟨_,_,underlying87,rfl,rfl,rfl,dx 1⟩
instance:TyF prog 87 2 2 3:=⟨_,_,underlying87,rfl,rfl,rfl,dx 1⟩
instance:TyN prog 89 2:=⟨dX⟩
instance:g7 prog 89 2:=⟨λw=>by kernel_rfl,dX⟩
theorem Tryz.z89:(prog.info? 89).map (·.zero)=some (some (.agg #[.int .i64 0,.slice none 0 0])):=by kernel_rfl
instance:TyZ prog 89 [.d false (.i .i64 0),.nil]:=⟨dY Tryz.z89⟩
instance:TyE prog 89 [.i .i64 0,.l []]:=⟨dY Tryz.z89⟩
instance:TyB prog 89 [(0,1),(1,1)]:=⟨_,underlying89,λw=>by kernel_rfl⟩
instance:TyF prog 89 0 0 3:=⟨_,_,underlying89,rfl,rfl,rfl,dx 1⟩
instance:TyF prog 89 1 1 62:=⟨_,_,underlying89,rfl,rfl,rfl,dx 1⟩
instance:TyN prog 91 3:=⟨dX⟩
instance:g7 prog 91 3:=⟨λw=>by kernel_rfl,dX⟩
theorem Tryz.z91:(prog.info? 91).map (·.zero)=some (some (.agg #[.int .i64 0,.int .i64 0,.int .i64 0])):=by kernel_rfl
instance:TyZ prog 91 [.d false (.i .i64 0),.d false (.i .i64 0),.d false (.i .i64 0)]:=⟨dY Tryz.z91⟩
instance:TyE prog 91 [.i .i64 0,.i .i64 0,.i .i64 0]:=⟨dY Tryz.z91⟩
instance:TyB prog 91 [(0,1),(1,1),(2,1)]:=⟨_,underlying91,λw=>by kernel_rfl⟩
instance:TyF prog 91 0 0 3:=⟨_,_,underlying91,rfl,rfl,rfl,dx 1⟩
instance:TyF prog 91 1 1 3:=⟨_,_,underlying91,rfl,rfl,rfl,dx 1⟩
instance:TyF prog 91 2 2 3:=⟨_,_,underlying91,rfl,rfl,rfl,dx 1⟩
instance:TyN prog 93 30:=⟨dX⟩
instance:g7 prog 93 30:=⟨λw=>by kernel_rfl,dX⟩
theorem Tryz.z93:(prog.info? 93).map (·.zero)=some (some (.agg #[.int .i64 0,.int .i64 0,.int .i64 0,.int .i64 0,.int .i64 0,.int .i64 0,.int .i64 0,.slice none 0 0,.int .i64 0,.int .i64 0,.int .i64 0,.int .i64 0,.int .i64 0,.int .i64 0,.int .i64 0,.int .i64 0,.int .i64 0,.int .i64 0,.int .i64 0,.int .i64 0,.int .i64 0,.int .i64 0,.int .i64 0,.slice none 0 0,.int .i64 0,.slice none 0 0,.int .i64 0,.int .i64 0,.int .i64 0,.int .i64 0])):=by kernel_rfl
instance:TyZ prog 93 [.d false (.i .i64 0),.d false (.i .i64 0),.d false (.i .i64 0),.d false (.i .i64 0),.d false (.i .i64 0),.d false (.i .i64 0),.d false (.i .i64 0),.nil,.d false (.i .i64 0),.d false (.i .i64 0),.d false (.i .i64 0),.d false (.i .i64 0),.d false (.i .i64 0),.d false (.i .i64 0),.d false (.i .i64 0),.d false (.i .i64 0),.d false (.i .i64 0),.d false (.i .i64 0),.d false (.i .i64 0),.d false (.i .i64 0),.d false (.i .i64 0),.d false (.i .i64 0),.d false (.i .i64 0),.nil,.d false (.i .i64 0),.nil,.d false (.i .i64 0),.d false (.i .i64 0),.d false (.i .i64 0),.d false (.i .i64 0)]:=⟨dY Tryz.z93⟩
instance:TyE prog 93 [.i .i64 0,.i .i64 0,.i .i64 0,.i .i64 0,.i .i64 0,.i .i64 0,.i .i64 0,.l [],.i .i64 0,.i .i64 0,.i .i64 0,.i .i64 0,.i .i64 0,.i .i64 0,.i .i64 0,.i .i64 0,.i .i64 0,.i .i64 0,.i .i64 0,.i .i64 0,.i .i64 0,.i .i64 0,.i .i64 0,.l [],.i .i64 0,.l [],.i .i64 0,.i .i64 0,.i .i64 0,.i .i64 0]:=⟨dY Tryz.z93⟩
instance:TyB prog 93 [(0,4),(4,4),(8,1),(9,5),(14,1),(15,1),(16,1),(17,1),(18,1),(19,1),(20,3),(23,1),(24,2),(26,1),(27,3)]:=⟨_,underlying93,λw=>by kernel_rfl⟩
instance:TyF prog 93 0 0 82:=⟨_,_,underlying93,rfl,rfl,rfl,dx 4⟩
instance:TyF prog 93 1 4 85:=⟨_,_,underlying93,rfl,rfl,rfl,dx 4⟩
instance:TyF prog 93 2 8 3:=⟨_,_,underlying93,rfl,rfl,rfl,dx 1⟩
instance:TyF prog 93 3 9 40:=⟨_,_,underlying93,rfl,rfl,rfl,dx 5⟩
instance:TyF prog 93 4 14 3:=⟨_,_,underlying93,rfl,rfl,rfl,dx 1⟩
instance:TyF prog 93 5 15 3:=⟨_,_,underlying93,rfl,rfl,rfl,dx 1⟩
instance:TyF prog 93 6 16 3:=⟨_,_,underlying93,rfl,rfl,rfl,dx 1⟩
instance:TyF prog 93 7 17 3:=⟨_,_,underlying93,rfl,rfl,rfl,dx 1⟩
instance:TyF prog 93 8 18 3:=⟨_,_,underlying93,rfl,rfl,rfl,dx 1⟩
instance:TyF prog 93 9 19 3:=⟨_,_,underlying93,rfl,rfl,rfl,dx 1⟩
instance:TyF prog 93 10 20 87:=⟨_,_,underlying93,rfl,rfl,rfl,dx 3⟩
instance:TyF prog 93 11 23 63:=⟨_,_,underlying93,rfl,rfl,rfl,dx 1⟩
instance:TyF prog 93 12 24 89:=⟨_,_,underlying93,rfl,rfl,rfl,dx 2⟩
instance:TyF prog 93 13 26 3:=⟨_,_,underlying93,rfl,rfl,rfl,dx 1⟩
instance:TyF prog 93 14 27 91:=⟨_,_,underlying93,rfl,rfl,rfl,dx 3⟩
instance:TyN prog 100 2:=⟨dX⟩
instance:g7 prog 100 2:=⟨λw=>by kernel_rfl,dX⟩
theorem Tryz.z100:(prog.info? 100).map (·.zero)=some (some (.agg #[.int .i64 0,.slice none 0 0])):=by kernel_rfl
instance:TyZ prog 100 [.d false (.i .i64 0),.nil]:=⟨dY Tryz.z100⟩
instance:TyE prog 100 [.i .i64 0,.l []]:=⟨dY Tryz.z100⟩
instance:TyB prog 100 [(0,1),(1,1)]:=⟨_,underlying100,λw=>by kernel_rfl⟩
instance:TyF prog 100 0 0 3:=⟨_,_,underlying100,rfl,rfl,rfl,dx 1⟩
instance:TyF prog 100 1 1 22:=⟨_,_,underlying100,rfl,rfl,rfl,dx 1⟩
instance:TyN prog 105 1:=⟨dX⟩
instance:jw prog 105:=⟨λw=>by kernel_rfl,dX⟩
theorem Tryz.z105:(prog.info? 105).map (·.zero)=some (some (.slice none 0 0)):=by kernel_rfl
instance:TyZ prog 105 [.nil]:=⟨dY Tryz.z105⟩
instance:TyE prog 105 [.l []]:=⟨dY Tryz.z105⟩
instance:ei prog 105 166 2 16:=⟨underlying105,nk (z:=.agg #[.int .i64 0,.int .i64 0]) (by kernel_rfl) rfl,by decide⟩
instance:TyN prog 107 4:=⟨dX⟩
instance:g7 prog 107 4:=⟨λw=>by kernel_rfl,dX⟩
theorem Tryz.z107:(prog.info? 107).map (·.zero)=some (some (.agg #[.int .i64 0,.int .i64 0,.int .i64 0,.slice none 0 0])):=by kernel_rfl
instance:TyZ prog 107 [.d false (.i .i64 0),.d false (.i .i64 0),.d false (.i .i64 0),.nil]:=⟨dY Tryz.z107⟩
instance:TyE prog 107 [.i .i64 0,.i .i64 0,.i .i64 0,.l []]:=⟨dY Tryz.z107⟩
instance:TyB prog 107 [(0,1),(1,1),(2,1),(3,1)]:=⟨_,underlying107,λw=>by kernel_rfl⟩
instance:TyF prog 107 0 0 3:=⟨_,_,underlying107,rfl,rfl,rfl,dx 1⟩
instance:TyF prog 107 1 1 3:=⟨_,_,underlying107,rfl,rfl,rfl,dx 1⟩
instance:TyF prog 107 2 2 3:=⟨_,_,underlying107,rfl,rfl,rfl,dx 1⟩
instance:TyF prog 107 3 3 105:=⟨_,_,underlying107,rfl,rfl,rfl,dx 1⟩
instance:TyN prog 125 3:=⟨dX⟩
instance:g7 prog 125 3:=⟨λw=>by kernel_rfl,dX⟩
theorem Tryz.z125:(prog.info? 125).map (·.zero)=some (some (.agg #[.slice none 0 0,.int .i64 0,.int .i64 0])):=by kernel_rfl
instance:TyZ prog 125 [.nil,.d false (.i .i64 0),.d false (.i .i64 0)]:=⟨dY Tryz.z125⟩
instance:TyE prog 125 [.l [],.i .i64 0,.i .i64 0]:=⟨dY Tryz.z125⟩
instance:TyB prog 125 [(0,1),(1,1),(2,1)]:=⟨_,underlying125,λw=>by kernel_rfl⟩
instance:TyF prog 125 0 0 22:=⟨_,_,underlying125,rfl,rfl,rfl,dx 1⟩
instance:TyF prog 125 1 1 3:=⟨_,_,underlying125,rfl,rfl,rfl,dx 1⟩
instance:TyF prog 125 2 2 3:=⟨_,_,underlying125,rfl,rfl,rfl,dx 1⟩
instance:TyN prog 148 1:=⟨dX⟩
instance:g7 prog 148 1:=⟨λw=>by kernel_rfl,dX⟩
theorem Tryz.z148:(prog.info? 148).map (·.zero)=some (some (.agg #[.slice none 0 0])):=by kernel_rfl
instance:TyZ prog 148 [.nil]:=⟨dY Tryz.z148⟩
instance:TyE prog 148 [.l []]:=⟨dY Tryz.z148⟩
instance:TyB prog 148 [(0,1)]:=⟨_,underlying148,λw=>by kernel_rfl⟩
instance:TyF prog 148 0 0 83:=⟨_,_,underlying148,rfl,rfl,rfl,dx 1⟩
instance:TyN prog 152 1:=⟨dX⟩
instance:g7 prog 152 1:=⟨λw=>by kernel_rfl,dX⟩
theorem Tryz.z152:(prog.info? 152).map (·.zero)=some (some (.agg #[.slice none 0 0])):=by kernel_rfl
instance:TyZ prog 152 [.nil]:=⟨dY Tryz.z152⟩
instance:TyE prog 152 [.l []]:=⟨dY Tryz.z152⟩
instance:TyB prog 152 [(0,1)]:=⟨_,underlying152,λw=>by kernel_rfl⟩
instance:TyF prog 152 0 0 22:=⟨_,_,underlying152,rfl,rfl,rfl,dx 1⟩
instance:TyN prog 155 2:=⟨dX⟩
instance:g7 prog 155 2:=⟨λw=>by kernel_rfl,dX⟩
theorem Tryz.z155:(prog.info? 155).map (·.zero)=some (some (.agg #[.int .i64 0,.slice none 0 0])):=by kernel_rfl
instance:TyZ prog 155 [.d false (.i .i64 0),.nil]:=⟨dY Tryz.z155⟩
instance:TyE prog 155 [.i .i64 0,.l []]:=⟨dY Tryz.z155⟩
instance:TyB prog 155 [(0,1),(1,1)]:=⟨_,underlying155,λw=>by kernel_rfl⟩
instance:TyF prog 155 0 0 3:=⟨_,_,underlying155,rfl,rfl,rfl,dx 1⟩
instance:TyF prog 155 1 1 83:=⟨_,_,underlying155,rfl,rfl,rfl,dx 1⟩
instance:TyN prog 166 2:=⟨dX⟩
instance:g7 prog 166 2:=⟨λw=>by kernel_rfl,dX⟩
theorem Tryz.z166:(prog.info? 166).map (·.zero)=some (some (.agg #[.int .i64 0,.int .i64 0])):=by kernel_rfl
instance:TyZ prog 166 [.d false (.i .i64 0),.d false (.i .i64 0)]:=⟨dY Tryz.z166⟩
instance:TyE prog 166 [.i .i64 0,.i .i64 0]:=⟨dY Tryz.z166⟩
instance:TyB prog 166 [(0,1),(1,1)]:=⟨_,underlying166,λw=>by kernel_rfl⟩
instance:TyF prog 166 0 0 3:=⟨_,_,underlying166,rfl,rfl,rfl,dx 1⟩
instance:TyF prog 166 1 1 3:=⟨_,_,underlying166,rfl,rfl,rfl,dx 1⟩
instance:TyN prog 168 1:=⟨dX⟩
instance:jw prog 168:=⟨λw=>by kernel_rfl,dX⟩
theorem Tryz.z168:(prog.info? 168).map (·.zero)=some (some (.slice none 0 0)):=by kernel_rfl
instance:TyZ prog 168 [.nil]:=⟨dY Tryz.z168⟩
instance:TyE prog 168 [.l []]:=⟨dY Tryz.z168⟩
instance:ei prog 168 42 11 88:=⟨underlying168,nk (z:=.agg #[.int .i64 0,.int .i64 0,.int .i64 0,.int .i64 0,.int .i64 0,.int .i64 0,.int .i64 0,.int .i64 0,.int .i64 0,.int .i64 0,.int .i64 0]) (by kernel_rfl) rfl,by decide⟩
instance:TyN prog 170 15:=⟨dX⟩
instance:g7 prog 170 15:=⟨λw=>by kernel_rfl,dX⟩
theorem Tryz.z170:(prog.info? 170).map (·.zero)=some (some (.agg #[.int .i64 0,.int .i64 0,.int .i64 0,.int .i64 0,.int .i64 0,.int .i64 0,.int .i64 0,.int .i64 0,.int .i64 0,.bool false,.int .i64 0,.int .i64 0,.slice none 0 0,.slice none 0 0,.slice none 0 0])):=by kernel_rfl
instance:TyZ prog 170 [.d false (.i .i64 0),.d false (.i .i64 0),.d false (.i .i64 0),.d false (.i .i64 0),.d false (.i .i64 0),.d false (.i .i64 0),.d false (.i .i64 0),.d false (.i .i64 0),.d false (.i .i64 0),.d false (.b false),.d false (.i .i64 0),.d false (.i .i64 0),.nil,.nil,.nil]:=⟨dY Tryz.z170⟩
instance:TyE prog 170 [.i .i64 0,.i .i64 0,.i .i64 0,.i .i64 0,.i .i64 0,.i .i64 0,.i .i64 0,.i .i64 0,.i .i64 0,.b false,.i .i64 0,.i .i64 0,.l [],.l [],.l []]:=⟨dY Tryz.z170⟩
instance:TyB prog 170 [(0,14),(14,1)]:=⟨_,underlying170,λw=>by kernel_rfl⟩
instance:TyF prog 170 0 0 67:=⟨_,_,underlying170,rfl,rfl,rfl,dx 14⟩
instance:TyF prog 170 1 14 168:=⟨_,_,underlying170,rfl,rfl,rfl,dx 1⟩
instance:TyN prog 172 1:=⟨dX⟩
instance:jw prog 172:=⟨λw=>by kernel_rfl,dX⟩
theorem Tryz.z172:(prog.info? 172).map (·.zero)=some (some (.slice none 0 0)):=by kernel_rfl
instance:TyZ prog 172 [.nil]:=⟨dY Tryz.z172⟩
instance:TyE prog 172 [.l []]:=⟨dY Tryz.z172⟩
instance:ei prog 172 46 6 64:=⟨underlying172,nk (z:=.agg #[.int .i64 0,.int .i64 0,.int .i64 0,.int .i64 0,.slice none 0 0,.int .i64 0]) (by kernel_rfl) rfl,by decide⟩
instance:TyN prog 174 36:=⟨dX⟩
instance:g7 prog 174 36:=⟨λw=>by kernel_rfl,dX⟩
theorem Tryz.z174:(prog.info? 174).map (·.zero)=some (some (.agg #[.int .i64 0,.int .i64 0,.int .i64 0,.int .i64 0,.int .i64 0,.int .i64 0,.int .i64 0,.slice none 0 0,.int .i64 0,.int .i64 0,.int .i64 0,.int .i64 0,.int .i64 0,.int .i64 0,.int .i64 0,.int .i64 0,.int .i64 0,.int .i64 0,.int .i64 0,.int .i64 0,.int .i64 0,.int .i64 0,.int .i64 0,.slice none 0 0,.int .i64 0,.slice none 0 0,.int .i64 0,.int .i64 0,.int .i64 0,.int .i64 0,.int .i64 0,.int .i64 0,.int .i64 0,.slice none 0 0,.slice none 0 0,.slice none 0 0])):=by kernel_rfl
instance:TyZ prog 174 [.d false (.i .i64 0),.d false (.i .i64 0),.d false (.i .i64 0),.d false (.i .i64 0),.d false (.i .i64 0),.d false (.i .i64 0),.d false (.i .i64 0),.nil,.d false (.i .i64 0),.d false (.i .i64 0),.d false (.i .i64 0),.d false (.i .i64 0),.d false (.i .i64 0),.d false (.i .i64 0),.d false (.i .i64 0),.d false (.i .i64 0),.d false (.i .i64 0),.d false (.i .i64 0),.d false (.i .i64 0),.d false (.i .i64 0),.d false (.i .i64 0),.d false (.i .i64 0),.d false (.i .i64 0),.nil,.d false (.i .i64 0),.nil,.d false (.i .i64 0),.d false (.i .i64 0),.d false (.i .i64 0),.d false (.i .i64 0),.d false (.i .i64 0),.d false (.i .i64 0),.d false (.i .i64 0),.nil,.nil,.nil]:=⟨dY Tryz.z174⟩
instance:TyE prog 174 [.i .i64 0,.i .i64 0,.i .i64 0,.i .i64 0,.i .i64 0,.i .i64 0,.i .i64 0,.l [],.i .i64 0,.i .i64 0,.i .i64 0,.i .i64 0,.i .i64 0,.i .i64 0,.i .i64 0,.i .i64 0,.i .i64 0,.i .i64 0,.i .i64 0,.i .i64 0,.i .i64 0,.i .i64 0,.i .i64 0,.l [],.i .i64 0,.l [],.i .i64 0,.i .i64 0,.i .i64 0,.i .i64 0,.i .i64 0,.i .i64 0,.i .i64 0,.l [],.l [],.l []]:=⟨dY Tryz.z174⟩
instance:TyB prog 174 [(0,30),(30,4),(34,1),(35,1)]:=⟨_,underlying174,λw=>by kernel_rfl⟩
instance:TyF prog 174 0 0 93:=⟨_,_,underlying174,rfl,rfl,rfl,dx 30⟩
instance:TyF prog 174 1 30 107:=⟨_,_,underlying174,rfl,rfl,rfl,dx 4⟩
instance:TyF prog 174 2 34 168:=⟨_,_,underlying174,rfl,rfl,rfl,dx 1⟩
instance:TyF prog 174 3 35 172:=⟨_,_,underlying174,rfl,rfl,rfl,dx 1⟩
instance:TyN prog 183 1:=⟨dX⟩
instance:jw prog 183:=⟨λw=>by kernel_rfl,dX⟩
theorem Tryz.z183:(prog.info? 183).map (·.zero)=some (some (.slice none 0 0)):=by kernel_rfl
instance:TyZ prog 183 [.nil]:=⟨dY Tryz.z183⟩
instance:TyE prog 183 [.l []]:=⟨dY Tryz.z183⟩
instance:ei prog 183 82 4 32:=⟨underlying183,nk (z:=.agg #[.int .i64 0,.int .i64 0,.int .i64 0,.int .i64 0]) (by kernel_rfl) rfl,by decide⟩
instance:TyN prog 211 2:=⟨dX⟩
instance:g7 prog 211 2:=⟨λw=>by kernel_rfl,dX⟩
theorem Tryz.z211:(prog.info? 211).map (·.zero)=some (some (.agg #[.int .i64 0,.slice none 0 0])):=by kernel_rfl
instance:TyZ prog 211 [.d false (.i .i64 0),.nil]:=⟨dY Tryz.z211⟩
instance:TyE prog 211 [.i .i64 0,.l []]:=⟨dY Tryz.z211⟩
instance:TyB prog 211 [(0,1),(1,1)]:=⟨_,underlying211,λw=>by kernel_rfl⟩
instance:TyF prog 211 0 0 3:=⟨_,_,underlying211,rfl,rfl,rfl,dx 1⟩
instance:TyF prog 211 1 1 148:=⟨_,_,underlying211,rfl,rfl,rfl,dx 1⟩
instance:TyN prog 235 31:=⟨dX⟩
instance:g7 prog 235 31:=⟨λw=>by kernel_rfl,dX⟩
theorem Tryz.z235:(prog.info? 235).map (·.zero)=some (some (.agg #[.int .i64 0,.int .i64 0,.int .i64 0,.int .i64 0,.int .i64 0,.int .i64 0,.int .i64 0,.slice none 0 0,.int .i64 0,.int .i64 0,.int .i64 0,.int .i64 0,.int .i64 0,.int .i64 0,.int .i64 0,.int .i64 0,.int .i64 0,.int .i64 0,.int .i64 0,.int .i64 0,.int .i64 0,.int .i64 0,.int .i64 0,.slice none 0 0,.int .i64 0,.slice none 0 0,.int .i64 0,.int .i64 0,.int .i64 0,.int .i64 0,.slice none 0 0])):=by kernel_rfl
instance:TyZ prog 235 [.d false (.i .i64 0),.d false (.i .i64 0),.d false (.i .i64 0),.d false (.i .i64 0),.d false (.i .i64 0),.d false (.i .i64 0),.d false (.i .i64 0),.nil,.d false (.i .i64 0),.d false (.i .i64 0),.d false (.i .i64 0),.d false (.i .i64 0),.d false (.i .i64 0),.d false (.i .i64 0),.d false (.i .i64 0),.d false (.i .i64 0),.d false (.i .i64 0),.d false (.i .i64 0),.d false (.i .i64 0),.d false (.i .i64 0),.d false (.i .i64 0),.d false (.i .i64 0),.d false (.i .i64 0),.nil,.d false (.i .i64 0),.nil,.d false (.i .i64 0),.d false (.i .i64 0),.d false (.i .i64 0),.d false (.i .i64 0),.nil]:=⟨dY Tryz.z235⟩
instance:TyE prog 235 [.i .i64 0,.i .i64 0,.i .i64 0,.i .i64 0,.i .i64 0,.i .i64 0,.i .i64 0,.l [],.i .i64 0,.i .i64 0,.i .i64 0,.i .i64 0,.i .i64 0,.i .i64 0,.i .i64 0,.i .i64 0,.i .i64 0,.i .i64 0,.i .i64 0,.i .i64 0,.i .i64 0,.i .i64 0,.i .i64 0,.l [],.i .i64 0,.l [],.i .i64 0,.i .i64 0,.i .i64 0,.i .i64 0,.l []]:=⟨dY Tryz.z235⟩
instance:TyB prog 235 [(0,30),(30,1)]:=⟨_,underlying235,λw=>by kernel_rfl⟩
instance:TyF prog 235 0 0 93:=⟨_,_,underlying235,rfl,rfl,rfl,dx 30⟩
instance:TyF prog 235 1 30 168:=⟨_,_,underlying235,rfl,rfl,rfl,dx 1⟩
instance:TyN prog 300 4:=⟨dX⟩
instance:g7 prog 300 4:=⟨λw=>by kernel_rfl,dX⟩
theorem Tryz.z300:(prog.info? 300).map (·.zero)=some (some (.agg #[.int .i64 0,.int .i64 0,.int .i64 0,.int .i64 0])):=by kernel_rfl
instance:TyZ prog 300 [.d false (.i .i64 0),.d false (.i .i64 0),.d false (.i .i64 0),.d false (.i .i64 0)]:=⟨dY Tryz.z300⟩
instance:TyE prog 300 [.i .i64 0,.i .i64 0,.i .i64 0,.i .i64 0]:=⟨dY Tryz.z300⟩
instance:TyB prog 300 [(0,1),(1,1),(2,1),(3,1)]:=⟨_,underlying300,λw=>by kernel_rfl⟩
instance:TyF prog 300 0 0 3:=⟨_,_,underlying300,rfl,rfl,rfl,dx 1⟩
instance:TyF prog 300 1 1 3:=⟨_,_,underlying300,rfl,rfl,rfl,dx 1⟩
instance:TyF prog 300 2 2 3:=⟨_,_,underlying300,rfl,rfl,rfl,dx 1⟩
instance:TyF prog 300 3 3 3:=⟨_,_,underlying300,rfl,rfl,rfl,dx 1⟩
theorem Tryz.sh5:w6 prog 5 [.i .u8]:=.int underlying5
theorem Tryz.sh22:w6 prog 22 [.l [.i .u8]]:=.slice underlying22 Tryz.sh5 (by kernel_rfl) (by decide)
theorem Tryz.eqa32:EqA prog 2 32 [.i .i64,.i .i64]:=je (k:=1) underlying32 (by kernel_rfl) (iu rfl (by decide) inferInstance (eE underlying3) (iu rfl (by decide) inferInstance (eE underlying3) (pS)))
instance:z0 prog 32 [.i .i64,.i .i64]:=⟨⟨2,by decide,Tryz.eqa32⟩,by kernel_rfl⟩
theorem Tryz.eqa40:EqA prog 2 40 [.i .i64,.i .i64,.i .i64,.i .i64,.i .i64]:=je (k:=1) underlying40 (by kernel_rfl) (iu rfl (by decide) inferInstance (eE underlying3) (iu rfl (by decide) inferInstance (eE underlying3) (iu rfl (by decide) inferInstance (eE underlying3) (iu rfl (by decide) inferInstance (eE underlying3) (iu rfl (by decide) inferInstance (eE underlying3) (pS))))))
instance:z0 prog 40 [.i .i64,.i .i64,.i .i64,.i .i64,.i .i64]:=⟨⟨2,by decide,Tryz.eqa40⟩,by kernel_rfl⟩
theorem Tryz.eqa42:EqA prog 3 42 [.i .i64,.i .i64,.i .i64,.i .i64,.i .i64,.i .i64,.i .i64,.i .i64,.i .i64,.i .i64,.i .i64]:=je (k:=2) underlying42 (by kernel_rfl) (iu rfl (by decide) inferInstance (eE underlying3) (iu rfl (by decide) inferInstance (eE underlying3) (iu rfl (by decide) inferInstance (eE underlying3) (iu rfl (by decide) inferInstance (eE underlying3) (iu rfl (by decide) inferInstance (eE underlying3) (TS (n:=5) (s1:=[.i .i64,.i .i64,.i .i64,.i .i64,.i .i64]) rfl (by decide) inferInstance rfl (by decide) Tryz.eqa40 (iu rfl (by decide) inferInstance (eE underlying3) (pS))))))))
instance:z0 prog 42 [.i .i64,.i .i64,.i .i64,.i .i64,.i .i64,.i .i64,.i .i64,.i .i64,.i .i64,.i .i64,.i .i64]:=⟨⟨3,by decide,Tryz.eqa42⟩,by kernel_rfl⟩
theorem Tryz.eqa59:EqA prog 2 59 [.i .i64,.i .i64]:=je (k:=1) underlying59 (by kernel_rfl) (iu rfl (by decide) inferInstance (eE underlying3) (iu rfl (by decide) inferInstance (eE underlying3) (pS)))
instance:z0 prog 59 [.i .i64,.i .i64]:=⟨⟨2,by decide,Tryz.eqa59⟩,by kernel_rfl⟩
theorem Tryz.eqa61:EqA prog 3 61 [.i .i64,.i .i64,.i .i64,.i .i64]:=je (k:=2) underlying61 (by kernel_rfl) (TS (n:=2) (s1:=[.i .i64,.i .i64]) rfl (by decide) inferInstance rfl (by decide) Tryz.eqa59 (iu rfl (by decide) inferInstance (eE underlying3) (iu rfl (by decide) inferInstance (eE underlying3) (pS))))
instance:z0 prog 61 [.i .i64,.i .i64,.i .i64,.i .i64]:=⟨⟨3,by decide,Tryz.eqa61⟩,by kernel_rfl⟩
theorem Tryz.eqa82:EqA prog 3 82 [.i .i64,.i .i64,.i .i64,.i .i64]:=je (k:=2) underlying82 (by kernel_rfl) (TS (n:=2) (s1:=[.i .i64,.i .i64]) rfl (by decide) inferInstance rfl (by decide) Tryz.eqa59 (iu rfl (by decide) inferInstance (eE underlying3) (iu rfl (by decide) inferInstance (eE underlying3) (pS))))
instance:z0 prog 82 [.i .i64,.i .i64,.i .i64,.i .i64]:=⟨⟨3,by decide,Tryz.eqa82⟩,by kernel_rfl⟩
theorem Tryz.eqa87:EqA prog 2 87 [.i .i64,.i .i64,.i .i64]:=je (k:=1) underlying87 (by kernel_rfl) (iu rfl (by decide) inferInstance (eE underlying3) (iu rfl (by decide) inferInstance (eE underlying3) (iu rfl (by decide) inferInstance (eE underlying3) (pS))))
instance:z0 prog 87 [.i .i64,.i .i64,.i .i64]:=⟨⟨2,by decide,Tryz.eqa87⟩,by kernel_rfl⟩
theorem Tryz.eqa91:EqA prog 2 91 [.i .i64,.i .i64,.i .i64]:=je (k:=1) underlying91 (by kernel_rfl) (iu rfl (by decide) inferInstance (eE underlying3) (iu rfl (by decide) inferInstance (eE underlying3) (iu rfl (by decide) inferInstance (eE underlying3) (pS))))
instance:z0 prog 91 [.i .i64,.i .i64,.i .i64]:=⟨⟨2,by decide,Tryz.eqa91⟩,by kernel_rfl⟩
theorem Tryz.eqa166:EqA prog 2 166 [.i .i64,.i .i64]:=je (k:=1) underlying166 (by kernel_rfl) (iu rfl (by decide) inferInstance (eE underlying3) (iu rfl (by decide) inferInstance (eE underlying3) (pS)))
instance:z0 prog 166 [.i .i64,.i .i64]:=⟨⟨2,by decide,Tryz.eqa166⟩,by kernel_rfl⟩
theorem Tryz.eqa300:EqA prog 2 300 [.i .i64,.i .i64,.i .i64,.i .i64]:=je (k:=1) underlying300 (by kernel_rfl) (iu rfl (by decide) inferInstance (eE underlying3) (iu rfl (by decide) inferInstance (eE underlying3) (iu rfl (by decide) inferInstance (eE underlying3) (iu rfl (by decide) inferInstance (eE underlying3) (pS)))))
instance:z0 prog 300 [.i .i64,.i .i64,.i .i64,.i .i64]:=⟨⟨2,by decide,Tryz.eqa300⟩,by kernel_rfl⟩
theorem Tryz.follows:prog.follows .mixedOrders=true:=by kernel_rfl
structure fc where
 fZ:Int
 cQ:List Int
 deriving DecidableEq,Inhabited
def eO (a:fc):List D:=[.i .i64 a.fZ,.l (a.cQ.map eI)]
def Kf:fc:=⟨0,[]⟩
structure aS where
 bb:List fc
 deriving DecidableEq,Inhabited
def ge (a:aS):List D:=[.l (a.bb.map eO)]
def Sf:aS:=⟨[]⟩
structure bK where
 fC:Int
 fP:Int
 deriving DecidableEq,Inhabited
def iO (a:bK):List D:=[.i .i64 a.fC,.i .i64 a.fP]
def eY (a:bK):List F:=[.s (.i .i64 a.fC),.s (.i .i64 a.fP)]
def Kg:bK:=⟨0,0⟩
structure dv where
 eb:Int
 bV:Int
 deriving DecidableEq,Inhabited
def nR (a:dv):List D:=[.i .i64 a.eb,.i .i64 a.bV]
def yK:dv:=⟨0,0⟩
structure lp where
 ID:dv
 eX:Int
 di:Int
 deriving DecidableEq,Inhabited
def Et (a:lp):List D:=[.i .i64 a.ID.eb,.i .i64 a.ID.bV,.i .i64 a.eX,.i .i64 a.di]
def xH (a:lp):List F:=[.s (.i .i64 a.ID.eb),.s (.i .i64 a.ID.bV),.s (.i .i64 a.eX),.s (.i .i64 a.di)]
def Kh:lp:=⟨yK,0,0⟩
structure ae where
 cW:Int
 a9:List Int
 deriving DecidableEq,Inhabited
def aM (a:ae):List D:=[.i .i64 a.cW,.l (a.a9.map eU8)]
def dq (a:ae):List F:=[.s (.i .i64 a.cW),.l 5 1 (a.a9.map eU8) a.a9.length]
def bT:ae:=⟨0,[]⟩
structure bJ where
 a9:List Int
 deriving DecidableEq,Inhabited
def dN (a:bJ):List D:=[.l (a.a9.map eU8)]
structure aP where
 bE:Int
 aK:List ae
 be:List bJ
 deriving DecidableEq,Inhabited
def g8 (a:aP):List D:=[.i .i64 a.bE,.l (a.aK.map aM),.l (a.be.map dN)]
def b8 (a:aP):List F:=[.s (.i .i64 a.bE),.l 100 2 (a.aK.map aM) a.aK.length,.l 152 1 (a.be.map dN) a.be.length]
def c8:aP:=⟨0,[],[]⟩
structure aG where
 dr:lp
 bp:Int
 bh:Int
 ag:Int
 aZ:Int
 aV:Int
 cq:Bool
 fo:Int
 bW:aP
 deriving DecidableEq,Inhabited
def cF (a:aG):List D:=[.i .i64 a.dr.ID.eb,.i .i64 a.dr.ID.bV,.i .i64 a.dr.eX,.i .i64 a.dr.di,.i .i64 a.bp,.i .i64 a.bh,.i .i64 a.ag,.i .i64 a.aZ,.i .i64 a.aV,.b a.cq,.i .i64 a.fo,.i .i64 a.bW.bE,.l (a.bW.aK.map aM),.l (a.bW.be.map dN)]
def gD (a:aG):List F:=[.s (.i .i64 a.dr.ID.eb),.s (.i .i64 a.dr.ID.bV),.s (.i .i64 a.dr.eX),.s (.i .i64 a.dr.di),.s (.i .i64 a.bp),.s (.i .i64 a.bh),.s (.i .i64 a.ag),.s (.i .i64 a.aZ),.s (.i .i64 a.aV),.s (.b a.cq),.s (.i .i64 a.fo),.s (.i .i64 a.bW.bE),.l 100 2 (a.bW.aK.map aM) a.bW.aK.length,.l 152 1 (a.bW.be.map dN) a.bW.be.length]
def yJ:aG:=⟨Kh,0,0,0,0,0,false,0,c8⟩
structure aO where
 ID:dv
 eX:Int
 cW:Int
 deriving DecidableEq,Inhabited
def dO (a:aO):List D:=[.i .i64 a.ID.eb,.i .i64 a.ID.bV,.i .i64 a.eX,.i .i64 a.cW]
def sO (a:aO):List F:=[.s (.i .i64 a.ID.eb),.s (.i .i64 a.ID.bV),.s (.i .i64 a.eX),.s (.i .i64 a.cW)]
def AG:aO:=⟨yK,0,0⟩
structure bR where
 lW:Int
 lV:Int
 eD:Int
 bU:List Int
 deriving DecidableEq,Inhabited
def lr (a:bR):List D:=[.i .i64 a.lW,.i .i64 a.lV,.i .i64 a.eD,.l (a.bU.map eI)]
def eH (a:bR):List F:=[.s (.i .i64 a.lW),.s (.i .i64 a.lV),.s (.i .i64 a.eD),.l 3 1 (a.bU.map eI) a.bU.length]
def pc:bR:=⟨0,0,0,[]⟩
structure cy where
 ew:Int
 f4:Int
 iK:Int
 w8:Int
 eX:Int
 deriving DecidableEq,Inhabited
def lY (a:cy):List D:=[.i .i64 a.ew,.i .i64 a.f4,.i .i64 a.iK,.i .i64 a.w8,.i .i64 a.eX]
def eP (a:cy):List F:=[.s (.i .i64 a.ew),.s (.i .i64 a.f4),.s (.i .i64 a.iK),.s (.i .i64 a.w8),.s (.i .i64 a.eX)]
def cp:cy:=⟨0,0,0,0,0⟩
structure cG where
 fZ:Int
 fm:Int
 fo:Int
 deriving DecidableEq,Inhabited
def pR (a:cG):List D:=[.i .i64 a.fZ,.i .i64 a.fm,.i .i64 a.fo]
def mB (a:cG):List F:=[.s (.i .i64 a.fZ),.s (.i .i64 a.fm),.s (.i .i64 a.fo)]
def et:cG:=⟨0,0,0⟩
structure aY where
 bE:Int
 aC:List ae
 deriving DecidableEq,Inhabited
def gq (a:aY):List D:=[.i .i64 a.bE,.l (a.aC.map aM)]
def dH (a:aY):List F:=[.s (.i .i64 a.bE),.l 100 2 (a.aC.map aM) a.aC.length]
def km:aY:=⟨0,[]⟩
structure cP where
 aJ:Int
 cV:Int
 em:Int
 deriving DecidableEq,Inhabited
def mV (a:cP):List D:=[.i .i64 a.aJ,.i .i64 a.cV,.i .i64 a.em]
def yT (a:cP):List F:=[.s (.i .i64 a.aJ),.s (.i .i64 a.cV),.s (.i .i64 a.em)]
def Qo:cP:=⟨0,0,0⟩
structure ah where
 bF:aO
 gT:bR
 bp:Int
 aK:cy
 bI:Int
 ag:Int
 aZ:Int
 aV:Int
 bh:Int
 dT:Int
 ga:cG
 aH:List bJ
 ax:aY
 dP:Int
 b9:cP
 deriving DecidableEq,Inhabited
def bS (a:ah):List D:=[.i .i64 a.bF.ID.eb,.i .i64 a.bF.ID.bV,.i .i64 a.bF.eX,.i .i64 a.bF.cW,.i .i64 a.gT.lW,.i .i64 a.gT.lV,.i .i64 a.gT.eD,.l (a.gT.bU.map eI),.i .i64 a.bp,.i .i64 a.aK.ew,.i .i64 a.aK.f4,.i .i64 a.aK.iK,.i .i64 a.aK.w8,.i .i64 a.aK.eX,.i .i64 a.bI,.i .i64 a.ag,.i .i64 a.aZ,.i .i64 a.aV,.i .i64 a.bh,.i .i64 a.dT,.i .i64 a.ga.fZ,.i .i64 a.ga.fm,.i .i64 a.ga.fo,.l (a.aH.map dN),.i .i64 a.ax.bE,.l (a.ax.aC.map aM),.i .i64 a.dP,.i .i64 a.b9.aJ,.i .i64 a.b9.cV,.i .i64 a.b9.em]
def c7 (a:ah):List F:=[.s (.i .i64 a.bF.ID.eb),.s (.i .i64 a.bF.ID.bV),.s (.i .i64 a.bF.eX),.s (.i .i64 a.bF.cW),.s (.i .i64 a.gT.lW),.s (.i .i64 a.gT.lV),.s (.i .i64 a.gT.eD),.l 3 1 (a.gT.bU.map eI) a.gT.bU.length,.s (.i .i64 a.bp),.s (.i .i64 a.aK.ew),.s (.i .i64 a.aK.f4),.s (.i .i64 a.aK.iK),.s (.i .i64 a.aK.w8),.s (.i .i64 a.aK.eX),.s (.i .i64 a.bI),.s (.i .i64 a.ag),.s (.i .i64 a.aZ),.s (.i .i64 a.aV),.s (.i .i64 a.bh),.s (.i .i64 a.dT),.s (.i .i64 a.ga.fZ),.s (.i .i64 a.ga.fm),.s (.i .i64 a.ga.fo),.l 152 1 (a.aH.map dN) a.aH.length,.s (.i .i64 a.ax.bE),.l 100 2 (a.ax.aC.map aM) a.ax.aC.length,.s (.i .i64 a.dP),.s (.i .i64 a.b9.aJ),.s (.i .i64 a.b9.cV),.s (.i .i64 a.b9.em)]
def pP:ah:=⟨AG,pc,0,cp,0,0,0,0,0,0,et,[],km,0,Qo⟩
structure aD where
 aJ:Int
 dW:Int
 deriving DecidableEq,Inhabited
def bZ (a:aD):List D:=[.i .i64 a.aJ,.i .i64 a.dW]
def db:aD:=⟨0,0⟩
structure aj where
 gU:Int
 bY:Int
 ey:Int
 an:List aD
 deriving DecidableEq,Inhabited
def cM (a:aj):List D:=[.i .i64 a.gU,.i .i64 a.bY,.i .i64 a.ey,.l (a.an.map bZ)]
def ct (a:aj):List F:=[.s (.i .i64 a.gU),.s (.i .i64 a.bY),.s (.i .i64 a.ey),.l 166 2 (a.an.map bZ) a.an.length]
def it:aj:=⟨0,0,0,[]⟩
structure aF where
 a8:Int
 bh:Int
 ag:Int
 aV:Int
 bV:Int
 cd:cy
 iK:Int
 deriving DecidableEq,Inhabited
def cU (a:aF):List D:=[.i .i64 a.a8,.i .i64 a.bh,.i .i64 a.ag,.i .i64 a.aV,.i .i64 a.bV,.i .i64 a.cd.ew,.i .i64 a.cd.f4,.i .i64 a.cd.iK,.i .i64 a.cd.w8,.i .i64 a.cd.eX,.i .i64 a.iK]
def d6 (a:aF):List F:=[.s (.i .i64 a.a8),.s (.i .i64 a.bh),.s (.i .i64 a.ag),.s (.i .i64 a.aV),.s (.i .i64 a.bV),.s (.i .i64 a.cd.ew),.s (.i .i64 a.cd.f4),.s (.i .i64 a.cd.iK),.s (.i .i64 a.cd.w8),.s (.i .i64 a.cd.eX),.s (.i .i64 a.iK)]
def d9:aF:=⟨0,0,0,0,0,cp,0⟩
structure bi where
 cZ:Int
 fQ:Int
 a9:List Int
 iK:Int
 deriving DecidableEq,Inhabited
def ee (a:bi):List D:=[.i .i64 a.cZ,.i .i64 a.fQ,.l (a.a9.map eU8),.i .i64 a.iK]
def pm (a:bi):List F:=[.s (.i .i64 a.cZ),.s (.i .i64 a.fQ),.l 5 1 (a.a9.map eU8) a.a9.length,.s (.i .i64 a.iK)]
def mj:bi:=⟨0,0,[],0⟩
structure av where
 ag:Int
 aV:Int
 bz:bi
 deriving DecidableEq,Inhabited
def cN (a:av):List D:=[.i .i64 a.ag,.i .i64 a.aV,.i .i64 a.bz.cZ,.i .i64 a.bz.fQ,.l (a.bz.a9.map eU8),.i .i64 a.bz.iK]
def jf (a:av):List F:=[.s (.i .i64 a.ag),.s (.i .i64 a.aV),.s (.i .i64 a.bz.cZ),.s (.i .i64 a.bz.fQ),.l 5 1 (a.bz.a9.map eU8) a.bz.a9.length,.s (.i .i64 a.bz.iK)]
def eB:av:=⟨0,0,mj⟩
structure bM where
 bm:Int
 eG:Bool
 dZ:Bool
 bh:Int
 bg:aF
 co:av
 deriving DecidableEq,Inhabited
def dB (a:bM):List D:=[.i .i64 a.bm,.b a.eG,.b a.dZ,.i .i64 a.bh,.i .i64 a.bg.a8,.i .i64 a.bg.bh,.i .i64 a.bg.ag,.i .i64 a.bg.aV,.i .i64 a.bg.bV,.i .i64 a.bg.cd.ew,.i .i64 a.bg.cd.f4,.i .i64 a.bg.cd.iK,.i .i64 a.bg.cd.w8,.i .i64 a.bg.cd.eX,.i .i64 a.bg.iK,.i .i64 a.co.ag,.i .i64 a.co.aV,.i .i64 a.co.bz.cZ,.i .i64 a.co.bz.fQ,.l (a.co.bz.a9.map eU8),.i .i64 a.co.bz.iK]
def jE (a:bM):List F:=[.s (.i .i64 a.bm),.s (.b a.eG),.s (.b a.dZ),.s (.i .i64 a.bh),.s (.i .i64 a.bg.a8),.s (.i .i64 a.bg.bh),.s (.i .i64 a.bg.ag),.s (.i .i64 a.bg.aV),.s (.i .i64 a.bg.bV),.s (.i .i64 a.bg.cd.ew),.s (.i .i64 a.bg.cd.f4),.s (.i .i64 a.bg.cd.iK),.s (.i .i64 a.bg.cd.w8),.s (.i .i64 a.bg.cd.eX),.s (.i .i64 a.bg.iK),.s (.i .i64 a.co.ag),.s (.i .i64 a.co.aV),.s (.i .i64 a.co.bz.cZ),.s (.i .i64 a.co.bz.fQ),.l 5 1 (a.co.bz.a9.map eU8) a.co.bz.a9.length,.s (.i .i64 a.co.bz.iK)]
def fM:bM:=⟨0,false,false,0,d9,eB⟩
structure ab where
 ev:aS
 aw:List aG
 aA:List ah
 bG:List aj
 aT:List bM
 dw:Int
 eC:bK
 rr:Int
 jT:Int
 deriving DecidableEq,Inhabited
def fG (a:ab):List D:=[.l (a.ev.bb.map eO),.l (a.aw.map cF),.l (a.aA.map bS),.l (a.bG.map cM),.l (a.aT.map dB),.i .i64 a.dw,.i .i64 a.eC.fC,.i .i64 a.eC.fP,.i .i64 a.rr,.i .i64 a.jT]
def bw (a:ab):List F:=[.l 155 2 (a.ev.bb.map eO) a.ev.bb.length,.l 67 14 (a.aw.map cF) a.aw.length,.l 93 30 (a.aA.map bS) a.aA.length,.l 107 4 (a.bG.map cM) a.bG.length,.l 48 21 (a.aT.map dB) a.aT.length,.s (.i .i64 a.dw),.s (.i .i64 a.eC.fC),.s (.i .i64 a.eC.fP),.s (.i .i64 a.rr),.s (.i .i64 a.jT)]
def ea:ab:=⟨Sf,[],[],[],[],0,Kg,0,0⟩
structure cX where
 a8:Int
 cB:Int
 bh:Int
 a9:List Int
 bD:bM
 deriving DecidableEq,Inhabited
def yR (a:cX):List D:=[.i .i64 a.a8,.i .i64 a.cB,.i .i64 a.bh,.l (a.a9.map eU8),.i .i64 a.bD.bm,.b a.bD.eG,.b a.bD.dZ,.i .i64 a.bD.bh,.i .i64 a.bD.bg.a8,.i .i64 a.bD.bg.bh,.i .i64 a.bD.bg.ag,.i .i64 a.bD.bg.aV,.i .i64 a.bD.bg.bV,.i .i64 a.bD.bg.cd.ew,.i .i64 a.bD.bg.cd.f4,.i .i64 a.bD.bg.cd.iK,.i .i64 a.bD.bg.cd.w8,.i .i64 a.bD.bg.cd.eX,.i .i64 a.bD.bg.iK,.i .i64 a.bD.co.ag,.i .i64 a.bD.co.aV,.i .i64 a.bD.co.bz.cZ,.i .i64 a.bD.co.bz.fQ,.l (a.bD.co.bz.a9.map eU8),.i .i64 a.bD.co.bz.iK]
def dV (a:cX):List F:=[.s (.i .i64 a.a8),.s (.i .i64 a.cB),.s (.i .i64 a.bh),.l 5 1 (a.a9.map eU8) a.a9.length,.s (.i .i64 a.bD.bm),.s (.b a.bD.eG),.s (.b a.bD.dZ),.s (.i .i64 a.bD.bh),.s (.i .i64 a.bD.bg.a8),.s (.i .i64 a.bD.bg.bh),.s (.i .i64 a.bD.bg.ag),.s (.i .i64 a.bD.bg.aV),.s (.i .i64 a.bD.bg.bV),.s (.i .i64 a.bD.bg.cd.ew),.s (.i .i64 a.bD.bg.cd.f4),.s (.i .i64 a.bD.bg.cd.iK),.s (.i .i64 a.bD.bg.cd.w8),.s (.i .i64 a.bD.bg.cd.eX),.s (.i .i64 a.bD.bg.iK),.s (.i .i64 a.bD.co.ag),.s (.i .i64 a.bD.co.aV),.s (.i .i64 a.bD.co.bz.cZ),.s (.i .i64 a.bD.co.bz.fQ),.l 5 1 (a.bD.co.bz.a9.map eU8) a.bD.co.bz.a9.length,.s (.i .i64 a.bD.co.bz.iK)]
def ed:cX:=⟨0,0,0,[],fM⟩
structure bk where
 fb:List Int
 fi:Int
 fh:Int
 deriving DecidableEq,Inhabited
def Xj (a:bk):List D:=[.l (a.fb.map eU8),.i .i64 a.fi,.i .i64 a.fh]
def cj (a:bk):List F:=[.l 5 1 (a.fb.map eU8) a.fb.length,.s (.i .i64 a.fi),.s (.i .i64 a.fh)]
structure fA where
 Steps:List Int
 deriving DecidableEq,Inhabited
def Hp (a:fA):List D:=[.l (a.Steps.map eI)]
structure aX where
 bm:aG
 dy:List aF
 deriving DecidableEq,Inhabited
def dm (a:aX):List F:=[.s (.i .i64 a.bm.dr.ID.eb),.s (.i .i64 a.bm.dr.ID.bV),.s (.i .i64 a.bm.dr.eX),.s (.i .i64 a.bm.dr.di),.s (.i .i64 a.bm.bp),.s (.i .i64 a.bm.bh),.s (.i .i64 a.bm.ag),.s (.i .i64 a.bm.aZ),.s (.i .i64 a.bm.aV),.s (.b a.bm.cq),.s (.i .i64 a.bm.fo),.s (.i .i64 a.bm.bW.bE),.l 100 2 (a.bm.bW.aK.map aM) a.bm.bW.aK.length,.l 152 1 (a.bm.bW.be.map dN) a.bm.bW.be.length,.l 42 11 (a.dy.map cU) a.dy.length]
structure bO where
 aU:ah
 eu:aj
 ju:List aF
 co:List av
 deriving DecidableEq,Inhabited
def bB (a:bO):List F:=[.s (.i .i64 a.aU.bF.ID.eb),.s (.i .i64 a.aU.bF.ID.bV),.s (.i .i64 a.aU.bF.eX),.s (.i .i64 a.aU.bF.cW),.s (.i .i64 a.aU.gT.lW),.s (.i .i64 a.aU.gT.lV),.s (.i .i64 a.aU.gT.eD),.l 3 1 (a.aU.gT.bU.map eI) a.aU.gT.bU.length,.s (.i .i64 a.aU.bp),.s (.i .i64 a.aU.aK.ew),.s (.i .i64 a.aU.aK.f4),.s (.i .i64 a.aU.aK.iK),.s (.i .i64 a.aU.aK.w8),.s (.i .i64 a.aU.aK.eX),.s (.i .i64 a.aU.bI),.s (.i .i64 a.aU.ag),.s (.i .i64 a.aU.aZ),.s (.i .i64 a.aU.aV),.s (.i .i64 a.aU.bh),.s (.i .i64 a.aU.dT),.s (.i .i64 a.aU.ga.fZ),.s (.i .i64 a.aU.ga.fm),.s (.i .i64 a.aU.ga.fo),.l 152 1 (a.aU.aH.map dN) a.aU.aH.length,.s (.i .i64 a.aU.ax.bE),.l 100 2 (a.aU.ax.aC.map aM) a.aU.ax.aC.length,.s (.i .i64 a.aU.dP),.s (.i .i64 a.aU.b9.aJ),.s (.i .i64 a.aU.b9.cV),.s (.i .i64 a.aU.b9.em),.s (.i .i64 a.eu.gU),.s (.i .i64 a.eu.bY),.s (.i .i64 a.eu.ey),.l 166 2 (a.eu.an.map bZ) a.eu.an.length,.l 42 11 (a.ju.map cU) a.ju.length,.l 46 6 (a.co.map cN) a.co.length]
def ci:bO:=⟨pP,it,[],[]⟩
structure Zt where
 ag:Int
 Path:fA
 deriving DecidableEq,Inhabited
structure bN where
 aU:ah
 dy:List aF
 deriving DecidableEq,Inhabited
def ef (a:bN):List F:=[.s (.i .i64 a.aU.bF.ID.eb),.s (.i .i64 a.aU.bF.ID.bV),.s (.i .i64 a.aU.bF.eX),.s (.i .i64 a.aU.bF.cW),.s (.i .i64 a.aU.gT.lW),.s (.i .i64 a.aU.gT.lV),.s (.i .i64 a.aU.gT.eD),.l 3 1 (a.aU.gT.bU.map eI) a.aU.gT.bU.length,.s (.i .i64 a.aU.bp),.s (.i .i64 a.aU.aK.ew),.s (.i .i64 a.aU.aK.f4),.s (.i .i64 a.aU.aK.iK),.s (.i .i64 a.aU.aK.w8),.s (.i .i64 a.aU.aK.eX),.s (.i .i64 a.aU.bI),.s (.i .i64 a.aU.ag),.s (.i .i64 a.aU.aZ),.s (.i .i64 a.aU.aV),.s (.i .i64 a.aU.bh),.s (.i .i64 a.aU.dT),.s (.i .i64 a.aU.ga.fZ),.s (.i .i64 a.aU.ga.fm),.s (.i .i64 a.aU.ga.fo),.l 152 1 (a.aU.aH.map dN) a.aU.aH.length,.s (.i .i64 a.aU.ax.bE),.l 100 2 (a.aU.ax.aC.map aM) a.aU.ax.aC.length,.s (.i .i64 a.aU.dP),.s (.i .i64 a.aU.b9.aJ),.s (.i .i64 a.aU.b9.cV),.s (.i .i64 a.aU.b9.em),.l 42 11 (a.dy.map cU) a.dy.length]
structure ie where
 Code:Int
 w8:Int
 vO:Int
 Ov:Int
 deriving DecidableEq,Inhabited
def gB (a:ie):List F:=[.s (.i .i64 a.Code),.s (.i .i64 a.w8),.s (.i .i64 a.vO),.s (.i .i64 a.Ov)]
def eL:ie:=⟨0,0,0,0⟩
theorem Try.follows:prog.follows .mixedOrders=true:=Tryz.follows
end Go.AM
