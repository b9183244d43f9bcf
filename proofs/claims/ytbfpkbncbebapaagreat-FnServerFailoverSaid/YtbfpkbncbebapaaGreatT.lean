/- A part. -/
import Derived.Test.YtbfpkbncbebapaaGreatE3
import Derived.Test.YtbfpkbncbebapaaGreatProg
set_option linter.unusedVariables false
set_option linter.unusedSimpArgs false
namespace Go.AM
open Go.Proofs
open Tryz
theorem VK {P:Program} {t:TypeId} {n:Nat} (h:(P.info? t).map (·.size)=some n):∃i,P.info? t=some i/\i.size=n:=by
 cases hi:P.info? t with
 |none=>simp[hi] at h
 |some i=>simp[hi] at h;exact⟨i,rfl,h⟩
theorem VL {P:Program} {t:TypeId} {z:Value} (h:(P.info? t).map (·.zero)=some (some z)):∃i,P.info? t=some i/\i.zero=some z:=by
 cases hi:P.info? t with
 |none=>simp[hi] at h
 |some i=>simp[hi] at h;exact⟨i,rfl,h⟩
theorem lO {P:Program} {t:TypeId} {z:Value} {n b:Nat} (h:(P.info? t).map (λi=>(i.size,i.bytes,i.zero))=some (n,b,some z)) (hz:z.cells.size=n):∃i z,P.info? t=some i/\i.size=n/\i.bytes=b/\i.zero=some z/\z.cells.size=n:=by
 cases hi:P.info? t with
 |none=>simp[hi] at h
 |some i=>simp[hi] at h;exact⟨i,z,rfl,h.1,h.2.1,h.2.2,hz⟩
theorem VJ {P:Program} {t:TypeId} {n:Nat} (h:(P.info? t).map (·.size)=some n) (hn:n≠0):∃i,P.info? t=some i/\i.size≠0:=by
 cases hi:P.info? t with
 |none=>simp[hi] at h
 |some i=>simp[hi] at h;exact⟨i,rfl,by omega⟩
theorem dJ {P:Program} {t:TypeId} {z:Value} {Q:Value->Prop} (h:(P.info? t).map (·.zero)=some (some z)) (q:Q z:=by exact rfl):∃i z,P.info? t=some i/\i.zero=some z/\Q z:=by
 obtain⟨i,h1,h2⟩:=VL h
 exact⟨i,_,h1,h2,q⟩
theorem dH {P:Program} {t:TypeId} {n:Nat} (h:(P.info? t).map (·.size)=some n:=by kernel_rfl):∃i,P.info? t=some i/\i.size=n:=VK h
theorem cW {P:Program} {t:TypeId} (n:Nat) (h:(P.info? t).map (·.size)=some n:=by kernel_rfl) (hn:n≠0:=by decide):∃i,P.info? t=some i/\i.size≠0:=VJ h hn
instance:TyN prog 3 1:=⟨dH⟩
instance:TySc prog 3:=⟨λw=>by kernel_rfl,dH⟩
instance:TyU prog 3 (.int .i64):=⟨underlying3⟩
theorem Tryz.z3:(prog.info? 3).map (·.zero)=some (some (.int .i64 0)):=by kernel_rfl
instance:TyZ prog 3 [.d false (.i .i64 0)]:=⟨dJ Tryz.z3⟩
instance:TyE prog 3 [.i .i64 0]:=⟨dJ Tryz.z3⟩
instance:TyN prog 4 1:=⟨dH⟩
instance:TySc prog 4:=⟨λw=>by kernel_rfl,dH⟩
instance:TyU prog 4 (.bool):=⟨underlying4⟩
theorem Tryz.z4:(prog.info? 4).map (·.zero)=some (some (.bool false)):=by kernel_rfl
instance:TyZ prog 4 [.d false (.b false)]:=⟨dJ Tryz.z4⟩
instance:TyE prog 4 [.b false]:=⟨dJ Tryz.z4⟩
instance:TyN prog 5 1:=⟨dH⟩
instance:TySc prog 5:=⟨λw=>by kernel_rfl,dH⟩
instance:TyU prog 5 (.int .u8):=⟨underlying5⟩
theorem Tryz.z5:(prog.info? 5).map (·.zero)=some (some (.int .u8 0)):=by kernel_rfl
instance:TyZ prog 5 [.d false (.i .u8 0)]:=⟨dJ Tryz.z5⟩
instance:TyE prog 5 [.i .u8 0]:=⟨dJ Tryz.z5⟩
instance:TyN prog 9 1:=⟨dH⟩
instance:TySc prog 9:=⟨λw=>by kernel_rfl,dH⟩
instance:TyU prog 9 (.string):=⟨underlying9⟩
theorem Tryz.z9:(prog.info? 9).map (·.zero)=some (some (.string ⟨#[]⟩)):=by kernel_rfl
instance:TyZ prog 9 [.d false (.str ⟨#[]⟩)]:=⟨dJ Tryz.z9⟩
instance:TyE prog 9 [.str ⟨#[]⟩]:=⟨dJ Tryz.z9⟩
instance:TyN prog 22 1:=⟨dH⟩
instance:TySc prog 22:=⟨λw=>by kernel_rfl,dH⟩
theorem Tryz.z22:(prog.info? 22).map (·.zero)=some (some (.slice none 0 0)):=by kernel_rfl
instance:TyZ prog 22 [.nil]:=⟨dJ Tryz.z22⟩
instance:TyE prog 22 [.l []]:=⟨dJ Tryz.z22⟩
instance:TySl prog 22 5 1 1:=⟨underlying22,lO (z:=.int .u8 0) (by kernel_rfl) rfl,by decide⟩
instance:TyN prog 24 1:=⟨dH⟩
instance:TySc prog 24:=⟨λw=>by kernel_rfl,dH⟩
theorem Tryz.z24:(prog.info? 24).map (·.zero)=some (some (.slice none 0 0)):=by kernel_rfl
instance:TyZ prog 24 [.nil]:=⟨dJ Tryz.z24⟩
instance:TyE prog 24 [.l []]:=⟨dJ Tryz.z24⟩
instance:TySl prog 24 158 2 32:=⟨underlying24,lO (z:=.agg #[.int .i64 0,.slice none 0 0]) (by kernel_rfl) rfl,by decide⟩
instance:TyN prog 26 1:=⟨dH⟩
instance:TyAg prog 26 1:=⟨λw=>by kernel_rfl,dH⟩
theorem Tryz.z26:(prog.info? 26).map (·.zero)=some (some (.agg #[.slice none 0 0])):=by kernel_rfl
instance:TyZ prog 26 [.nil]:=⟨dJ Tryz.z26⟩
instance:TyE prog 26 [.l []]:=⟨dJ Tryz.z26⟩
instance:TyB prog 26 [(0,1)]:=⟨_,underlying26,λw=>by kernel_rfl⟩
instance:TyF prog 26 0 0 24:=⟨_,_,underlying26,rfl,rfl,rfl,cW 1⟩
instance:TyN prog 27 1:=⟨dH⟩
instance:TySc prog 27:=⟨λw=>by kernel_rfl,dH⟩
theorem Tryz.z27:(prog.info? 27).map (·.zero)=some (some (.slice none 0 0)):=by kernel_rfl
instance:TyZ prog 27 [.nil]:=⟨dJ Tryz.z27⟩
instance:TyE prog 27 [.l []]:=⟨dJ Tryz.z27⟩
instance:TySl prog 27 86 14 144:=⟨underlying27,lO (z:=.agg #[.int .i64 0,.int .i64 0,.int .i64 0,.int .i64 0,.int .i64 0,.int .i64 0,.int .i64 0,.int .i64 0,.int .i64 0,.bool false,.int .i64 0,.int .i64 0,.slice none 0 0,.slice none 0 0]) (by kernel_rfl) rfl,by decide⟩
instance:TyN prog 28 1:=⟨dH⟩
instance:TySc prog 28:=⟨λw=>by kernel_rfl,dH⟩
theorem Tryz.z28:(prog.info? 28).map (·.zero)=some (some (.slice none 0 0)):=by kernel_rfl
instance:TyZ prog 28 [.nil]:=⟨dJ Tryz.z28⟩
instance:TyE prog 28 [.l []]:=⟨dJ Tryz.z28⟩
instance:TySl prog 28 69 30 288:=⟨underlying28,lO (z:=.agg #[.int .i64 0,.int .i64 0,.int .i64 0,.int .i64 0,.int .i64 0,.int .i64 0,.int .i64 0,.slice none 0 0,.int .i64 0,.int .i64 0,.int .i64 0,.int .i64 0,.int .i64 0,.int .i64 0,.int .i64 0,.int .i64 0,.int .i64 0,.int .i64 0,.int .i64 0,.int .i64 0,.int .i64 0,.int .i64 0,.int .i64 0,.slice none 0 0,.int .i64 0,.slice none 0 0,.int .i64 0,.int .i64 0,.int .i64 0,.int .i64 0]) (by kernel_rfl) rfl,by decide⟩
instance:TyN prog 29 1:=⟨dH⟩
instance:TySc prog 29:=⟨λw=>by kernel_rfl,dH⟩
theorem Tryz.z29:(prog.info? 29).map (·.zero)=some (some (.slice none 0 0)):=by kernel_rfl
instance:TyZ prog 29 [.nil]:=⟨dJ Tryz.z29⟩
instance:TyE prog 29 [.l []]:=⟨dJ Tryz.z29⟩
instance:TySl prog 29 89 4 48:=⟨underlying29,lO (z:=.agg #[.int .i64 0,.int .i64 0,.int .i64 0,.slice none 0 0]) (by kernel_rfl) rfl,by decide⟩
instance:TyN prog 30 1:=⟨dH⟩
instance:TySc prog 30:=⟨λw=>by kernel_rfl,dH⟩
theorem Tryz.z30:(prog.info? 30).map (·.zero)=some (some (.slice none 0 0)):=by kernel_rfl
instance:TyZ prog 30 [.nil]:=⟨dJ Tryz.z30⟩
instance:TyE prog 30 [.l []]:=⟨dJ Tryz.z30⟩
instance:TySl prog 30 48 21 176:=⟨underlying30,lO (z:=.agg #[.int .i64 0,.bool false,.bool false,.int .i64 0,.int .i64 0,.int .i64 0,.int .i64 0,.int .i64 0,.int .i64 0,.int .i64 0,.int .i64 0,.int .i64 0,.int .i64 0,.int .i64 0,.int .i64 0,.int .i64 0,.int .i64 0,.int .i64 0,.int .i64 0,.slice none 0 0,.int .i64 0]) (by kernel_rfl) rfl,by decide⟩
instance:TyN prog 32 2:=⟨dH⟩
instance:TyAg prog 32 2:=⟨λw=>by kernel_rfl,dH⟩
theorem Tryz.z32:(prog.info? 32).map (·.zero)=some (some (.agg #[.int .i64 0,.int .i64 0])):=by kernel_rfl
instance:TyZ prog 32 [.d false (.i .i64 0),.d false (.i .i64 0)]:=⟨dJ Tryz.z32⟩
instance:TyE prog 32 [.i .i64 0,.i .i64 0]:=⟨dJ Tryz.z32⟩
instance:TyB prog 32 [(0,1),(1,1)]:=⟨_,underlying32,λw=>by kernel_rfl⟩
instance:TyF prog 32 0 0 3:=⟨_,_,underlying32,rfl,rfl,rfl,cW 1⟩
instance:TyF prog 32 1 1 3:=⟨_,_,underlying32,rfl,rfl,rfl,cW 1⟩
instance:TyN prog 34 10:=⟨dH⟩
instance:TyAg prog 34 10:=⟨λw=>by kernel_rfl,dH⟩
theorem Tryz.z34:(prog.info? 34).map (·.zero)=some (some (.agg #[.slice none 0 0,.slice none 0 0,.slice none 0 0,.slice none 0 0,.slice none 0 0,.int .i64 0,.int .i64 0,.int .i64 0,.int .i64 0,.int .i64 0])):=by kernel_rfl
instance:TyZ prog 34 [.nil,.nil,.nil,.nil,.nil,.d false (.i .i64 0),.d false (.i .i64 0),.d false (.i .i64 0),.d false (.i .i64 0),.d false (.i .i64 0)]:=⟨dJ Tryz.z34⟩
instance:TyE prog 34 [.l [],.l [],.l [],.l [],.l [],.i .i64 0,.i .i64 0,.i .i64 0,.i .i64 0,.i .i64 0]:=⟨dJ Tryz.z34⟩
instance:TyB prog 34 [(0,1),(1,1),(2,1),(3,1),(4,1),(5,1),(6,2),(8,1),(9,1)]:=⟨_,underlying34,λw=>by kernel_rfl⟩
instance:TyF prog 34 0 0 26:=⟨_,_,underlying34,rfl,rfl,rfl,cW 1⟩
instance:TyF prog 34 1 1 27:=⟨_,_,underlying34,rfl,rfl,rfl,cW 1⟩
instance:TyF prog 34 2 2 28:=⟨_,_,underlying34,rfl,rfl,rfl,cW 1⟩
instance:TyF prog 34 3 3 29:=⟨_,_,underlying34,rfl,rfl,rfl,cW 1⟩
instance:TyF prog 34 4 4 30:=⟨_,_,underlying34,rfl,rfl,rfl,cW 1⟩
instance:TyF prog 34 5 5 3:=⟨_,_,underlying34,rfl,rfl,rfl,cW 1⟩
instance:TyF prog 34 6 6 32:=⟨_,_,underlying34,rfl,rfl,rfl,cW 2⟩
instance:TyF prog 34 7 8 3:=⟨_,_,underlying34,rfl,rfl,rfl,cW 1⟩
instance:TyF prog 34 8 9 3:=⟨_,_,underlying34,rfl,rfl,rfl,cW 1⟩
instance:TyN prog 40 5:=⟨dH⟩
instance:TyAg prog 40 5:=⟨λw=>by kernel_rfl,dH⟩
theorem Tryz.z40:(prog.info? 40).map (·.zero)=some (some (.agg #[.int .i64 0,.int .i64 0,.int .i64 0,.int .i64 0,.int .i64 0])):=by kernel_rfl
instance:TyZ prog 40 [.d false (.i .i64 0),.d false (.i .i64 0),.d false (.i .i64 0),.d false (.i .i64 0),.d false (.i .i64 0)]:=⟨dJ Tryz.z40⟩
instance:TyE prog 40 [.i .i64 0,.i .i64 0,.i .i64 0,.i .i64 0,.i .i64 0]:=⟨dJ Tryz.z40⟩
instance:TyB prog 40 [(0,1),(1,1),(2,1),(3,1),(4,1)]:=⟨_,underlying40,λw=>by kernel_rfl⟩
instance:TyF prog 40 0 0 3:=⟨_,_,underlying40,rfl,rfl,rfl,cW 1⟩
instance:TyF prog 40 1 1 3:=⟨_,_,underlying40,rfl,rfl,rfl,cW 1⟩
instance:TyF prog 40 2 2 3:=⟨_,_,underlying40,rfl,rfl,rfl,cW 1⟩
instance:TyF prog 40 3 3 3:=⟨_,_,underlying40,rfl,rfl,rfl,cW 1⟩
instance:TyF prog 40 4 4 3:=⟨_,_,underlying40,rfl,rfl,rfl,cW 1⟩
instance:TyN prog 42 11:=⟨dH⟩
instance:TyAg prog 42 11:=⟨λw=>by kernel_rfl,dH⟩
theorem Tryz.z42:(prog.info? 42).map (·.zero)=some (some (.agg #[.int .i64 0,.int .i64 0,.int .i64 0,.int .i64 0,.int .i64 0,.int .i64 0,.int .i64 0,.int .i64 0,.int .i64 0,.int .i64 0,.int .i64 0])):=by kernel_rfl
instance:TyZ prog 42 [.d false (.i .i64 0),.d false (.i .i64 0),.d false (.i .i64 0),.d false (.i .i64 0),.d false (.i .i64 0),.d false (.i .i64 0),.d false (.i .i64 0),.d false (.i .i64 0),.d false (.i .i64 0),.d false (.i .i64 0),.d false (.i .i64 0)]:=⟨dJ Tryz.z42⟩
instance:TyE prog 42 [.i .i64 0,.i .i64 0,.i .i64 0,.i .i64 0,.i .i64 0,.i .i64 0,.i .i64 0,.i .i64 0,.i .i64 0,.i .i64 0,.i .i64 0]:=⟨dJ Tryz.z42⟩
instance:TyB prog 42 [(0,1),(1,1),(2,1),(3,1),(4,1),(5,5),(10,1)]:=⟨_,underlying42,λw=>by kernel_rfl⟩
instance:TyF prog 42 0 0 3:=⟨_,_,underlying42,rfl,rfl,rfl,cW 1⟩
instance:TyF prog 42 1 1 3:=⟨_,_,underlying42,rfl,rfl,rfl,cW 1⟩
instance:TyF prog 42 2 2 3:=⟨_,_,underlying42,rfl,rfl,rfl,cW 1⟩
instance:TyF prog 42 3 3 3:=⟨_,_,underlying42,rfl,rfl,rfl,cW 1⟩
instance:TyF prog 42 4 4 3:=⟨_,_,underlying42,rfl,rfl,rfl,cW 1⟩
instance:TyF prog 42 5 5 40:=⟨_,_,underlying42,rfl,rfl,rfl,cW 5⟩
instance:TyF prog 42 6 10 3:=⟨_,_,underlying42,rfl,rfl,rfl,cW 1⟩
instance:TyN prog 44 4:=⟨dH⟩
instance:TyAg prog 44 4:=⟨λw=>by kernel_rfl,dH⟩
theorem Tryz.z44:(prog.info? 44).map (·.zero)=some (some (.agg #[.int .i64 0,.int .i64 0,.slice none 0 0,.int .i64 0])):=by kernel_rfl
instance:TyZ prog 44 [.d false (.i .i64 0),.d false (.i .i64 0),.nil,.d false (.i .i64 0)]:=⟨dJ Tryz.z44⟩
instance:TyE prog 44 [.i .i64 0,.i .i64 0,.l [],.i .i64 0]:=⟨dJ Tryz.z44⟩
instance:TyB prog 44 [(0,1),(1,1),(2,1),(3,1)]:=⟨_,underlying44,λw=>by kernel_rfl⟩
instance:TyF prog 44 0 0 3:=⟨_,_,underlying44,rfl,rfl,rfl,cW 1⟩
instance:TyF prog 44 1 1 3:=⟨_,_,underlying44,rfl,rfl,rfl,cW 1⟩
instance:TyF prog 44 2 2 22:=⟨_,_,underlying44,rfl,rfl,rfl,cW 1⟩
instance:TyF prog 44 3 3 3:=⟨_,_,underlying44,rfl,rfl,rfl,cW 1⟩
instance:TyN prog 46 6:=⟨dH⟩
instance:TyAg prog 46 6:=⟨λw=>by kernel_rfl,dH⟩
theorem Tryz.z46:(prog.info? 46).map (·.zero)=some (some (.agg #[.int .i64 0,.int .i64 0,.int .i64 0,.int .i64 0,.slice none 0 0,.int .i64 0])):=by kernel_rfl
instance:TyZ prog 46 [.d false (.i .i64 0),.d false (.i .i64 0),.d false (.i .i64 0),.d false (.i .i64 0),.nil,.d false (.i .i64 0)]:=⟨dJ Tryz.z46⟩
instance:TyE prog 46 [.i .i64 0,.i .i64 0,.i .i64 0,.i .i64 0,.l [],.i .i64 0]:=⟨dJ Tryz.z46⟩
instance:TyB prog 46 [(0,1),(1,1),(2,4)]:=⟨_,underlying46,λw=>by kernel_rfl⟩
instance:TyF prog 46 0 0 3:=⟨_,_,underlying46,rfl,rfl,rfl,cW 1⟩
instance:TyF prog 46 1 1 3:=⟨_,_,underlying46,rfl,rfl,rfl,cW 1⟩
instance:TyF prog 46 2 2 44:=⟨_,_,underlying46,rfl,rfl,rfl,cW 4⟩
instance:TyN prog 48 21:=⟨dH⟩
instance:TyAg prog 48 21:=⟨λw=>by kernel_rfl,dH⟩
theorem Tryz.z48:(prog.info? 48).map (·.zero)=some (some (.agg #[.int .i64 0,.bool false,.bool false,.int .i64 0,.int .i64 0,.int .i64 0,.int .i64 0,.int .i64 0,.int .i64 0,.int .i64 0,.int .i64 0,.int .i64 0,.int .i64 0,.int .i64 0,.int .i64 0,.int .i64 0,.int .i64 0,.int .i64 0,.int .i64 0,.slice none 0 0,.int .i64 0])):=by kernel_rfl
instance:TyZ prog 48 [.d false (.i .i64 0),.d false (.b false),.d false (.b false),.d false (.i .i64 0),.d false (.i .i64 0),.d false (.i .i64 0),.d false (.i .i64 0),.d false (.i .i64 0),.d false (.i .i64 0),.d false (.i .i64 0),.d false (.i .i64 0),.d false (.i .i64 0),.d false (.i .i64 0),.d false (.i .i64 0),.d false (.i .i64 0),.d false (.i .i64 0),.d false (.i .i64 0),.d false (.i .i64 0),.d false (.i .i64 0),.nil,.d false (.i .i64 0)]:=⟨dJ Tryz.z48⟩
instance:TyE prog 48 [.i .i64 0,.b false,.b false,.i .i64 0,.i .i64 0,.i .i64 0,.i .i64 0,.i .i64 0,.i .i64 0,.i .i64 0,.i .i64 0,.i .i64 0,.i .i64 0,.i .i64 0,.i .i64 0,.i .i64 0,.i .i64 0,.i .i64 0,.i .i64 0,.l [],.i .i64 0]:=⟨dJ Tryz.z48⟩
instance:TyB prog 48 [(0,1),(1,1),(2,1),(3,1),(4,11),(15,6)]:=⟨_,underlying48,λw=>by kernel_rfl⟩
instance:TyF prog 48 0 0 3:=⟨_,_,underlying48,rfl,rfl,rfl,cW 1⟩
instance:TyF prog 48 1 1 4:=⟨_,_,underlying48,rfl,rfl,rfl,cW 1⟩
instance:TyF prog 48 2 2 4:=⟨_,_,underlying48,rfl,rfl,rfl,cW 1⟩
instance:TyF prog 48 3 3 3:=⟨_,_,underlying48,rfl,rfl,rfl,cW 1⟩
instance:TyF prog 48 4 4 42:=⟨_,_,underlying48,rfl,rfl,rfl,cW 11⟩
instance:TyF prog 48 5 15 46:=⟨_,_,underlying48,rfl,rfl,rfl,cW 6⟩
instance:TyN prog 50 25:=⟨dH⟩
instance:TyAg prog 50 25:=⟨λw=>by kernel_rfl,dH⟩
theorem Tryz.z50:(prog.info? 50).map (·.zero)=some (some (.agg #[.int .i64 0,.int .i64 0,.int .i64 0,.slice none 0 0,.int .i64 0,.bool false,.bool false,.int .i64 0,.int .i64 0,.int .i64 0,.int .i64 0,.int .i64 0,.int .i64 0,.int .i64 0,.int .i64 0,.int .i64 0,.int .i64 0,.int .i64 0,.int .i64 0,.int .i64 0,.int .i64 0,.int .i64 0,.int .i64 0,.slice none 0 0,.int .i64 0])):=by kernel_rfl
instance:TyZ prog 50 [.d false (.i .i64 0),.d false (.i .i64 0),.d false (.i .i64 0),.nil,.d false (.i .i64 0),.d false (.b false),.d false (.b false),.d false (.i .i64 0),.d false (.i .i64 0),.d false (.i .i64 0),.d false (.i .i64 0),.d false (.i .i64 0),.d false (.i .i64 0),.d false (.i .i64 0),.d false (.i .i64 0),.d false (.i .i64 0),.d false (.i .i64 0),.d false (.i .i64 0),.d false (.i .i64 0),.d false (.i .i64 0),.d false (.i .i64 0),.d false (.i .i64 0),.d false (.i .i64 0),.nil,.d false (.i .i64 0)]:=⟨dJ Tryz.z50⟩
instance:TyE prog 50 [.i .i64 0,.i .i64 0,.i .i64 0,.l [],.i .i64 0,.b false,.b false,.i .i64 0,.i .i64 0,.i .i64 0,.i .i64 0,.i .i64 0,.i .i64 0,.i .i64 0,.i .i64 0,.i .i64 0,.i .i64 0,.i .i64 0,.i .i64 0,.i .i64 0,.i .i64 0,.i .i64 0,.i .i64 0,.l [],.i .i64 0]:=⟨dJ Tryz.z50⟩
instance:TyB prog 50 [(0,1),(1,1),(2,1),(3,1),(4,21)]:=⟨_,underlying50,λw=>by kernel_rfl⟩
instance:TyF prog 50 0 0 3:=⟨_,_,underlying50,rfl,rfl,rfl,cW 1⟩
instance:TyF prog 50 1 1 3:=⟨_,_,underlying50,rfl,rfl,rfl,cW 1⟩
instance:TyF prog 50 2 2 3:=⟨_,_,underlying50,rfl,rfl,rfl,cW 1⟩
instance:TyF prog 50 3 3 22:=⟨_,_,underlying50,rfl,rfl,rfl,cW 1⟩
instance:TyF prog 50 4 4 48:=⟨_,_,underlying50,rfl,rfl,rfl,cW 21⟩
instance:TyN prog 54 2:=⟨dH⟩
instance:TyAg prog 54 2:=⟨λw=>by kernel_rfl,dH⟩
theorem Tryz.z54:(prog.info? 54).map (·.zero)=some (some (.agg #[.int .i64 0,.int .i64 0])):=by kernel_rfl
instance:TyZ prog 54 [.d false (.i .i64 0),.d false (.i .i64 0)]:=⟨dJ Tryz.z54⟩
instance:TyE prog 54 [.i .i64 0,.i .i64 0]:=⟨dJ Tryz.z54⟩
instance:TyB prog 54 [(0,1),(1,1)]:=⟨_,underlying54,λw=>by kernel_rfl⟩
instance:TyF prog 54 0 0 3:=⟨_,_,underlying54,rfl,rfl,rfl,cW 1⟩
instance:TyF prog 54 1 1 3:=⟨_,_,underlying54,rfl,rfl,rfl,cW 1⟩
instance:TyN prog 56 4:=⟨dH⟩
instance:TyAg prog 56 4:=⟨λw=>by kernel_rfl,dH⟩
theorem Tryz.z56:(prog.info? 56).map (·.zero)=some (some (.agg #[.int .i64 0,.int .i64 0,.int .i64 0,.int .i64 0])):=by kernel_rfl
instance:TyZ prog 56 [.d false (.i .i64 0),.d false (.i .i64 0),.d false (.i .i64 0),.d false (.i .i64 0)]:=⟨dJ Tryz.z56⟩
instance:TyE prog 56 [.i .i64 0,.i .i64 0,.i .i64 0,.i .i64 0]:=⟨dJ Tryz.z56⟩
instance:TyB prog 56 [(0,2),(2,1),(3,1)]:=⟨_,underlying56,λw=>by kernel_rfl⟩
instance:TyF prog 56 0 0 54:=⟨_,_,underlying56,rfl,rfl,rfl,cW 2⟩
instance:TyF prog 56 1 2 3:=⟨_,_,underlying56,rfl,rfl,rfl,cW 1⟩
instance:TyF prog 56 2 3 3:=⟨_,_,underlying56,rfl,rfl,rfl,cW 1⟩
instance:TyN prog 57 1:=⟨dH⟩
instance:TySc prog 57:=⟨λw=>by kernel_rfl,dH⟩
theorem Tryz.z57:(prog.info? 57).map (·.zero)=some (some (.slice none 0 0)):=by kernel_rfl
instance:TyZ prog 57 [.nil]:=⟨dJ Tryz.z57⟩
instance:TyE prog 57 [.l []]:=⟨dJ Tryz.z57⟩
instance:TySl prog 57 3 1 8:=⟨underlying57,lO (z:=.int .i64 0) (by kernel_rfl) rfl,by decide⟩
instance:TyN prog 59 4:=⟨dH⟩
instance:TyAg prog 59 4:=⟨λw=>by kernel_rfl,dH⟩
theorem Tryz.z59:(prog.info? 59).map (·.zero)=some (some (.agg #[.int .i64 0,.int .i64 0,.int .i64 0,.slice none 0 0])):=by kernel_rfl
instance:TyZ prog 59 [.d false (.i .i64 0),.d false (.i .i64 0),.d false (.i .i64 0),.nil]:=⟨dJ Tryz.z59⟩
instance:TyE prog 59 [.i .i64 0,.i .i64 0,.i .i64 0,.l []]:=⟨dJ Tryz.z59⟩
instance:TyB prog 59 [(0,1),(1,1),(2,1),(3,1)]:=⟨_,underlying59,λw=>by kernel_rfl⟩
instance:TyF prog 59 0 0 3:=⟨_,_,underlying59,rfl,rfl,rfl,cW 1⟩
instance:TyF prog 59 1 1 3:=⟨_,_,underlying59,rfl,rfl,rfl,cW 1⟩
instance:TyF prog 59 2 2 3:=⟨_,_,underlying59,rfl,rfl,rfl,cW 1⟩
instance:TyF prog 59 3 3 57:=⟨_,_,underlying59,rfl,rfl,rfl,cW 1⟩
instance:TyN prog 61 3:=⟨dH⟩
instance:TyAg prog 61 3:=⟨λw=>by kernel_rfl,dH⟩
theorem Tryz.z61:(prog.info? 61).map (·.zero)=some (some (.agg #[.int .i64 0,.int .i64 0,.int .i64 0])):=by kernel_rfl
instance:TyZ prog 61 [.d false (.i .i64 0),.d false (.i .i64 0),.d false (.i .i64 0)]:=⟨dJ Tryz.z61⟩
instance:TyE prog 61 [.i .i64 0,.i .i64 0,.i .i64 0]:=⟨dJ Tryz.z61⟩
instance:TyB prog 61 [(0,1),(1,1),(2,1)]:=⟨_,underlying61,λw=>by kernel_rfl⟩
instance:TyF prog 61 0 0 3:=⟨_,_,underlying61,rfl,rfl,rfl,cW 1⟩
instance:TyF prog 61 1 1 3:=⟨_,_,underlying61,rfl,rfl,rfl,cW 1⟩
instance:TyF prog 61 2 2 3:=⟨_,_,underlying61,rfl,rfl,rfl,cW 1⟩
instance:TyN prog 62 1:=⟨dH⟩
instance:TySc prog 62:=⟨λw=>by kernel_rfl,dH⟩
theorem Tryz.z62:(prog.info? 62).map (·.zero)=some (some (.slice none 0 0)):=by kernel_rfl
instance:TyZ prog 62 [.nil]:=⟨dJ Tryz.z62⟩
instance:TyE prog 62 [.l []]:=⟨dJ Tryz.z62⟩
instance:TySl prog 62 125 1 24:=⟨underlying62,lO (z:=.agg #[.slice none 0 0]) (by kernel_rfl) rfl,by decide⟩
instance:TyN prog 63 1:=⟨dH⟩
instance:TySc prog 63:=⟨λw=>by kernel_rfl,dH⟩
theorem Tryz.z63:(prog.info? 63).map (·.zero)=some (some (.slice none 0 0)):=by kernel_rfl
instance:TyZ prog 63 [.nil]:=⟨dJ Tryz.z63⟩
instance:TyE prog 63 [.l []]:=⟨dJ Tryz.z63⟩
instance:TySl prog 63 144 2 32:=⟨underlying63,lO (z:=.agg #[.int .i64 0,.slice none 0 0]) (by kernel_rfl) rfl,by decide⟩
instance:TyN prog 65 2:=⟨dH⟩
instance:TyAg prog 65 2:=⟨λw=>by kernel_rfl,dH⟩
theorem Tryz.z65:(prog.info? 65).map (·.zero)=some (some (.agg #[.int .i64 0,.slice none 0 0])):=by kernel_rfl
instance:TyZ prog 65 [.d false (.i .i64 0),.nil]:=⟨dJ Tryz.z65⟩
instance:TyE prog 65 [.i .i64 0,.l []]:=⟨dJ Tryz.z65⟩
instance:TyB prog 65 [(0,1),(1,1)]:=⟨_,underlying65,λw=>by kernel_rfl⟩
instance:TyF prog 65 0 0 3:=⟨_,_,underlying65,rfl,rfl,rfl,cW 1⟩
instance:TyF prog 65 1 1 63:=⟨_,_,underlying65,rfl,rfl,rfl,cW 1⟩
instance:TyN prog 67 3:=⟨dH⟩
instance:TyAg prog 67 3:=⟨λw=>by kernel_rfl,dH⟩
theorem Tryz.z67:(prog.info? 67).map (·.zero)=some (some (.agg #[.int .i64 0,.int .i64 0,.int .i64 0])):=by kernel_rfl
instance:TyZ prog 67 [.d false (.i .i64 0),.d false (.i .i64 0),.d false (.i .i64 0)]:=⟨dJ Tryz.z67⟩
instance:TyE prog 67 [.i .i64 0,.i .i64 0,.i .i64 0]:=⟨dJ Tryz.z67⟩
instance:TyB prog 67 [(0,1),(1,1),(2,1)]:=⟨_,underlying67,λw=>by kernel_rfl⟩
instance:TyF prog 67 0 0 3:=⟨_,_,underlying67,rfl,rfl,rfl,cW 1⟩
instance:TyF prog 67 1 1 3:=⟨_,_,underlying67,rfl,rfl,rfl,cW 1⟩
instance:TyF prog 67 2 2 3:=⟨_,_,underlying67,rfl,rfl,rfl,cW 1⟩
instance:TyN prog 69 30:=⟨dH⟩
instance:TyAg prog 69 30:=⟨λw=>by kernel_rfl,dH⟩
theorem Tryz.z69:(prog.info? 69).map (·.zero)=some (some (.agg #[.int .i64 0,.int .i64 0,.int .i64 0,.int .i64 0,.int .i64 0,.int .i64 0,.int .i64 0,.slice none 0 0,.int .i64 0,.int .i64 0,.int .i64 0,.int .i64 0,.int .i64 0,.int .i64 0,.int .i64 0,.int .i64 0,.int .i64 0,.int .i64 0,.int .i64 0,.int .i64 0,.int .i64 0,.int .i64 0,.int .i64 0,.slice none 0 0,.int .i64 0,.slice none 0 0,.int .i64 0,.int .i64 0,.int .i64 0,.int .i64 0])):=by kernel_rfl
instance:TyZ prog 69 [.d false (.i .i64 0),.d false (.i .i64 0),.d false (.i .i64 0),.d false (.i .i64 0),.d false (.i .i64 0),.d false (.i .i64 0),.d false (.i .i64 0),.nil,.d false (.i .i64 0),.d false (.i .i64 0),.d false (.i .i64 0),.d false (.i .i64 0),.d false (.i .i64 0),.d false (.i .i64 0),.d false (.i .i64 0),.d false (.i .i64 0),.d false (.i .i64 0),.d false (.i .i64 0),.d false (.i .i64 0),.d false (.i .i64 0),.d false (.i .i64 0),.d false (.i .i64 0),.d false (.i .i64 0),.nil,.d false (.i .i64 0),.nil,.d false (.i .i64 0),.d false (.i .i64 0),.d false (.i .i64 0),.d false (.i .i64 0)]:=⟨dJ Tryz.z69⟩
instance:TyE prog 69 [.i .i64 0,.i .i64 0,.i .i64 0,.i .i64 0,.i .i64 0,.i .i64 0,.i .i64 0,.l [],.i .i64 0,.i .i64 0,.i .i64 0,.i .i64 0,.i .i64 0,.i .i64 0,.i .i64 0,.i .i64 0,.i .i64 0,.i .i64 0,.i .i64 0,.i .i64 0,.i .i64 0,.i .i64 0,.i .i64 0,.l [],.i .i64 0,.l [],.i .i64 0,.i .i64 0,.i .i64 0,.i .i64 0]:=⟨dJ Tryz.z69⟩
instance:TyB prog 69 [(0,4),(4,4),(8,1),(9,5),(14,1),(15,1),(16,1),(17,1),(18,1),(19,1),(20,3),(23,1),(24,2),(26,1),(27,3)]:=⟨_,underlying69,λw=>by kernel_rfl⟩
instance:TyF prog 69 0 0 56:=⟨_,_,underlying69,rfl,rfl,rfl,cW 4⟩
instance:TyF prog 69 1 4 59:=⟨_,_,underlying69,rfl,rfl,rfl,cW 4⟩
instance:TyF prog 69 2 8 3:=⟨_,_,underlying69,rfl,rfl,rfl,cW 1⟩
instance:TyF prog 69 3 9 40:=⟨_,_,underlying69,rfl,rfl,rfl,cW 5⟩
instance:TyF prog 69 4 14 3:=⟨_,_,underlying69,rfl,rfl,rfl,cW 1⟩
instance:TyF prog 69 5 15 3:=⟨_,_,underlying69,rfl,rfl,rfl,cW 1⟩
instance:TyF prog 69 6 16 3:=⟨_,_,underlying69,rfl,rfl,rfl,cW 1⟩
instance:TyF prog 69 7 17 3:=⟨_,_,underlying69,rfl,rfl,rfl,cW 1⟩
instance:TyF prog 69 8 18 3:=⟨_,_,underlying69,rfl,rfl,rfl,cW 1⟩
instance:TyF prog 69 9 19 3:=⟨_,_,underlying69,rfl,rfl,rfl,cW 1⟩
instance:TyF prog 69 10 20 61:=⟨_,_,underlying69,rfl,rfl,rfl,cW 3⟩
instance:TyF prog 69 11 23 62:=⟨_,_,underlying69,rfl,rfl,rfl,cW 1⟩
instance:TyF prog 69 12 24 65:=⟨_,_,underlying69,rfl,rfl,rfl,cW 2⟩
instance:TyF prog 69 13 26 3:=⟨_,_,underlying69,rfl,rfl,rfl,cW 1⟩
instance:TyF prog 69 14 27 67:=⟨_,_,underlying69,rfl,rfl,rfl,cW 3⟩
instance:TyN prog 82 3:=⟨dH⟩
instance:TyAg prog 82 3:=⟨λw=>by kernel_rfl,dH⟩
theorem Tryz.z82:(prog.info? 82).map (·.zero)=some (some (.agg #[.int .i64 0,.slice none 0 0,.slice none 0 0])):=by kernel_rfl
instance:TyZ prog 82 [.d false (.i .i64 0),.nil,.nil]:=⟨dJ Tryz.z82⟩
instance:TyE prog 82 [.i .i64 0,.l [],.l []]:=⟨dJ Tryz.z82⟩
instance:TyB prog 82 [(0,1),(1,1),(2,1)]:=⟨_,underlying82,λw=>by kernel_rfl⟩
instance:TyF prog 82 0 0 3:=⟨_,_,underlying82,rfl,rfl,rfl,cW 1⟩
instance:TyF prog 82 1 1 63:=⟨_,_,underlying82,rfl,rfl,rfl,cW 1⟩
instance:TyF prog 82 2 2 62:=⟨_,_,underlying82,rfl,rfl,rfl,cW 1⟩
instance:TyN prog 84 4:=⟨dH⟩
instance:TyAg prog 84 4:=⟨λw=>by kernel_rfl,dH⟩
theorem Tryz.z84:(prog.info? 84).map (·.zero)=some (some (.agg #[.int .i64 0,.int .i64 0,.int .i64 0,.int .i64 0])):=by kernel_rfl
instance:TyZ prog 84 [.d false (.i .i64 0),.d false (.i .i64 0),.d false (.i .i64 0),.d false (.i .i64 0)]:=⟨dJ Tryz.z84⟩
instance:TyE prog 84 [.i .i64 0,.i .i64 0,.i .i64 0,.i .i64 0]:=⟨dJ Tryz.z84⟩
instance:TyB prog 84 [(0,2),(2,1),(3,1)]:=⟨_,underlying84,λw=>by kernel_rfl⟩
instance:TyF prog 84 0 0 54:=⟨_,_,underlying84,rfl,rfl,rfl,cW 2⟩
instance:TyF prog 84 1 2 3:=⟨_,_,underlying84,rfl,rfl,rfl,cW 1⟩
instance:TyF prog 84 2 3 3:=⟨_,_,underlying84,rfl,rfl,rfl,cW 1⟩
instance:TyN prog 86 14:=⟨dH⟩
instance:TyAg prog 86 14:=⟨λw=>by kernel_rfl,dH⟩
theorem Tryz.z86:(prog.info? 86).map (·.zero)=some (some (.agg #[.int .i64 0,.int .i64 0,.int .i64 0,.int .i64 0,.int .i64 0,.int .i64 0,.int .i64 0,.int .i64 0,.int .i64 0,.bool false,.int .i64 0,.int .i64 0,.slice none 0 0,.slice none 0 0])):=by kernel_rfl
instance:TyZ prog 86 [.d false (.i .i64 0),.d false (.i .i64 0),.d false (.i .i64 0),.d false (.i .i64 0),.d false (.i .i64 0),.d false (.i .i64 0),.d false (.i .i64 0),.d false (.i .i64 0),.d false (.i .i64 0),.d false (.b false),.d false (.i .i64 0),.d false (.i .i64 0),.nil,.nil]:=⟨dJ Tryz.z86⟩
instance:TyE prog 86 [.i .i64 0,.i .i64 0,.i .i64 0,.i .i64 0,.i .i64 0,.i .i64 0,.i .i64 0,.i .i64 0,.i .i64 0,.b false,.i .i64 0,.i .i64 0,.l [],.l []]:=⟨dJ Tryz.z86⟩
instance:TyB prog 86 [(0,4),(4,1),(5,1),(6,1),(7,1),(8,1),(9,1),(10,1),(11,3)]:=⟨_,underlying86,λw=>by kernel_rfl⟩
instance:TyF prog 86 0 0 84:=⟨_,_,underlying86,rfl,rfl,rfl,cW 4⟩
instance:TyF prog 86 1 4 3:=⟨_,_,underlying86,rfl,rfl,rfl,cW 1⟩
instance:TyF prog 86 2 5 3:=⟨_,_,underlying86,rfl,rfl,rfl,cW 1⟩
instance:TyF prog 86 3 6 3:=⟨_,_,underlying86,rfl,rfl,rfl,cW 1⟩
instance:TyF prog 86 4 7 3:=⟨_,_,underlying86,rfl,rfl,rfl,cW 1⟩
instance:TyF prog 86 5 8 3:=⟨_,_,underlying86,rfl,rfl,rfl,cW 1⟩
instance:TyF prog 86 6 9 4:=⟨_,_,underlying86,rfl,rfl,rfl,cW 1⟩
instance:TyF prog 86 7 10 3:=⟨_,_,underlying86,rfl,rfl,rfl,cW 1⟩
instance:TyF prog 86 8 11 82:=⟨_,_,underlying86,rfl,rfl,rfl,cW 3⟩
instance:TyN prog 87 1:=⟨dH⟩
instance:TySc prog 87:=⟨λw=>by kernel_rfl,dH⟩
theorem Tryz.z87:(prog.info? 87).map (·.zero)=some (some (.slice none 0 0)):=by kernel_rfl
instance:TyZ prog 87 [.nil]:=⟨dJ Tryz.z87⟩
instance:TyE prog 87 [.l []]:=⟨dJ Tryz.z87⟩
instance:TySl prog 87 132 2 16:=⟨underlying87,lO (z:=.agg #[.int .i64 0,.int .i64 0]) (by kernel_rfl) rfl,by decide⟩
instance:TyN prog 89 4:=⟨dH⟩
instance:TyAg prog 89 4:=⟨λw=>by kernel_rfl,dH⟩
theorem Tryz.z89:(prog.info? 89).map (·.zero)=some (some (.agg #[.int .i64 0,.int .i64 0,.int .i64 0,.slice none 0 0])):=by kernel_rfl
instance:TyZ prog 89 [.d false (.i .i64 0),.d false (.i .i64 0),.d false (.i .i64 0),.nil]:=⟨dJ Tryz.z89⟩
instance:TyE prog 89 [.i .i64 0,.i .i64 0,.i .i64 0,.l []]:=⟨dJ Tryz.z89⟩
instance:TyB prog 89 [(0,1),(1,1),(2,1),(3,1)]:=⟨_,underlying89,λw=>by kernel_rfl⟩
instance:TyF prog 89 0 0 3:=⟨_,_,underlying89,rfl,rfl,rfl,cW 1⟩
instance:TyF prog 89 1 1 3:=⟨_,_,underlying89,rfl,rfl,rfl,cW 1⟩
instance:TyF prog 89 2 2 3:=⟨_,_,underlying89,rfl,rfl,rfl,cW 1⟩
instance:TyF prog 89 3 3 87:=⟨_,_,underlying89,rfl,rfl,rfl,cW 1⟩
instance:TyN prog 94 1:=⟨dH⟩
instance:TySc prog 94:=⟨λw=>by kernel_rfl,dH⟩
theorem Tryz.z94:(prog.info? 94).map (·.zero)=some (some (.slice none 0 0)):=by kernel_rfl
instance:TyZ prog 94 [.nil]:=⟨dJ Tryz.z94⟩
instance:TyE prog 94 [.l []]:=⟨dJ Tryz.z94⟩
instance:TySl prog 94 50 25 224:=⟨underlying94,lO (z:=.agg #[.int .i64 0,.int .i64 0,.int .i64 0,.slice none 0 0,.int .i64 0,.bool false,.bool false,.int .i64 0,.int .i64 0,.int .i64 0,.int .i64 0,.int .i64 0,.int .i64 0,.int .i64 0,.int .i64 0,.int .i64 0,.int .i64 0,.int .i64 0,.int .i64 0,.int .i64 0,.int .i64 0,.int .i64 0,.int .i64 0,.slice none 0 0,.int .i64 0]) (by kernel_rfl) rfl,by decide⟩
instance:TyN prog 100 1:=⟨dH⟩
instance:TySc prog 100:=⟨λw=>by kernel_rfl,dH⟩
theorem Tryz.z100:(prog.info? 100).map (·.zero)=some (some (.slice none 0 0)):=by kernel_rfl
instance:TyZ prog 100 [.nil]:=⟨dJ Tryz.z100⟩
instance:TyE prog 100 [.l []]:=⟨dJ Tryz.z100⟩
instance:TySl prog 100 246 2 32:=⟨underlying100,lO (z:=.agg #[.int .i64 0,.slice none 0 0]) (by kernel_rfl) rfl,by decide⟩
instance:TyN prog 125 1:=⟨dH⟩
instance:TyAg prog 125 1:=⟨λw=>by kernel_rfl,dH⟩
theorem Tryz.z125:(prog.info? 125).map (·.zero)=some (some (.agg #[.slice none 0 0])):=by kernel_rfl
instance:TyZ prog 125 [.nil]:=⟨dJ Tryz.z125⟩
instance:TyE prog 125 [.l []]:=⟨dJ Tryz.z125⟩
instance:TyB prog 125 [(0,1)]:=⟨_,underlying125,λw=>by kernel_rfl⟩
instance:TyF prog 125 0 0 22:=⟨_,_,underlying125,rfl,rfl,rfl,cW 1⟩
instance:TyN prog 132 2:=⟨dH⟩
instance:TyAg prog 132 2:=⟨λw=>by kernel_rfl,dH⟩
theorem Tryz.z132:(prog.info? 132).map (·.zero)=some (some (.agg #[.int .i64 0,.int .i64 0])):=by kernel_rfl
instance:TyZ prog 132 [.d false (.i .i64 0),.d false (.i .i64 0)]:=⟨dJ Tryz.z132⟩
instance:TyE prog 132 [.i .i64 0,.i .i64 0]:=⟨dJ Tryz.z132⟩
instance:TyB prog 132 [(0,1),(1,1)]:=⟨_,underlying132,λw=>by kernel_rfl⟩
instance:TyF prog 132 0 0 3:=⟨_,_,underlying132,rfl,rfl,rfl,cW 1⟩
instance:TyF prog 132 1 1 3:=⟨_,_,underlying132,rfl,rfl,rfl,cW 1⟩
instance:TyN prog 144 2:=⟨dH⟩
instance:TyAg prog 144 2:=⟨λw=>by kernel_rfl,dH⟩
theorem Tryz.z144:(prog.info? 144).map (·.zero)=some (some (.agg #[.int .i64 0,.slice none 0 0])):=by kernel_rfl
instance:TyZ prog 144 [.d false (.i .i64 0),.nil]:=⟨dJ Tryz.z144⟩
instance:TyE prog 144 [.i .i64 0,.l []]:=⟨dJ Tryz.z144⟩
instance:TyB prog 144 [(0,1),(1,1)]:=⟨_,underlying144,λw=>by kernel_rfl⟩
instance:TyF prog 144 0 0 3:=⟨_,_,underlying144,rfl,rfl,rfl,cW 1⟩
instance:TyF prog 144 1 1 22:=⟨_,_,underlying144,rfl,rfl,rfl,cW 1⟩
instance:TyN prog 148 3:=⟨dH⟩
instance:TyAg prog 148 3:=⟨λw=>by kernel_rfl,dH⟩
theorem Tryz.z148:(prog.info? 148).map (·.zero)=some (some (.agg #[.slice none 0 0,.int .i64 0,.int .i64 0])):=by kernel_rfl
instance:TyZ prog 148 [.nil,.d false (.i .i64 0),.d false (.i .i64 0)]:=⟨dJ Tryz.z148⟩
instance:TyE prog 148 [.l [],.i .i64 0,.i .i64 0]:=⟨dJ Tryz.z148⟩
instance:TyB prog 148 [(0,1),(1,1),(2,1)]:=⟨_,underlying148,λw=>by kernel_rfl⟩
instance:TyF prog 148 0 0 22:=⟨_,_,underlying148,rfl,rfl,rfl,cW 1⟩
instance:TyF prog 148 1 1 3:=⟨_,_,underlying148,rfl,rfl,rfl,cW 1⟩
instance:TyF prog 148 2 2 3:=⟨_,_,underlying148,rfl,rfl,rfl,cW 1⟩
instance:TyN prog 158 2:=⟨dH⟩
instance:TyAg prog 158 2:=⟨λw=>by kernel_rfl,dH⟩
theorem Tryz.z158:(prog.info? 158).map (·.zero)=some (some (.agg #[.int .i64 0,.slice none 0 0])):=by kernel_rfl
instance:TyZ prog 158 [.d false (.i .i64 0),.nil]:=⟨dJ Tryz.z158⟩
instance:TyE prog 158 [.i .i64 0,.l []]:=⟨dJ Tryz.z158⟩
instance:TyB prog 158 [(0,1),(1,1)]:=⟨_,underlying158,λw=>by kernel_rfl⟩
instance:TyF prog 158 0 0 3:=⟨_,_,underlying158,rfl,rfl,rfl,cW 1⟩
instance:TyF prog 158 1 1 57:=⟨_,_,underlying158,rfl,rfl,rfl,cW 1⟩
instance:TyN prog 173 1:=⟨dH⟩
instance:TySc prog 173:=⟨λw=>by kernel_rfl,dH⟩
theorem Tryz.z173:(prog.info? 173).map (·.zero)=some (some (.slice none 0 0)):=by kernel_rfl
instance:TyZ prog 173 [.nil]:=⟨dJ Tryz.z173⟩
instance:TyE prog 173 [.l []]:=⟨dJ Tryz.z173⟩
instance:TySl prog 173 56 4 32:=⟨underlying173,lO (z:=.agg #[.int .i64 0,.int .i64 0,.int .i64 0,.int .i64 0]) (by kernel_rfl) rfl,by decide⟩
instance:TyN prog 179 1:=⟨dH⟩
instance:TySc prog 179:=⟨λw=>by kernel_rfl,dH⟩
theorem Tryz.z179:(prog.info? 179).map (·.zero)=some (some (.slice none 0 0)):=by kernel_rfl
instance:TyZ prog 179 [.nil]:=⟨dJ Tryz.z179⟩
instance:TyE prog 179 [.l []]:=⟨dJ Tryz.z179⟩
instance:TySl prog 179 42 11 88:=⟨underlying179,lO (z:=.agg #[.int .i64 0,.int .i64 0,.int .i64 0,.int .i64 0,.int .i64 0,.int .i64 0,.int .i64 0,.int .i64 0,.int .i64 0,.int .i64 0,.int .i64 0]) (by kernel_rfl) rfl,by decide⟩
instance:TyN prog 181 15:=⟨dH⟩
instance:TyAg prog 181 15:=⟨λw=>by kernel_rfl,dH⟩
theorem Tryz.z181:(prog.info? 181).map (·.zero)=some (some (.agg #[.int .i64 0,.int .i64 0,.int .i64 0,.int .i64 0,.int .i64 0,.int .i64 0,.int .i64 0,.int .i64 0,.int .i64 0,.bool false,.int .i64 0,.int .i64 0,.slice none 0 0,.slice none 0 0,.slice none 0 0])):=by kernel_rfl
instance:TyZ prog 181 [.d false (.i .i64 0),.d false (.i .i64 0),.d false (.i .i64 0),.d false (.i .i64 0),.d false (.i .i64 0),.d false (.i .i64 0),.d false (.i .i64 0),.d false (.i .i64 0),.d false (.i .i64 0),.d false (.b false),.d false (.i .i64 0),.d false (.i .i64 0),.nil,.nil,.nil]:=⟨dJ Tryz.z181⟩
instance:TyE prog 181 [.i .i64 0,.i .i64 0,.i .i64 0,.i .i64 0,.i .i64 0,.i .i64 0,.i .i64 0,.i .i64 0,.i .i64 0,.b false,.i .i64 0,.i .i64 0,.l [],.l [],.l []]:=⟨dJ Tryz.z181⟩
instance:TyB prog 181 [(0,14),(14,1)]:=⟨_,underlying181,λw=>by kernel_rfl⟩
instance:TyF prog 181 0 0 86:=⟨_,_,underlying181,rfl,rfl,rfl,cW 14⟩
instance:TyF prog 181 1 14 179:=⟨_,_,underlying181,rfl,rfl,rfl,cW 1⟩
instance:TyN prog 186 1:=⟨dH⟩
instance:TySc prog 186:=⟨λw=>by kernel_rfl,dH⟩
theorem Tryz.z186:(prog.info? 186).map (·.zero)=some (some (.slice none 0 0)):=by kernel_rfl
instance:TyZ prog 186 [.nil]:=⟨dJ Tryz.z186⟩
instance:TyE prog 186 [.l []]:=⟨dJ Tryz.z186⟩
instance:TySl prog 186 46 6 64:=⟨underlying186,lO (z:=.agg #[.int .i64 0,.int .i64 0,.int .i64 0,.int .i64 0,.slice none 0 0,.int .i64 0]) (by kernel_rfl) rfl,by decide⟩
instance:TyN prog 188 36:=⟨dH⟩
instance:TyAg prog 188 36:=⟨λw=>by kernel_rfl,dH⟩
theorem Tryz.z188:(prog.info? 188).map (·.zero)=some (some (.agg #[.int .i64 0,.int .i64 0,.int .i64 0,.int .i64 0,.int .i64 0,.int .i64 0,.int .i64 0,.slice none 0 0,.int .i64 0,.int .i64 0,.int .i64 0,.int .i64 0,.int .i64 0,.int .i64 0,.int .i64 0,.int .i64 0,.int .i64 0,.int .i64 0,.int .i64 0,.int .i64 0,.int .i64 0,.int .i64 0,.int .i64 0,.slice none 0 0,.int .i64 0,.slice none 0 0,.int .i64 0,.int .i64 0,.int .i64 0,.int .i64 0,.int .i64 0,.int .i64 0,.int .i64 0,.slice none 0 0,.slice none 0 0,.slice none 0 0])):=by kernel_rfl
instance:TyZ prog 188 [.d false (.i .i64 0),.d false (.i .i64 0),.d false (.i .i64 0),.d false (.i .i64 0),.d false (.i .i64 0),.d false (.i .i64 0),.d false (.i .i64 0),.nil,.d false (.i .i64 0),.d false (.i .i64 0),.d false (.i .i64 0),.d false (.i .i64 0),.d false (.i .i64 0),.d false (.i .i64 0),.d false (.i .i64 0),.d false (.i .i64 0),.d false (.i .i64 0),.d false (.i .i64 0),.d false (.i .i64 0),.d false (.i .i64 0),.d false (.i .i64 0),.d false (.i .i64 0),.d false (.i .i64 0),.nil,.d false (.i .i64 0),.nil,.d false (.i .i64 0),.d false (.i .i64 0),.d false (.i .i64 0),.d false (.i .i64 0),.d false (.i .i64 0),.d false (.i .i64 0),.d false (.i .i64 0),.nil,.nil,.nil]:=⟨dJ Tryz.z188⟩
instance:TyE prog 188 [.i .i64 0,.i .i64 0,.i .i64 0,.i .i64 0,.i .i64 0,.i .i64 0,.i .i64 0,.l [],.i .i64 0,.i .i64 0,.i .i64 0,.i .i64 0,.i .i64 0,.i .i64 0,.i .i64 0,.i .i64 0,.i .i64 0,.i .i64 0,.i .i64 0,.i .i64 0,.i .i64 0,.i .i64 0,.i .i64 0,.l [],.i .i64 0,.l [],.i .i64 0,.i .i64 0,.i .i64 0,.i .i64 0,.i .i64 0,.i .i64 0,.i .i64 0,.l [],.l [],.l []]:=⟨dJ Tryz.z188⟩
instance:TyB prog 188 [(0,30),(30,4),(34,1),(35,1)]:=⟨_,underlying188,λw=>by kernel_rfl⟩
instance:TyF prog 188 0 0 69:=⟨_,_,underlying188,rfl,rfl,rfl,cW 30⟩
instance:TyF prog 188 1 30 89:=⟨_,_,underlying188,rfl,rfl,rfl,cW 4⟩
instance:TyF prog 188 2 34 179:=⟨_,_,underlying188,rfl,rfl,rfl,cW 1⟩
instance:TyF prog 188 3 35 186:=⟨_,_,underlying188,rfl,rfl,rfl,cW 1⟩
instance:TyN prog 202 1:=⟨dH⟩
instance:TyAg prog 202 1:=⟨λw=>by kernel_rfl,dH⟩
theorem Tryz.z202:(prog.info? 202).map (·.zero)=some (some (.agg #[.slice none 0 0])):=by kernel_rfl
instance:TyZ prog 202 [.nil]:=⟨dJ Tryz.z202⟩
instance:TyE prog 202 [.l []]:=⟨dJ Tryz.z202⟩
instance:TyB prog 202 [(0,1)]:=⟨_,underlying202,λw=>by kernel_rfl⟩
instance:TyF prog 202 0 0 57:=⟨_,_,underlying202,rfl,rfl,rfl,cW 1⟩
instance:TyN prog 237 31:=⟨dH⟩
instance:TyAg prog 237 31:=⟨λw=>by kernel_rfl,dH⟩
theorem Tryz.z237:(prog.info? 237).map (·.zero)=some (some (.agg #[.int .i64 0,.int .i64 0,.int .i64 0,.int .i64 0,.int .i64 0,.int .i64 0,.int .i64 0,.slice none 0 0,.int .i64 0,.int .i64 0,.int .i64 0,.int .i64 0,.int .i64 0,.int .i64 0,.int .i64 0,.int .i64 0,.int .i64 0,.int .i64 0,.int .i64 0,.int .i64 0,.int .i64 0,.int .i64 0,.int .i64 0,.slice none 0 0,.int .i64 0,.slice none 0 0,.int .i64 0,.int .i64 0,.int .i64 0,.int .i64 0,.slice none 0 0])):=by kernel_rfl
instance:TyZ prog 237 [.d false (.i .i64 0),.d false (.i .i64 0),.d false (.i .i64 0),.d false (.i .i64 0),.d false (.i .i64 0),.d false (.i .i64 0),.d false (.i .i64 0),.nil,.d false (.i .i64 0),.d false (.i .i64 0),.d false (.i .i64 0),.d false (.i .i64 0),.d false (.i .i64 0),.d false (.i .i64 0),.d false (.i .i64 0),.d false (.i .i64 0),.d false (.i .i64 0),.d false (.i .i64 0),.d false (.i .i64 0),.d false (.i .i64 0),.d false (.i .i64 0),.d false (.i .i64 0),.d false (.i .i64 0),.nil,.d false (.i .i64 0),.nil,.d false (.i .i64 0),.d false (.i .i64 0),.d false (.i .i64 0),.d false (.i .i64 0),.nil]:=⟨dJ Tryz.z237⟩
instance:TyE prog 237 [.i .i64 0,.i .i64 0,.i .i64 0,.i .i64 0,.i .i64 0,.i .i64 0,.i .i64 0,.l [],.i .i64 0,.i .i64 0,.i .i64 0,.i .i64 0,.i .i64 0,.i .i64 0,.i .i64 0,.i .i64 0,.i .i64 0,.i .i64 0,.i .i64 0,.i .i64 0,.i .i64 0,.i .i64 0,.i .i64 0,.l [],.i .i64 0,.l [],.i .i64 0,.i .i64 0,.i .i64 0,.i .i64 0,.l []]:=⟨dJ Tryz.z237⟩
instance:TyB prog 237 [(0,30),(30,1)]:=⟨_,underlying237,λw=>by kernel_rfl⟩
instance:TyF prog 237 0 0 69:=⟨_,_,underlying237,rfl,rfl,rfl,cW 30⟩
instance:TyF prog 237 1 30 179:=⟨_,_,underlying237,rfl,rfl,rfl,cW 1⟩
instance:TyN prog 246 2:=⟨dH⟩
instance:TyAg prog 246 2:=⟨λw=>by kernel_rfl,dH⟩
theorem Tryz.z246:(prog.info? 246).map (·.zero)=some (some (.agg #[.int .i64 0,.slice none 0 0])):=by kernel_rfl
instance:TyZ prog 246 [.d false (.i .i64 0),.nil]:=⟨dJ Tryz.z246⟩
instance:TyE prog 246 [.i .i64 0,.l []]:=⟨dJ Tryz.z246⟩
instance:TyB prog 246 [(0,1),(1,1)]:=⟨_,underlying246,λw=>by kernel_rfl⟩
instance:TyF prog 246 0 0 3:=⟨_,_,underlying246,rfl,rfl,rfl,cW 1⟩
instance:TyF prog 246 1 1 202:=⟨_,_,underlying246,rfl,rfl,rfl,cW 1⟩
instance:TyN prog 286 4:=⟨dH⟩
instance:TyAg prog 286 4:=⟨λw=>by kernel_rfl,dH⟩
theorem Tryz.z286:(prog.info? 286).map (·.zero)=some (some (.agg #[.int .i64 0,.int .i64 0,.int .i64 0,.int .i64 0])):=by kernel_rfl
instance:TyZ prog 286 [.d false (.i .i64 0),.d false (.i .i64 0),.d false (.i .i64 0),.d false (.i .i64 0)]:=⟨dJ Tryz.z286⟩
instance:TyE prog 286 [.i .i64 0,.i .i64 0,.i .i64 0,.i .i64 0]:=⟨dJ Tryz.z286⟩
instance:TyB prog 286 [(0,1),(1,1),(2,1),(3,1)]:=⟨_,underlying286,λw=>by kernel_rfl⟩
instance:TyF prog 286 0 0 3:=⟨_,_,underlying286,rfl,rfl,rfl,cW 1⟩
instance:TyF prog 286 1 1 3:=⟨_,_,underlying286,rfl,rfl,rfl,cW 1⟩
instance:TyF prog 286 2 2 3:=⟨_,_,underlying286,rfl,rfl,rfl,cW 1⟩
instance:TyF prog 286 3 3 3:=⟨_,_,underlying286,rfl,rfl,rfl,cW 1⟩
theorem Tryz.sh5:uS prog 5 [.i .u8]:=.int underlying5
theorem Tryz.sh22:uS prog 22 [.l [.i .u8]]:=.slice underlying22 Tryz.sh5 (by kernel_rfl) (by decide)
theorem Tryz.eqa32:EqA prog 2 32 [.i .i64,.i .i64]:=iu (k:=1) underlying32 (by kernel_rfl) (gM rfl (by decide) inferInstance (eb underlying3) (gM rfl (by decide) inferInstance (eb underlying3) (oo)))
instance:TyEq prog 32 [.i .i64,.i .i64]:=⟨⟨2,by decide,Tryz.eqa32⟩,by kernel_rfl⟩
theorem Tryz.eqa40:EqA prog 2 40 [.i .i64,.i .i64,.i .i64,.i .i64,.i .i64]:=iu (k:=1) underlying40 (by kernel_rfl) (gM rfl (by decide) inferInstance (eb underlying3) (gM rfl (by decide) inferInstance (eb underlying3) (gM rfl (by decide) inferInstance (eb underlying3) (gM rfl (by decide) inferInstance (eb underlying3) (gM rfl (by decide) inferInstance (eb underlying3) (oo))))))
instance:TyEq prog 40 [.i .i64,.i .i64,.i .i64,.i .i64,.i .i64]:=⟨⟨2,by decide,Tryz.eqa40⟩,by kernel_rfl⟩
theorem Tryz.eqa42:EqA prog 3 42 [.i .i64,.i .i64,.i .i64,.i .i64,.i .i64,.i .i64,.i .i64,.i .i64,.i .i64,.i .i64,.i .i64]:=iu (k:=2) underlying42 (by kernel_rfl) (gM rfl (by decide) inferInstance (eb underlying3) (gM rfl (by decide) inferInstance (eb underlying3) (gM rfl (by decide) inferInstance (eb underlying3) (gM rfl (by decide) inferInstance (eb underlying3) (gM rfl (by decide) inferInstance (eb underlying3) (Qr (n:=5) (s1:=[.i .i64,.i .i64,.i .i64,.i .i64,.i .i64]) rfl (by decide) inferInstance rfl (by decide) Tryz.eqa40 (gM rfl (by decide) inferInstance (eb underlying3) (oo))))))))
instance:TyEq prog 42 [.i .i64,.i .i64,.i .i64,.i .i64,.i .i64,.i .i64,.i .i64,.i .i64,.i .i64,.i .i64,.i .i64]:=⟨⟨3,by decide,Tryz.eqa42⟩,by kernel_rfl⟩
theorem Tryz.eqa54:EqA prog 2 54 [.i .i64,.i .i64]:=iu (k:=1) underlying54 (by kernel_rfl) (gM rfl (by decide) inferInstance (eb underlying3) (gM rfl (by decide) inferInstance (eb underlying3) (oo)))
instance:TyEq prog 54 [.i .i64,.i .i64]:=⟨⟨2,by decide,Tryz.eqa54⟩,by kernel_rfl⟩
theorem Tryz.eqa56:EqA prog 3 56 [.i .i64,.i .i64,.i .i64,.i .i64]:=iu (k:=2) underlying56 (by kernel_rfl) (Qr (n:=2) (s1:=[.i .i64,.i .i64]) rfl (by decide) inferInstance rfl (by decide) Tryz.eqa54 (gM rfl (by decide) inferInstance (eb underlying3) (gM rfl (by decide) inferInstance (eb underlying3) (oo))))
instance:TyEq prog 56 [.i .i64,.i .i64,.i .i64,.i .i64]:=⟨⟨3,by decide,Tryz.eqa56⟩,by kernel_rfl⟩
theorem Tryz.eqa61:EqA prog 2 61 [.i .i64,.i .i64,.i .i64]:=iu (k:=1) underlying61 (by kernel_rfl) (gM rfl (by decide) inferInstance (eb underlying3) (gM rfl (by decide) inferInstance (eb underlying3) (gM rfl (by decide) inferInstance (eb underlying3) (oo))))
instance:TyEq prog 61 [.i .i64,.i .i64,.i .i64]:=⟨⟨2,by decide,Tryz.eqa61⟩,by kernel_rfl⟩
theorem Tryz.eqa67:EqA prog 2 67 [.i .i64,.i .i64,.i .i64]:=iu (k:=1) underlying67 (by kernel_rfl) (gM rfl (by decide) inferInstance (eb underlying3) (gM rfl (by decide) inferInstance (eb underlying3) (gM rfl (by decide) inferInstance (eb underlying3) (oo))))
instance:TyEq prog 67 [.i .i64,.i .i64,.i .i64]:=⟨⟨2,by decide,Tryz.eqa67⟩,by kernel_rfl⟩
theorem Tryz.eqa84:EqA prog 3 84 [.i .i64,.i .i64,.i .i64,.i .i64]:=iu (k:=2) underlying84 (by kernel_rfl) (Qr (n:=2) (s1:=[.i .i64,.i .i64]) rfl (by decide) inferInstance rfl (by decide) Tryz.eqa54 (gM rfl (by decide) inferInstance (eb underlying3) (gM rfl (by decide) inferInstance (eb underlying3) (oo))))
instance:TyEq prog 84 [.i .i64,.i .i64,.i .i64,.i .i64]:=⟨⟨3,by decide,Tryz.eqa84⟩,by kernel_rfl⟩
theorem Tryz.eqa132:EqA prog 2 132 [.i .i64,.i .i64]:=iu (k:=1) underlying132 (by kernel_rfl) (gM rfl (by decide) inferInstance (eb underlying3) (gM rfl (by decide) inferInstance (eb underlying3) (oo)))
instance:TyEq prog 132 [.i .i64,.i .i64]:=⟨⟨2,by decide,Tryz.eqa132⟩,by kernel_rfl⟩
theorem Tryz.eqa286:EqA prog 2 286 [.i .i64,.i .i64,.i .i64,.i .i64]:=iu (k:=1) underlying286 (by kernel_rfl) (gM rfl (by decide) inferInstance (eb underlying3) (gM rfl (by decide) inferInstance (eb underlying3) (gM rfl (by decide) inferInstance (eb underlying3) (gM rfl (by decide) inferInstance (eb underlying3) (oo)))))
instance:TyEq prog 286 [.i .i64,.i .i64,.i .i64,.i .i64]:=⟨⟨2,by decide,Tryz.eqa286⟩,by kernel_rfl⟩
theorem Tryz.follows:prog.follows .mixedOrders=true:=by kernel_rfl
structure eH where
 fB:Int
 bX:List Int
 deriving DecidableEq,Inhabited
def cQ (a:eH):List D:=[.i .i64 a.fB,.l (a.bX.map eI)]
def K9 (a:eH):List F:=[.s (.i .i64 a.fB),.l 3 1 (a.bX.map eI) a.bX.length]
def Mb:eH:=⟨0,[]⟩
structure aM where
 aR:List eH
 deriving DecidableEq,Inhabited
def gI (a:aM):List D:=[.l (a.aR.map cQ)]
def Pq:aM:=⟨[]⟩
structure a8 where
 dP:Int
 dm:Int
 deriving DecidableEq,Inhabited
def ic (a:a8):List D:=[.i .i64 a.dP,.i .i64 a.dm]
def cM (a:a8):List F:=[.s (.i .i64 a.dP),.s (.i .i64 a.dm)]
def nH:a8:=⟨0,0⟩
structure dx where
 du:Int
 bK:Int
 deriving DecidableEq,Inhabited
def qw (a:dx):List D:=[.i .i64 a.du,.i .i64 a.bK]
def w7:dx:=⟨0,0⟩
structure me where
 ID:dx
 eP:Int
 dM:Int
 deriving DecidableEq,Inhabited
def Hb (a:me):List D:=[.i .i64 a.ID.du,.i .i64 a.ID.bK,.i .i64 a.eP,.i .i64 a.dM]
def La (a:me):List F:=[.s (.i .i64 a.ID.du),.s (.i .i64 a.ID.bK),.s (.i .i64 a.eP),.s (.i .i64 a.dM)]
def Tc:me:=⟨w7,0,0⟩
structure ae where
 cV:Int
 aS:List Int
 deriving DecidableEq,Inhabited
def av (a:ae):List D:=[.i .i64 a.cV,.l (a.aS.map eU8)]
def eh (a:ae):List F:=[.s (.i .i64 a.cV),.l 5 1 (a.aS.map eU8) a.aS.length]
def fa:ae:=⟨0,[]⟩
structure bm where
 aS:List Int
 deriving DecidableEq,Inhabited
def cd (a:bm):List D:=[.l (a.aS.map eU8)]
structure aK where
 bz:Int
 aF:List ae
 aQ:List bm
 deriving DecidableEq,Inhabited
def gj (a:aK):List D:=[.i .i64 a.bz,.l (a.aF.map av),.l (a.aQ.map cd)]
def b7 (a:aK):List F:=[.s (.i .i64 a.bz),.l 144 2 (a.aF.map av) a.aF.length,.l 125 1 (a.aQ.map cd) a.aQ.length]
def dO:aK:=⟨0,[],[]⟩
structure aD where
 c9:me
 bu:Int
 bg:Int
 ag:Int
 aO:Int
 a9:Int
 de:Bool
 f5:Int
 bI:aK
 deriving DecidableEq,Inhabited
def cI (a:aD):List D:=[.i .i64 a.c9.ID.du,.i .i64 a.c9.ID.bK,.i .i64 a.c9.eP,.i .i64 a.c9.dM,.i .i64 a.bu,.i .i64 a.bg,.i .i64 a.ag,.i .i64 a.aO,.i .i64 a.a9,.b a.de,.i .i64 a.f5,.i .i64 a.bI.bz,.l (a.bI.aF.map av),.l (a.bI.aQ.map cd)]
def db (a:aD):List F:=[.s (.i .i64 a.c9.ID.du),.s (.i .i64 a.c9.ID.bK),.s (.i .i64 a.c9.eP),.s (.i .i64 a.c9.dM),.s (.i .i64 a.bu),.s (.i .i64 a.bg),.s (.i .i64 a.ag),.s (.i .i64 a.aO),.s (.i .i64 a.a9),.s (.b a.de),.s (.i .i64 a.f5),.s (.i .i64 a.bI.bz),.l 144 2 (a.bI.aF.map av) a.bI.aF.length,.l 125 1 (a.bI.aQ.map cd) a.bI.aQ.length]
def w6:aD:=⟨Tc,0,0,0,0,0,false,0,dO⟩
structure aG where
 ID:dx
 eP:Int
 cV:Int
 deriving DecidableEq,Inhabited
def cA (a:aG):List D:=[.i .i64 a.ID.du,.i .i64 a.ID.bK,.i .i64 a.eP,.i .i64 a.cV]
def lN (a:aG):List F:=[.s (.i .i64 a.ID.du),.s (.i .i64 a.ID.bK),.s (.i .i64 a.eP),.s (.i .i64 a.cV)]
def rh:aG:=⟨w7,0,0⟩
structure bk where
 gH:Int
 gG:Int
 eg:Int
 bj:List Int
 deriving DecidableEq,Inhabited
def gL (a:bk):List D:=[.i .i64 a.gH,.i .i64 a.gG,.i .i64 a.eg,.l (a.bj.map eI)]
def dD (a:bk):List F:=[.s (.i .i64 a.gH),.s (.i .i64 a.gG),.s (.i .i64 a.eg),.l 3 1 (a.bj.map eI) a.bj.length]
def nJ:bk:=⟨0,0,0,[]⟩
structure cX where
 fj:Int
 hO:Int
 iZ:Int
 vp:Int
 eP:Int
 deriving DecidableEq,Inhabited
def ug (a:cX):List D:=[.i .i64 a.fj,.i .i64 a.hO,.i .i64 a.iZ,.i .i64 a.vp,.i .i64 a.eP]
def fm (a:cX):List F:=[.s (.i .i64 a.fj),.s (.i .i64 a.hO),.s (.i .i64 a.iZ),.s (.i .i64 a.vp),.s (.i .i64 a.eP)]
def cz:cX:=⟨0,0,0,0,0⟩
structure cP where
 fB:Int
 eM:Int
 f5:Int
 deriving DecidableEq,Inhabited
def sW (a:cP):List D:=[.i .i64 a.fB,.i .i64 a.eM,.i .i64 a.f5]
def lg (a:cP):List F:=[.s (.i .i64 a.fB),.s (.i .i64 a.eM),.s (.i .i64 a.f5)]
def fk:cP:=⟨0,0,0⟩
structure aX where
 bz:Int
 az:List ae
 deriving DecidableEq,Inhabited
def gz (a:aX):List D:=[.i .i64 a.bz,.l (a.az.map av)]
def dY (a:aX):List F:=[.s (.i .i64 a.bz),.l 144 2 (a.az.map av) a.az.length]
def p8:aX:=⟨0,[]⟩
structure cT where
 ax:Int
 cH:Int
 ed:Int
 deriving DecidableEq,Inhabited
def pG (a:cT):List D:=[.i .i64 a.ax,.i .i64 a.cH,.i .i64 a.ed]
def rp (a:cT):List F:=[.s (.i .i64 a.ax),.s (.i .i64 a.cH),.s (.i .i64 a.ed)]
def CI:cT:=⟨0,0,0⟩
structure ah where
 bC:aG
 g7:bk
 bu:Int
 aF:cX
 bF:Int
 ag:Int
 aO:Int
 a9:Int
 bg:Int
 d9:Int
 gZ:cP
 aA:List bm
 aw:aX
 d7:Int
 bM:cT
 deriving DecidableEq,Inhabited
def bB (a:ah):List D:=[.i .i64 a.bC.ID.du,.i .i64 a.bC.ID.bK,.i .i64 a.bC.eP,.i .i64 a.bC.cV,.i .i64 a.g7.gH,.i .i64 a.g7.gG,.i .i64 a.g7.eg,.l (a.g7.bj.map eI),.i .i64 a.bu,.i .i64 a.aF.fj,.i .i64 a.aF.hO,.i .i64 a.aF.iZ,.i .i64 a.aF.vp,.i .i64 a.aF.eP,.i .i64 a.bF,.i .i64 a.ag,.i .i64 a.aO,.i .i64 a.a9,.i .i64 a.bg,.i .i64 a.d9,.i .i64 a.gZ.fB,.i .i64 a.gZ.eM,.i .i64 a.gZ.f5,.l (a.aA.map cd),.i .i64 a.aw.bz,.l (a.aw.az.map av),.i .i64 a.d7,.i .i64 a.bM.ax,.i .i64 a.bM.cH,.i .i64 a.bM.ed]
def b8 (a:ah):List F:=[.s (.i .i64 a.bC.ID.du),.s (.i .i64 a.bC.ID.bK),.s (.i .i64 a.bC.eP),.s (.i .i64 a.bC.cV),.s (.i .i64 a.g7.gH),.s (.i .i64 a.g7.gG),.s (.i .i64 a.g7.eg),.l 3 1 (a.g7.bj.map eI) a.g7.bj.length,.s (.i .i64 a.bu),.s (.i .i64 a.aF.fj),.s (.i .i64 a.aF.hO),.s (.i .i64 a.aF.iZ),.s (.i .i64 a.aF.vp),.s (.i .i64 a.aF.eP),.s (.i .i64 a.bF),.s (.i .i64 a.ag),.s (.i .i64 a.aO),.s (.i .i64 a.a9),.s (.i .i64 a.bg),.s (.i .i64 a.d9),.s (.i .i64 a.gZ.fB),.s (.i .i64 a.gZ.eM),.s (.i .i64 a.gZ.f5),.l 125 1 (a.aA.map cd) a.aA.length,.s (.i .i64 a.aw.bz),.l 144 2 (a.aw.az.map av) a.aw.az.length,.s (.i .i64 a.d7),.s (.i .i64 a.bM.ax),.s (.i .i64 a.bM.cH),.s (.i .i64 a.bM.ed)]
def qh:ah:=⟨rh,nJ,0,cz,0,0,0,0,0,0,fk,[],p8,0,CI⟩
structure aE where
 ax:Int
 dV:Int
 deriving DecidableEq,Inhabited
def aZ (a:aE):List D:=[.i .i64 a.ax,.i .i64 a.dV]
def EW (a:aE):List F:=[.s (.i .i64 a.ax),.s (.i .i64 a.dV)]
def tf:aE:=⟨0,0⟩
structure am where
 eJ:Int
 bQ:Int
 er:Int
 aq:List aE
 deriving DecidableEq,Inhabited
def cp (a:am):List D:=[.i .i64 a.eJ,.i .i64 a.bQ,.i .i64 a.er,.l (a.aq.map aZ)]
def cG (a:am):List F:=[.s (.i .i64 a.eJ),.s (.i .i64 a.bQ),.s (.i .i64 a.er),.l 132 2 (a.aq.map aZ) a.aq.length]
def kP:am:=⟨0,0,0,[]⟩
structure aH where
 aV:Int
 bg:Int
 ag:Int
 a9:Int
 bK:Int
 bP:cX
 iZ:Int
 deriving DecidableEq,Inhabited
def ey (a:aH):List D:=[.i .i64 a.aV,.i .i64 a.bg,.i .i64 a.ag,.i .i64 a.a9,.i .i64 a.bK,.i .i64 a.bP.fj,.i .i64 a.bP.hO,.i .i64 a.bP.iZ,.i .i64 a.bP.vp,.i .i64 a.bP.eP,.i .i64 a.iZ]
def cY (a:aH):List F:=[.s (.i .i64 a.aV),.s (.i .i64 a.bg),.s (.i .i64 a.ag),.s (.i .i64 a.a9),.s (.i .i64 a.bK),.s (.i .i64 a.bP.fj),.s (.i .i64 a.bP.hO),.s (.i .i64 a.bP.iZ),.s (.i .i64 a.bP.vp),.s (.i .i64 a.bP.eP),.s (.i .i64 a.iZ)]
def d6:aH:=⟨0,0,0,0,0,cz,0⟩
structure bw where
 di:Int
 fP:Int
 aS:List Int
 iZ:Int
 deriving DecidableEq,Inhabited
def eE (a:bw):List D:=[.i .i64 a.di,.i .i64 a.fP,.l (a.aS.map eU8),.i .i64 a.iZ]
def nL (a:bw):List F:=[.s (.i .i64 a.di),.s (.i .i64 a.fP),.l 5 1 (a.aS.map eU8) a.aS.length,.s (.i .i64 a.iZ)]
def kQ:bw:=⟨0,0,[],0⟩
structure aC where
 ag:Int
 a9:Int
 bp:bw
 deriving DecidableEq,Inhabited
def dR (a:aC):List D:=[.i .i64 a.ag,.i .i64 a.a9,.i .i64 a.bp.di,.i .i64 a.bp.fP,.l (a.bp.aS.map eU8),.i .i64 a.bp.iZ]
def lh (a:aC):List F:=[.s (.i .i64 a.ag),.s (.i .i64 a.a9),.s (.i .i64 a.bp.di),.s (.i .i64 a.bp.fP),.l 5 1 (a.bp.aS.map eU8) a.bp.aS.length,.s (.i .i64 a.bp.iZ)]
def eC:aC:=⟨0,0,kQ⟩
structure bD where
 bv:Int
 em:Bool
 dt:Bool
 bg:Int
 aY:aH
 cr:aC
 deriving DecidableEq,Inhabited
def dv (a:bD):List D:=[.i .i64 a.bv,.b a.em,.b a.dt,.i .i64 a.bg,.i .i64 a.aY.aV,.i .i64 a.aY.bg,.i .i64 a.aY.ag,.i .i64 a.aY.a9,.i .i64 a.aY.bK,.i .i64 a.aY.bP.fj,.i .i64 a.aY.bP.hO,.i .i64 a.aY.bP.iZ,.i .i64 a.aY.bP.vp,.i .i64 a.aY.bP.eP,.i .i64 a.aY.iZ,.i .i64 a.cr.ag,.i .i64 a.cr.a9,.i .i64 a.cr.bp.di,.i .i64 a.cr.bp.fP,.l (a.cr.bp.aS.map eU8),.i .i64 a.cr.bp.iZ]
def lf (a:bD):List F:=[.s (.i .i64 a.bv),.s (.b a.em),.s (.b a.dt),.s (.i .i64 a.bg),.s (.i .i64 a.aY.aV),.s (.i .i64 a.aY.bg),.s (.i .i64 a.aY.ag),.s (.i .i64 a.aY.a9),.s (.i .i64 a.aY.bK),.s (.i .i64 a.aY.bP.fj),.s (.i .i64 a.aY.bP.hO),.s (.i .i64 a.aY.bP.iZ),.s (.i .i64 a.aY.bP.vp),.s (.i .i64 a.aY.bP.eP),.s (.i .i64 a.aY.iZ),.s (.i .i64 a.cr.ag),.s (.i .i64 a.cr.a9),.s (.i .i64 a.cr.bp.di),.s (.i .i64 a.cr.bp.fP),.l 5 1 (a.cr.bp.aS.map eU8) a.cr.bp.aS.length,.s (.i .i64 a.cr.bp.iZ)]
def gY:bD:=⟨0,false,false,0,d6,eC⟩
structure ab where
 d8:aM
 an:List aD
 aj:List ah
 bi:List am
 aN:List bD
 cZ:Int
 cq:a8
 oZ:Int
 kT:Int
 deriving DecidableEq,Inhabited
def eD (a:ab):List D:=[.l (a.d8.aR.map cQ),.l (a.an.map cI),.l (a.aj.map bB),.l (a.bi.map cp),.l (a.aN.map dv),.i .i64 a.cZ,.i .i64 a.cq.dP,.i .i64 a.cq.dm,.i .i64 a.oZ,.i .i64 a.kT]
def aJ (a:ab):List F:=[.l 158 2 (a.d8.aR.map cQ) a.d8.aR.length,.l 86 14 (a.an.map cI) a.an.length,.l 69 30 (a.aj.map bB) a.aj.length,.l 89 4 (a.bi.map cp) a.bi.length,.l 48 21 (a.aN.map dv) a.aN.length,.s (.i .i64 a.cZ),.s (.i .i64 a.cq.dP),.s (.i .i64 a.cq.dm),.s (.i .i64 a.oZ),.s (.i .i64 a.kT)]
def dL:ab:=⟨Pq,[],[],[],[],0,nH,0,0⟩
structure cR where
 aV:Int
 cm:Int
 bg:Int
 aS:List Int
 bG:bD
 deriving DecidableEq,Inhabited
def Cv (a:cR):List D:=[.i .i64 a.aV,.i .i64 a.cm,.i .i64 a.bg,.l (a.aS.map eU8),.i .i64 a.bG.bv,.b a.bG.em,.b a.bG.dt,.i .i64 a.bG.bg,.i .i64 a.bG.aY.aV,.i .i64 a.bG.aY.bg,.i .i64 a.bG.aY.ag,.i .i64 a.bG.aY.a9,.i .i64 a.bG.aY.bK,.i .i64 a.bG.aY.bP.fj,.i .i64 a.bG.aY.bP.hO,.i .i64 a.bG.aY.bP.iZ,.i .i64 a.bG.aY.bP.vp,.i .i64 a.bG.aY.bP.eP,.i .i64 a.bG.aY.iZ,.i .i64 a.bG.cr.ag,.i .i64 a.bG.cr.a9,.i .i64 a.bG.cr.bp.di,.i .i64 a.bG.cr.bp.fP,.l (a.bG.cr.bp.aS.map eU8),.i .i64 a.bG.cr.bp.iZ]
def eF (a:cR):List F:=[.s (.i .i64 a.aV),.s (.i .i64 a.cm),.s (.i .i64 a.bg),.l 5 1 (a.aS.map eU8) a.aS.length,.s (.i .i64 a.bG.bv),.s (.b a.bG.em),.s (.b a.bG.dt),.s (.i .i64 a.bG.bg),.s (.i .i64 a.bG.aY.aV),.s (.i .i64 a.bG.aY.bg),.s (.i .i64 a.bG.aY.ag),.s (.i .i64 a.bG.aY.a9),.s (.i .i64 a.bG.aY.bK),.s (.i .i64 a.bG.aY.bP.fj),.s (.i .i64 a.bG.aY.bP.hO),.s (.i .i64 a.bG.aY.bP.iZ),.s (.i .i64 a.bG.aY.bP.vp),.s (.i .i64 a.bG.aY.bP.eP),.s (.i .i64 a.bG.aY.iZ),.s (.i .i64 a.bG.cr.ag),.s (.i .i64 a.bG.cr.a9),.s (.i .i64 a.bG.cr.bp.di),.s (.i .i64 a.bG.cr.bp.fP),.l 5 1 (a.bG.cr.bp.aS.map eU8) a.bG.cr.bp.aS.length,.s (.i .i64 a.bG.cr.bp.iZ)]
def dN:cR:=⟨0,0,0,[],gY⟩
structure aT where
 fb:List Int
 fi:Int
 fh:Int
 deriving DecidableEq,Inhabited
def TG (a:aT):List D:=[.l (a.fb.map eU8),.i .i64 a.fi,.i .i64 a.fh]
def bS (a:aT):List F:=[.l 5 1 (a.fb.map eU8) a.fb.length,.s (.i .i64 a.fi),.s (.i .i64 a.fh)]
structure bh where
 bv:aD
 dX:List aH
 deriving DecidableEq,Inhabited
def cL (a:bh):List F:=[.s (.i .i64 a.bv.c9.ID.du),.s (.i .i64 a.bv.c9.ID.bK),.s (.i .i64 a.bv.c9.eP),.s (.i .i64 a.bv.c9.dM),.s (.i .i64 a.bv.bu),.s (.i .i64 a.bv.bg),.s (.i .i64 a.bv.ag),.s (.i .i64 a.bv.aO),.s (.i .i64 a.bv.a9),.s (.b a.bv.de),.s (.i .i64 a.bv.f5),.s (.i .i64 a.bv.bI.bz),.l 144 2 (a.bv.bI.aF.map av) a.bv.bI.aF.length,.l 125 1 (a.bv.bI.aQ.map cd) a.bv.bI.aQ.length,.l 42 11 (a.dX.map ey) a.dX.length]
def eO:bh:=⟨w6,[]⟩
structure bY where
 aP:ah
 eo:am
 jZ:List aH
 cr:List aC
 deriving DecidableEq,Inhabited
def cB (a:bY):List F:=[.s (.i .i64 a.aP.bC.ID.du),.s (.i .i64 a.aP.bC.ID.bK),.s (.i .i64 a.aP.bC.eP),.s (.i .i64 a.aP.bC.cV),.s (.i .i64 a.aP.g7.gH),.s (.i .i64 a.aP.g7.gG),.s (.i .i64 a.aP.g7.eg),.l 3 1 (a.aP.g7.bj.map eI) a.aP.g7.bj.length,.s (.i .i64 a.aP.bu),.s (.i .i64 a.aP.aF.fj),.s (.i .i64 a.aP.aF.hO),.s (.i .i64 a.aP.aF.iZ),.s (.i .i64 a.aP.aF.vp),.s (.i .i64 a.aP.aF.eP),.s (.i .i64 a.aP.bF),.s (.i .i64 a.aP.ag),.s (.i .i64 a.aP.aO),.s (.i .i64 a.aP.a9),.s (.i .i64 a.aP.bg),.s (.i .i64 a.aP.d9),.s (.i .i64 a.aP.gZ.fB),.s (.i .i64 a.aP.gZ.eM),.s (.i .i64 a.aP.gZ.f5),.l 125 1 (a.aP.aA.map cd) a.aP.aA.length,.s (.i .i64 a.aP.aw.bz),.l 144 2 (a.aP.aw.az.map av) a.aP.aw.az.length,.s (.i .i64 a.aP.d7),.s (.i .i64 a.aP.bM.ax),.s (.i .i64 a.aP.bM.cH),.s (.i .i64 a.aP.bM.ed),.s (.i .i64 a.eo.eJ),.s (.i .i64 a.eo.bQ),.s (.i .i64 a.eo.er),.l 132 2 (a.eo.aq.map aZ) a.eo.aq.length,.l 42 11 (a.jZ.map ey) a.jZ.length,.l 46 6 (a.cr.map dR) a.cr.length]
def dr:bY:=⟨qh,kP,[],[]⟩
structure jk where
 Steps:List Int
 deriving DecidableEq,Inhabited
def Oh (a:jk):List D:=[.l (a.Steps.map eI)]
structure bR where
 aP:ah
 dX:List aH
 deriving DecidableEq,Inhabited
def eB (a:bR):List F:=[.s (.i .i64 a.aP.bC.ID.du),.s (.i .i64 a.aP.bC.ID.bK),.s (.i .i64 a.aP.bC.eP),.s (.i .i64 a.aP.bC.cV),.s (.i .i64 a.aP.g7.gH),.s (.i .i64 a.aP.g7.gG),.s (.i .i64 a.aP.g7.eg),.l 3 1 (a.aP.g7.bj.map eI) a.aP.g7.bj.length,.s (.i .i64 a.aP.bu),.s (.i .i64 a.aP.aF.fj),.s (.i .i64 a.aP.aF.hO),.s (.i .i64 a.aP.aF.iZ),.s (.i .i64 a.aP.aF.vp),.s (.i .i64 a.aP.aF.eP),.s (.i .i64 a.aP.bF),.s (.i .i64 a.aP.ag),.s (.i .i64 a.aP.aO),.s (.i .i64 a.aP.a9),.s (.i .i64 a.aP.bg),.s (.i .i64 a.aP.d9),.s (.i .i64 a.aP.gZ.fB),.s (.i .i64 a.aP.gZ.eM),.s (.i .i64 a.aP.gZ.f5),.l 125 1 (a.aP.aA.map cd) a.aP.aA.length,.s (.i .i64 a.aP.aw.bz),.l 144 2 (a.aP.aw.az.map av) a.aP.aw.az.length,.s (.i .i64 a.aP.d7),.s (.i .i64 a.aP.bM.ax),.s (.i .i64 a.aP.bM.cH),.s (.i .i64 a.aP.bM.ed),.l 42 11 (a.dX.map ey) a.dX.length]
def pw:bR:=⟨qh,[]⟩
structure Vl where
 ag:Int
 Path:jk
 deriving DecidableEq,Inhabited
structure om where
 Code:Int
 vp:Int
 yn:Int
 UT:Int
 deriving DecidableEq,Inhabited
def vG (a:om):List F:=[.s (.i .i64 a.Code),.s (.i .i64 a.vp),.s (.i .i64 a.yn),.s (.i .i64 a.UT)]
def iY:om:=⟨0,0,0,0⟩
theorem Try.follows:prog.follows .mixedOrders=true:=Tryz.follows
end Go.AM
