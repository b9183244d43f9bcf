/- A part. -/
import Derived.Test.YtljhooecmjejiaaGreatE7
import Derived.Test.YtljhooecmjejiaaGreatProg
set_option linter.unusedVariables false
set_option linter.unusedSimpArgs false
namespace Go.AM
open Go.Proofs
theorem bD {P:Program} {t:TypeId} {n:Nat} (h:(P.info? t).map (·.size)=some n):∃i,P.info? t=some i∧i.size=n:=by
 cases hi:P.info? t with
 |none=>simp[hi] at h
 |some i=>simp[hi] at h;exact⟨i,rfl,h⟩
theorem bE {P:Program} {t:TypeId} {z:Value} (h:(P.info? t).map (·.zero)=some (some z)):∃i,P.info? t=some i∧i.zero=some z:=by
 cases hi:P.info? t with
 |none=>simp[hi] at h
 |some i=>simp[hi] at h;exact⟨i,rfl,h⟩
theorem jF {P:Program} {t:TypeId} {z:Value} {n b:Nat} (h:(P.info? t).map (fun i=>(i.size,i.bytes,i.zero))=some (n,b,some z)) (hz:z.cells.size=n):∃i z,P.info? t=some i∧i.size=n∧i.bytes=b∧i.zero=some z∧z.cells.size=n:=by
 cases hi:P.info? t with
 |none=>simp[hi] at h
 |some i=>simp[hi] at h;exact⟨i,z,rfl,h.1,h.2.1,h.2.2,hz⟩
theorem bh {P:Program} {t:TypeId} {n:Nat} (h:(P.info? t).map (·.size)=some n) (hn:n≠0):∃i,P.info? t=some i∧i.size≠0:=by
 cases hi:P.info? t with
 |none=>simp[hi] at h
 |some i=>simp[hi] at h;exact⟨i,rfl,by omega⟩
instance:TyN Tryz.prog 3 1:=⟨bD (by kernel_rfl)⟩
instance:TySc Tryz.prog 3:=⟨fun w=>by kernel_rfl,bD (by kernel_rfl)⟩
instance:TyU Tryz.prog 3 (.int .i64):=⟨Tryz.underlying3⟩
theorem Tryz.z3:(Tryz.prog.info? 3).map (·.zero)=some (some (.int .i64 0)):=by kernel_rfl
instance:TyZ Tryz.prog 3 [.d false (.i .i64 0)]:=⟨by obtain⟨i,h1,h2⟩:=bE Tryz.z3;exact⟨i,_,h1,h2,rfl⟩⟩
instance:TyE Tryz.prog 3 [.i .i64 0]:=⟨by obtain⟨i,h1,h2⟩:=bE Tryz.z3;exact⟨i,_,h1,h2,rfl⟩⟩
instance:TyN Tryz.prog 4 1:=⟨bD (by kernel_rfl)⟩
instance:TySc Tryz.prog 4:=⟨fun w=>by kernel_rfl,bD (by kernel_rfl)⟩
instance:TyU Tryz.prog 4 (.bool):=⟨Tryz.underlying4⟩
theorem Tryz.z4:(Tryz.prog.info? 4).map (·.zero)=some (some (.bool false)):=by kernel_rfl
instance:TyZ Tryz.prog 4 [.d false (.b false)]:=⟨by obtain⟨i,h1,h2⟩:=bE Tryz.z4;exact⟨i,_,h1,h2,rfl⟩⟩
instance:TyE Tryz.prog 4 [.b false]:=⟨by obtain⟨i,h1,h2⟩:=bE Tryz.z4;exact⟨i,_,h1,h2,rfl⟩⟩
instance:TyN Tryz.prog 5 1:=⟨bD (by kernel_rfl)⟩
instance:TySc Tryz.prog 5:=⟨fun w=>by kernel_rfl,bD (by kernel_rfl)⟩
instance:TyU Tryz.prog 5 (.int .u8):=⟨Tryz.underlying5⟩
theorem Tryz.z5:(Tryz.prog.info? 5).map (·.zero)=some (some (.int .u8 0)):=by kernel_rfl
instance:TyZ Tryz.prog 5 [.d false (.i .u8 0)]:=⟨by obtain⟨i,h1,h2⟩:=bE Tryz.z5;exact⟨i,_,h1,h2,rfl⟩⟩
instance:TyE Tryz.prog 5 [.i .u8 0]:=⟨by obtain⟨i,h1,h2⟩:=bE Tryz.z5;exact⟨i,_,h1,h2,rfl⟩⟩
instance:TyN Tryz.prog 9 1:=⟨bD (by kernel_rfl)⟩
instance:TySc Tryz.prog 9:=⟨fun w=>by kernel_rfl,bD (by kernel_rfl)⟩
instance:TyU Tryz.prog 9 (.string):=⟨Tryz.underlying9⟩
theorem Tryz.z9:(Tryz.prog.info? 9).map (·.zero)=some (some (.string ⟨#[]⟩)):=by kernel_rfl
instance:TyZ Tryz.prog 9 [.d false (.str ⟨#[]⟩)]:=⟨by obtain⟨i,h1,h2⟩:=bE Tryz.z9;exact⟨i,_,h1,h2,rfl⟩⟩
instance:TyE Tryz.prog 9 [.str ⟨#[]⟩]:=⟨by obtain⟨i,h1,h2⟩:=bE Tryz.z9;exact⟨i,_,h1,h2,rfl⟩⟩
instance:TyN Tryz.prog 22 1:=⟨bD (by kernel_rfl)⟩
instance:TySc Tryz.prog 22:=⟨fun w=>by kernel_rfl,bD (by kernel_rfl)⟩
theorem Tryz.z22:(Tryz.prog.info? 22).map (·.zero)=some (some (.slice none 0 0)):=by kernel_rfl
instance:TyZ Tryz.prog 22 [.nil]:=⟨by obtain⟨i,h1,h2⟩:=bE Tryz.z22;exact⟨i,_,h1,h2,rfl⟩⟩
instance:TyE Tryz.prog 22 [.l []]:=⟨by obtain⟨i,h1,h2⟩:=bE Tryz.z22;exact⟨i,_,h1,h2,rfl⟩⟩
instance:TySl Tryz.prog 22 5 1 1:=⟨Tryz.underlying22,jF (z:=.int .u8 0) (by kernel_rfl) rfl,by decide⟩
instance:TyN Tryz.prog 24 1:=⟨bD (by kernel_rfl)⟩
instance:TySc Tryz.prog 24:=⟨fun w=>by kernel_rfl,bD (by kernel_rfl)⟩
theorem Tryz.z24:(Tryz.prog.info? 24).map (·.zero)=some (some (.slice none 0 0)):=by kernel_rfl
instance:TyZ Tryz.prog 24 [.nil]:=⟨by obtain⟨i,h1,h2⟩:=bE Tryz.z24;exact⟨i,_,h1,h2,rfl⟩⟩
instance:TyE Tryz.prog 24 [.l []]:=⟨by obtain⟨i,h1,h2⟩:=bE Tryz.z24;exact⟨i,_,h1,h2,rfl⟩⟩
instance:TySl Tryz.prog 24 157 2 32:=⟨Tryz.underlying24,jF (z:=.agg #[.int .i64 0,.slice none 0 0]) (by kernel_rfl) rfl,by decide⟩
instance:TyN Tryz.prog 26 1:=⟨bD (by kernel_rfl)⟩
instance:TyAg Tryz.prog 26 1:=⟨fun w=>by kernel_rfl,bD (by kernel_rfl)⟩
theorem Tryz.z26:(Tryz.prog.info? 26).map (·.zero)=some (some (.agg #[.slice none 0 0])):=by kernel_rfl
instance:TyZ Tryz.prog 26 [.nil]:=⟨by obtain⟨i,h1,h2⟩:=bE Tryz.z26;exact⟨i,_,h1,h2,rfl⟩⟩
instance:TyE Tryz.prog 26 [.l []]:=⟨by obtain⟨i,h1,h2⟩:=bE Tryz.z26;exact⟨i,_,h1,h2,rfl⟩⟩
instance:TyB Tryz.prog 26 [(0,1)]:=⟨_,Tryz.underlying26,fun w=>by kernel_rfl⟩
instance:TyF Tryz.prog 26 0 0 24:=⟨_,_,Tryz.underlying26,rfl,rfl,rfl,bh (n:=1) (by kernel_rfl) (by decide)⟩
instance:TyN Tryz.prog 27 1:=⟨bD (by kernel_rfl)⟩
instance:TySc Tryz.prog 27:=⟨fun w=>by kernel_rfl,bD (by kernel_rfl)⟩
theorem Tryz.z27:(Tryz.prog.info? 27).map (·.zero)=some (some (.slice none 0 0)):=by kernel_rfl
instance:TyZ Tryz.prog 27 [.nil]:=⟨by obtain⟨i,h1,h2⟩:=bE Tryz.z27;exact⟨i,_,h1,h2,rfl⟩⟩
instance:TyE Tryz.prog 27 [.l []]:=⟨by obtain⟨i,h1,h2⟩:=bE Tryz.z27;exact⟨i,_,h1,h2,rfl⟩⟩
instance:TySl Tryz.prog 27 45 14 144:=⟨Tryz.underlying27,jF (z:=.agg #[.int .i64 0,.int .i64 0,.int .i64 0,.int .i64 0,.int .i64 0,.int .i64 0,.int .i64 0,.int .i64 0,.int .i64 0,.bool false,.int .i64 0,.int .i64 0,.slice none 0 0,.slice none 0 0]) (by kernel_rfl) rfl,by decide⟩
instance:TyN Tryz.prog 28 1:=⟨bD (by kernel_rfl)⟩
instance:TySc Tryz.prog 28:=⟨fun w=>by kernel_rfl,bD (by kernel_rfl)⟩
theorem Tryz.z28:(Tryz.prog.info? 28).map (·.zero)=some (some (.slice none 0 0)):=by kernel_rfl
instance:TyZ Tryz.prog 28 [.nil]:=⟨by obtain⟨i,h1,h2⟩:=bE Tryz.z28;exact⟨i,_,h1,h2,rfl⟩⟩
instance:TyE Tryz.prog 28 [.l []]:=⟨by obtain⟨i,h1,h2⟩:=bE Tryz.z28;exact⟨i,_,h1,h2,rfl⟩⟩
instance:TySl Tryz.prog 28 60 30 288:=⟨Tryz.underlying28,jF (z:=.agg #[.int .i64 0,.int .i64 0,.int .i64 0,.int .i64 0,.int .i64 0,.int .i64 0,.int .i64 0,.slice none 0 0,.int .i64 0,.int .i64 0,.int .i64 0,.int .i64 0,.int .i64 0,.int .i64 0,.int .i64 0,.int .i64 0,.int .i64 0,.int .i64 0,.int .i64 0,.int .i64 0,.int .i64 0,.int .i64 0,.int .i64 0,.slice none 0 0,.int .i64 0,.slice none 0 0,.int .i64 0,.int .i64 0,.int .i64 0,.int .i64 0]) (by kernel_rfl) rfl,by decide⟩
instance:TyN Tryz.prog 29 1:=⟨bD (by kernel_rfl)⟩
instance:TySc Tryz.prog 29:=⟨fun w=>by kernel_rfl,bD (by kernel_rfl)⟩
theorem Tryz.z29:(Tryz.prog.info? 29).map (·.zero)=some (some (.slice none 0 0)):=by kernel_rfl
instance:TyZ Tryz.prog 29 [.nil]:=⟨by obtain⟨i,h1,h2⟩:=bE Tryz.z29;exact⟨i,_,h1,h2,rfl⟩⟩
instance:TyE Tryz.prog 29 [.l []]:=⟨by obtain⟨i,h1,h2⟩:=bE Tryz.z29;exact⟨i,_,h1,h2,rfl⟩⟩
instance:TySl Tryz.prog 29 66 4 48:=⟨Tryz.underlying29,jF (z:=.agg #[.int .i64 0,.int .i64 0,.int .i64 0,.slice none 0 0]) (by kernel_rfl) rfl,by decide⟩
instance:TyN Tryz.prog 30 1:=⟨bD (by kernel_rfl)⟩
instance:TySc Tryz.prog 30:=⟨fun w=>by kernel_rfl,bD (by kernel_rfl)⟩
theorem Tryz.z30:(Tryz.prog.info? 30).map (·.zero)=some (some (.slice none 0 0)):=by kernel_rfl
instance:TyZ Tryz.prog 30 [.nil]:=⟨by obtain⟨i,h1,h2⟩:=bE Tryz.z30;exact⟨i,_,h1,h2,rfl⟩⟩
instance:TyE Tryz.prog 30 [.l []]:=⟨by obtain⟨i,h1,h2⟩:=bE Tryz.z30;exact⟨i,_,h1,h2,rfl⟩⟩
instance:TySl Tryz.prog 30 78 21 176:=⟨Tryz.underlying30,jF (z:=.agg #[.int .i64 0,.bool false,.bool false,.int .i64 0,.int .i64 0,.int .i64 0,.int .i64 0,.int .i64 0,.int .i64 0,.int .i64 0,.int .i64 0,.int .i64 0,.int .i64 0,.int .i64 0,.int .i64 0,.int .i64 0,.int .i64 0,.int .i64 0,.int .i64 0,.slice none 0 0,.int .i64 0]) (by kernel_rfl) rfl,by decide⟩
instance:TyN Tryz.prog 32 2:=⟨bD (by kernel_rfl)⟩
instance:TyAg Tryz.prog 32 2:=⟨fun w=>by kernel_rfl,bD (by kernel_rfl)⟩
theorem Tryz.z32:(Tryz.prog.info? 32).map (·.zero)=some (some (.agg #[.int .i64 0,.int .i64 0])):=by kernel_rfl
instance:TyZ Tryz.prog 32 [.d false (.i .i64 0),.d false (.i .i64 0)]:=⟨by obtain⟨i,h1,h2⟩:=bE Tryz.z32;exact⟨i,_,h1,h2,rfl⟩⟩
instance:TyE Tryz.prog 32 [.i .i64 0,.i .i64 0]:=⟨by obtain⟨i,h1,h2⟩:=bE Tryz.z32;exact⟨i,_,h1,h2,rfl⟩⟩
instance:TyB Tryz.prog 32 [(0,1),(1,1)]:=⟨_,Tryz.underlying32,fun w=>by kernel_rfl⟩
instance:TyF Tryz.prog 32 0 0 3:=⟨_,_,Tryz.underlying32,rfl,rfl,rfl,bh (n:=1) (by kernel_rfl) (by decide)⟩
instance:TyF Tryz.prog 32 1 1 3:=⟨_,_,Tryz.underlying32,rfl,rfl,rfl,bh (n:=1) (by kernel_rfl) (by decide)⟩
instance:TyN Tryz.prog 34 10:=⟨bD (by kernel_rfl)⟩
instance:TyAg Tryz.prog 34 10:=⟨fun w=>by kernel_rfl,bD (by kernel_rfl)⟩
theorem Tryz.z34:(Tryz.prog.info? 34).map (·.zero)=some (some (.agg #[.slice none 0 0,.slice none 0 0,.slice none 0 0,.slice none 0 0,.slice none 0 0,.int .i64 0,.int .i64 0,.int .i64 0,.int .i64 0,.int .i64 0])):=by kernel_rfl
instance:TyZ Tryz.prog 34 [.nil,.nil,.nil,.nil,.nil,.d false (.i .i64 0),.d false (.i .i64 0),.d false (.i .i64 0),.d false (.i .i64 0),.d false (.i .i64 0)]:=⟨by obtain⟨i,h1,h2⟩:=bE Tryz.z34;exact⟨i,_,h1,h2,rfl⟩⟩
instance:TyE Tryz.prog 34 [.l [],.l [],.l [],.l [],.l [],.i .i64 0,.i .i64 0,.i .i64 0,.i .i64 0,.i .i64 0]:=⟨by obtain⟨i,h1,h2⟩:=bE Tryz.z34;exact⟨i,_,h1,h2,rfl⟩⟩
instance:TyB Tryz.prog 34 [(0,1),(1,1),(2,1),(3,1),(4,1),(5,1),(6,2),(8,1),(9,1)]:=⟨_,Tryz.underlying34,fun w=>by kernel_rfl⟩
instance:TyF Tryz.prog 34 0 0 26:=⟨_,_,Tryz.underlying34,rfl,rfl,rfl,bh (n:=1) (by kernel_rfl) (by decide)⟩
instance:TyF Tryz.prog 34 1 1 27:=⟨_,_,Tryz.underlying34,rfl,rfl,rfl,bh (n:=1) (by kernel_rfl) (by decide)⟩
instance:TyF Tryz.prog 34 2 2 28:=⟨_,_,Tryz.underlying34,rfl,rfl,rfl,bh (n:=1) (by kernel_rfl) (by decide)⟩
instance:TyF Tryz.prog 34 3 3 29:=⟨_,_,Tryz.underlying34,rfl,rfl,rfl,bh (n:=1) (by kernel_rfl) (by decide)⟩
instance:TyF Tryz.prog 34 4 4 30:=⟨_,_,Tryz.underlying34,rfl,rfl,rfl,bh (n:=1) (by kernel_rfl) (by decide)⟩
instance:TyF Tryz.prog 34 5 5 3:=⟨_,_,Tryz.underlying34,rfl,rfl,rfl,bh (n:=1) (by kernel_rfl) (by decide)⟩
instance:TyF Tryz.prog 34 6 6 32:=⟨_,_,Tryz.underlying34,rfl,rfl,rfl,bh (n:=2) (by kernel_rfl) (by decide)⟩
instance:TyF Tryz.prog 34 7 8 3:=⟨_,_,Tryz.underlying34,rfl,rfl,rfl,bh (n:=1) (by kernel_rfl) (by decide)⟩
instance:TyF Tryz.prog 34 8 9 3:=⟨_,_,Tryz.underlying34,rfl,rfl,rfl,bh (n:=1) (by kernel_rfl) (by decide)⟩
instance:TyN Tryz.prog 36 1:=⟨bD (by kernel_rfl)⟩
instance:TySc Tryz.prog 36:=⟨fun w=>by kernel_rfl,bD (by kernel_rfl)⟩
theorem Tryz.z36:(Tryz.prog.info? 36).map (·.zero)=some (some (.slice none 0 0)):=by kernel_rfl
instance:TyZ Tryz.prog 36 [.nil]:=⟨by obtain⟨i,h1,h2⟩:=bE Tryz.z36;exact⟨i,_,h1,h2,rfl⟩⟩
instance:TyE Tryz.prog 36 [.l []]:=⟨by obtain⟨i,h1,h2⟩:=bE Tryz.z36;exact⟨i,_,h1,h2,rfl⟩⟩
instance:TySl Tryz.prog 36 136 2 32:=⟨Tryz.underlying36,jF (z:=.agg #[.int .i64 0,.slice none 0 0]) (by kernel_rfl) rfl,by decide⟩
instance:TyN Tryz.prog 37 1:=⟨bD (by kernel_rfl)⟩
instance:TySc Tryz.prog 37:=⟨fun w=>by kernel_rfl,bD (by kernel_rfl)⟩
theorem Tryz.z37:(Tryz.prog.info? 37).map (·.zero)=some (some (.slice none 0 0)):=by kernel_rfl
instance:TyZ Tryz.prog 37 [.nil]:=⟨by obtain⟨i,h1,h2⟩:=bE Tryz.z37;exact⟨i,_,h1,h2,rfl⟩⟩
instance:TyE Tryz.prog 37 [.l []]:=⟨by obtain⟨i,h1,h2⟩:=bE Tryz.z37;exact⟨i,_,h1,h2,rfl⟩⟩
instance:TySl Tryz.prog 37 104 1 24:=⟨Tryz.underlying37,jF (z:=.agg #[.slice none 0 0]) (by kernel_rfl) rfl,by decide⟩
instance:TyN Tryz.prog 39 3:=⟨bD (by kernel_rfl)⟩
instance:TyAg Tryz.prog 39 3:=⟨fun w=>by kernel_rfl,bD (by kernel_rfl)⟩
theorem Tryz.z39:(Tryz.prog.info? 39).map (·.zero)=some (some (.agg #[.int .i64 0,.slice none 0 0,.slice none 0 0])):=by kernel_rfl
instance:TyZ Tryz.prog 39 [.d false (.i .i64 0),.nil,.nil]:=⟨by obtain⟨i,h1,h2⟩:=bE Tryz.z39;exact⟨i,_,h1,h2,rfl⟩⟩
instance:TyE Tryz.prog 39 [.i .i64 0,.l [],.l []]:=⟨by obtain⟨i,h1,h2⟩:=bE Tryz.z39;exact⟨i,_,h1,h2,rfl⟩⟩
instance:TyB Tryz.prog 39 [(0,1),(1,1),(2,1)]:=⟨_,Tryz.underlying39,fun w=>by kernel_rfl⟩
instance:TyF Tryz.prog 39 0 0 3:=⟨_,_,Tryz.underlying39,rfl,rfl,rfl,bh (n:=1) (by kernel_rfl) (by decide)⟩
instance:TyF Tryz.prog 39 1 1 36:=⟨_,_,Tryz.underlying39,rfl,rfl,rfl,bh (n:=1) (by kernel_rfl) (by decide)⟩
instance:TyF Tryz.prog 39 2 2 37:=⟨_,_,Tryz.underlying39,rfl,rfl,rfl,bh (n:=1) (by kernel_rfl) (by decide)⟩
instance:TyN Tryz.prog 41 2:=⟨bD (by kernel_rfl)⟩
instance:TyAg Tryz.prog 41 2:=⟨fun w=>by kernel_rfl,bD (by kernel_rfl)⟩
theorem Tryz.z41:(Tryz.prog.info? 41).map (·.zero)=some (some (.agg #[.int .i64 0,.int .i64 0])):=by kernel_rfl
instance:TyZ Tryz.prog 41 [.d false (.i .i64 0),.d false (.i .i64 0)]:=⟨by obtain⟨i,h1,h2⟩:=bE Tryz.z41;exact⟨i,_,h1,h2,rfl⟩⟩
instance:TyE Tryz.prog 41 [.i .i64 0,.i .i64 0]:=⟨by obtain⟨i,h1,h2⟩:=bE Tryz.z41;exact⟨i,_,h1,h2,rfl⟩⟩
instance:TyB Tryz.prog 41 [(0,1),(1,1)]:=⟨_,Tryz.underlying41,fun w=>by kernel_rfl⟩
instance:TyF Tryz.prog 41 0 0 3:=⟨_,_,Tryz.underlying41,rfl,rfl,rfl,bh (n:=1) (by kernel_rfl) (by decide)⟩
instance:TyF Tryz.prog 41 1 1 3:=⟨_,_,Tryz.underlying41,rfl,rfl,rfl,bh (n:=1) (by kernel_rfl) (by decide)⟩
instance:TyN Tryz.prog 43 4:=⟨bD (by kernel_rfl)⟩
instance:TyAg Tryz.prog 43 4:=⟨fun w=>by kernel_rfl,bD (by kernel_rfl)⟩
theorem Tryz.z43:(Tryz.prog.info? 43).map (·.zero)=some (some (.agg #[.int .i64 0,.int .i64 0,.int .i64 0,.int .i64 0])):=by kernel_rfl
instance:TyZ Tryz.prog 43 [.d false (.i .i64 0),.d false (.i .i64 0),.d false (.i .i64 0),.d false (.i .i64 0)]:=⟨by obtain⟨i,h1,h2⟩:=bE Tryz.z43;exact⟨i,_,h1,h2,rfl⟩⟩
instance:TyE Tryz.prog 43 [.i .i64 0,.i .i64 0,.i .i64 0,.i .i64 0]:=⟨by obtain⟨i,h1,h2⟩:=bE Tryz.z43;exact⟨i,_,h1,h2,rfl⟩⟩
instance:TyB Tryz.prog 43 [(0,2),(2,1),(3,1)]:=⟨_,Tryz.underlying43,fun w=>by kernel_rfl⟩
instance:TyF Tryz.prog 43 0 0 41:=⟨_,_,Tryz.underlying43,rfl,rfl,rfl,bh (n:=2) (by kernel_rfl) (by decide)⟩
instance:TyF Tryz.prog 43 1 2 3:=⟨_,_,Tryz.underlying43,rfl,rfl,rfl,bh (n:=1) (by kernel_rfl) (by decide)⟩
instance:TyF Tryz.prog 43 2 3 3:=⟨_,_,Tryz.underlying43,rfl,rfl,rfl,bh (n:=1) (by kernel_rfl) (by decide)⟩
instance:TyN Tryz.prog 45 14:=⟨bD (by kernel_rfl)⟩
instance:TyAg Tryz.prog 45 14:=⟨fun w=>by kernel_rfl,bD (by kernel_rfl)⟩
theorem Tryz.z45:(Tryz.prog.info? 45).map (·.zero)=some (some (.agg #[.int .i64 0,.int .i64 0,.int .i64 0,.int .i64 0,.int .i64 0,.int .i64 0,.int .i64 0,.int .i64 0,.int .i64 0,.bool false,.int .i64 0,.int .i64 0,.slice none 0 0,.slice none 0 0])):=by kernel_rfl
instance:TyZ Tryz.prog 45 [.d false (.i .i64 0),.d false (.i .i64 0),.d false (.i .i64 0),.d false (.i .i64 0),.d false (.i .i64 0),.d false (.i .i64 0),.d false (.i .i64 0),.d false (.i .i64 0),.d false (.i .i64 0),.d false (.b false),.d false (.i .i64 0),.d false (.i .i64 0),.nil,.nil]:=⟨by obtain⟨i,h1,h2⟩:=bE Tryz.z45;exact⟨i,_,h1,h2,rfl⟩⟩
instance:TyE Tryz.prog 45 [.i .i64 0,.i .i64 0,.i .i64 0,.i .i64 0,.i .i64 0,.i .i64 0,.i .i64 0,.i .i64 0,.i .i64 0,.b false,.i .i64 0,.i .i64 0,.l [],.l []]:=⟨by obtain⟨i,h1,h2⟩:=bE Tryz.z45;exact⟨i,_,h1,h2,rfl⟩⟩
instance:TyB Tryz.prog 45 [(0,4),(4,1),(5,1),(6,1),(7,1),(8,1),(9,1),(10,1),(11,3)]:=⟨_,Tryz.underlying45,fun w=>by kernel_rfl⟩
instance:TyF Tryz.prog 45 0 0 43:=⟨_,_,Tryz.underlying45,rfl,rfl,rfl,bh (n:=4) (by kernel_rfl) (by decide)⟩
instance:TyF Tryz.prog 45 1 4 3:=⟨_,_,Tryz.underlying45,rfl,rfl,rfl,bh (n:=1) (by kernel_rfl) (by decide)⟩
instance:TyF Tryz.prog 45 2 5 3:=⟨_,_,Tryz.underlying45,rfl,rfl,rfl,bh (n:=1) (by kernel_rfl) (by decide)⟩
instance:TyF Tryz.prog 45 3 6 3:=⟨_,_,Tryz.underlying45,rfl,rfl,rfl,bh (n:=1) (by kernel_rfl) (by decide)⟩
instance:TyF Tryz.prog 45 4 7 3:=⟨_,_,Tryz.underlying45,rfl,rfl,rfl,bh (n:=1) (by kernel_rfl) (by decide)⟩
instance:TyF Tryz.prog 45 5 8 3:=⟨_,_,Tryz.underlying45,rfl,rfl,rfl,bh (n:=1) (by kernel_rfl) (by decide)⟩
instance:TyF Tryz.prog 45 6 9 4:=⟨_,_,Tryz.underlying45,rfl,rfl,rfl,bh (n:=1) (by kernel_rfl) (by decide)⟩
instance:TyF Tryz.prog 45 7 10 3:=⟨_,_,Tryz.underlying45,rfl,rfl,rfl,bh (n:=1) (by kernel_rfl) (by decide)⟩
instance:TyF Tryz.prog 45 8 11 39:=⟨_,_,Tryz.underlying45,rfl,rfl,rfl,bh (n:=3) (by kernel_rfl) (by decide)⟩
instance:TyN Tryz.prog 47 4:=⟨bD (by kernel_rfl)⟩
instance:TyAg Tryz.prog 47 4:=⟨fun w=>by kernel_rfl,bD (by kernel_rfl)⟩
theorem Tryz.z47:(Tryz.prog.info? 47).map (·.zero)=some (some (.agg #[.int .i64 0,.int .i64 0,.int .i64 0,.int .i64 0])):=by kernel_rfl
instance:TyZ Tryz.prog 47 [.d false (.i .i64 0),.d false (.i .i64 0),.d false (.i .i64 0),.d false (.i .i64 0)]:=⟨by obtain⟨i,h1,h2⟩:=bE Tryz.z47;exact⟨i,_,h1,h2,rfl⟩⟩
instance:TyE Tryz.prog 47 [.i .i64 0,.i .i64 0,.i .i64 0,.i .i64 0]:=⟨by obtain⟨i,h1,h2⟩:=bE Tryz.z47;exact⟨i,_,h1,h2,rfl⟩⟩
instance:TyB Tryz.prog 47 [(0,2),(2,1),(3,1)]:=⟨_,Tryz.underlying47,fun w=>by kernel_rfl⟩
instance:TyF Tryz.prog 47 0 0 41:=⟨_,_,Tryz.underlying47,rfl,rfl,rfl,bh (n:=2) (by kernel_rfl) (by decide)⟩
instance:TyF Tryz.prog 47 1 2 3:=⟨_,_,Tryz.underlying47,rfl,rfl,rfl,bh (n:=1) (by kernel_rfl) (by decide)⟩
instance:TyF Tryz.prog 47 2 3 3:=⟨_,_,Tryz.underlying47,rfl,rfl,rfl,bh (n:=1) (by kernel_rfl) (by decide)⟩
instance:TyN Tryz.prog 48 1:=⟨bD (by kernel_rfl)⟩
instance:TySc Tryz.prog 48:=⟨fun w=>by kernel_rfl,bD (by kernel_rfl)⟩
theorem Tryz.z48:(Tryz.prog.info? 48).map (·.zero)=some (some (.slice none 0 0)):=by kernel_rfl
instance:TyZ Tryz.prog 48 [.nil]:=⟨by obtain⟨i,h1,h2⟩:=bE Tryz.z48;exact⟨i,_,h1,h2,rfl⟩⟩
instance:TyE Tryz.prog 48 [.l []]:=⟨by obtain⟨i,h1,h2⟩:=bE Tryz.z48;exact⟨i,_,h1,h2,rfl⟩⟩
instance:TySl Tryz.prog 48 3 1 8:=⟨Tryz.underlying48,jF (z:=.int .i64 0) (by kernel_rfl) rfl,by decide⟩
instance:TyN Tryz.prog 50 4:=⟨bD (by kernel_rfl)⟩
instance:TyAg Tryz.prog 50 4:=⟨fun w=>by kernel_rfl,bD (by kernel_rfl)⟩
theorem Tryz.z50:(Tryz.prog.info? 50).map (·.zero)=some (some (.agg #[.int .i64 0,.int .i64 0,.int .i64 0,.slice none 0 0])):=by kernel_rfl
instance:TyZ Tryz.prog 50 [.d false (.i .i64 0),.d false (.i .i64 0),.d false (.i .i64 0),.nil]:=⟨by obtain⟨i,h1,h2⟩:=bE Tryz.z50;exact⟨i,_,h1,h2,rfl⟩⟩
instance:TyE Tryz.prog 50 [.i .i64 0,.i .i64 0,.i .i64 0,.l []]:=⟨by obtain⟨i,h1,h2⟩:=bE Tryz.z50;exact⟨i,_,h1,h2,rfl⟩⟩
instance:TyB Tryz.prog 50 [(0,1),(1,1),(2,1),(3,1)]:=⟨_,Tryz.underlying50,fun w=>by kernel_rfl⟩
instance:TyF Tryz.prog 50 0 0 3:=⟨_,_,Tryz.underlying50,rfl,rfl,rfl,bh (n:=1) (by kernel_rfl) (by decide)⟩
instance:TyF Tryz.prog 50 1 1 3:=⟨_,_,Tryz.underlying50,rfl,rfl,rfl,bh (n:=1) (by kernel_rfl) (by decide)⟩
instance:TyF Tryz.prog 50 2 2 3:=⟨_,_,Tryz.underlying50,rfl,rfl,rfl,bh (n:=1) (by kernel_rfl) (by decide)⟩
instance:TyF Tryz.prog 50 3 3 48:=⟨_,_,Tryz.underlying50,rfl,rfl,rfl,bh (n:=1) (by kernel_rfl) (by decide)⟩
instance:TyN Tryz.prog 52 5:=⟨bD (by kernel_rfl)⟩
instance:TyAg Tryz.prog 52 5:=⟨fun w=>by kernel_rfl,bD (by kernel_rfl)⟩
theorem Tryz.z52:(Tryz.prog.info? 52).map (·.zero)=some (some (.agg #[.int .i64 0,.int .i64 0,.int .i64 0,.int .i64 0,.int .i64 0])):=by kernel_rfl
instance:TyZ Tryz.prog 52 [.d false (.i .i64 0),.d false (.i .i64 0),.d false (.i .i64 0),.d false (.i .i64 0),.d false (.i .i64 0)]:=⟨by obtain⟨i,h1,h2⟩:=bE Tryz.z52;exact⟨i,_,h1,h2,rfl⟩⟩
instance:TyE Tryz.prog 52 [.i .i64 0,.i .i64 0,.i .i64 0,.i .i64 0,.i .i64 0]:=⟨by obtain⟨i,h1,h2⟩:=bE Tryz.z52;exact⟨i,_,h1,h2,rfl⟩⟩
instance:TyB Tryz.prog 52 [(0,1),(1,1),(2,1),(3,1),(4,1)]:=⟨_,Tryz.underlying52,fun w=>by kernel_rfl⟩
instance:TyF Tryz.prog 52 0 0 3:=⟨_,_,Tryz.underlying52,rfl,rfl,rfl,bh (n:=1) (by kernel_rfl) (by decide)⟩
instance:TyF Tryz.prog 52 1 1 3:=⟨_,_,Tryz.underlying52,rfl,rfl,rfl,bh (n:=1) (by kernel_rfl) (by decide)⟩
instance:TyF Tryz.prog 52 2 2 3:=⟨_,_,Tryz.underlying52,rfl,rfl,rfl,bh (n:=1) (by kernel_rfl) (by decide)⟩
instance:TyF Tryz.prog 52 3 3 3:=⟨_,_,Tryz.underlying52,rfl,rfl,rfl,bh (n:=1) (by kernel_rfl) (by decide)⟩
instance:TyF Tryz.prog 52 4 4 3:=⟨_,_,Tryz.underlying52,rfl,rfl,rfl,bh (n:=1) (by kernel_rfl) (by decide)⟩
instance:TyN Tryz.prog 54 3:=⟨bD (by kernel_rfl)⟩
instance:TyAg Tryz.prog 54 3:=⟨fun w=>by kernel_rfl,bD (by kernel_rfl)⟩
theorem Tryz.z54:(Tryz.prog.info? 54).map (·.zero)=some (some (.agg #[.int .i64 0,.int .i64 0,.int .i64 0])):=by kernel_rfl
instance:TyZ Tryz.prog 54 [.d false (.i .i64 0),.d false (.i .i64 0),.d false (.i .i64 0)]:=⟨by obtain⟨i,h1,h2⟩:=bE Tryz.z54;exact⟨i,_,h1,h2,rfl⟩⟩
instance:TyE Tryz.prog 54 [.i .i64 0,.i .i64 0,.i .i64 0]:=⟨by obtain⟨i,h1,h2⟩:=bE Tryz.z54;exact⟨i,_,h1,h2,rfl⟩⟩
instance:TyB Tryz.prog 54 [(0,1),(1,1),(2,1)]:=⟨_,Tryz.underlying54,fun w=>by kernel_rfl⟩
instance:TyF Tryz.prog 54 0 0 3:=⟨_,_,Tryz.underlying54,rfl,rfl,rfl,bh (n:=1) (by kernel_rfl) (by decide)⟩
instance:TyF Tryz.prog 54 1 1 3:=⟨_,_,Tryz.underlying54,rfl,rfl,rfl,bh (n:=1) (by kernel_rfl) (by decide)⟩
instance:TyF Tryz.prog 54 2 2 3:=⟨_,_,Tryz.underlying54,rfl,rfl,rfl,bh (n:=1) (by kernel_rfl) (by decide)⟩
instance:TyN Tryz.prog 56 2:=⟨bD (by kernel_rfl)⟩
instance:TyAg Tryz.prog 56 2:=⟨fun w=>by kernel_rfl,bD (by kernel_rfl)⟩
theorem Tryz.z56:(Tryz.prog.info? 56).map (·.zero)=some (some (.agg #[.int .i64 0,.slice none 0 0])):=by kernel_rfl
instance:TyZ Tryz.prog 56 [.d false (.i .i64 0),.nil]:=⟨by obtain⟨i,h1,h2⟩:=bE Tryz.z56;exact⟨i,_,h1,h2,rfl⟩⟩
instance:TyE Tryz.prog 56 [.i .i64 0,.l []]:=⟨by obtain⟨i,h1,h2⟩:=bE Tryz.z56;exact⟨i,_,h1,h2,rfl⟩⟩
instance:TyB Tryz.prog 56 [(0,1),(1,1)]:=⟨_,Tryz.underlying56,fun w=>by kernel_rfl⟩
instance:TyF Tryz.prog 56 0 0 3:=⟨_,_,Tryz.underlying56,rfl,rfl,rfl,bh (n:=1) (by kernel_rfl) (by decide)⟩
instance:TyF Tryz.prog 56 1 1 36:=⟨_,_,Tryz.underlying56,rfl,rfl,rfl,bh (n:=1) (by kernel_rfl) (by decide)⟩
instance:TyN Tryz.prog 58 3:=⟨bD (by kernel_rfl)⟩
instance:TyAg Tryz.prog 58 3:=⟨fun w=>by kernel_rfl,bD (by kernel_rfl)⟩
theorem Tryz.z58:(Tryz.prog.info? 58).map (·.zero)=some (some (.agg #[.int .i64 0,.int .i64 0,.int .i64 0])):=by kernel_rfl
instance:TyZ Tryz.prog 58 [.d false (.i .i64 0),.d false (.i .i64 0),.d false (.i .i64 0)]:=⟨by obtain⟨i,h1,h2⟩:=bE Tryz.z58;exact⟨i,_,h1,h2,rfl⟩⟩
instance:TyE Tryz.prog 58 [.i .i64 0,.i .i64 0,.i .i64 0]:=⟨by obtain⟨i,h1,h2⟩:=bE Tryz.z58;exact⟨i,_,h1,h2,rfl⟩⟩
instance:TyB Tryz.prog 58 [(0,1),(1,1),(2,1)]:=⟨_,Tryz.underlying58,fun w=>by kernel_rfl⟩
instance:TyF Tryz.prog 58 0 0 3:=⟨_,_,Tryz.underlying58,rfl,rfl,rfl,bh (n:=1) (by kernel_rfl) (by decide)⟩
instance:TyF Tryz.prog 58 1 1 3:=⟨_,_,Tryz.underlying58,rfl,rfl,rfl,bh (n:=1) (by kernel_rfl) (by decide)⟩
instance:TyF Tryz.prog 58 2 2 3:=⟨_,_,Tryz.underlying58,rfl,rfl,rfl,bh (n:=1) (by kernel_rfl) (by decide)⟩
instance:TyN Tryz.prog 60 30:=⟨bD (by kernel_rfl)⟩
instance:TyAg Tryz.prog 60 30:=⟨fun w=>by kernel_rfl,bD (by kernel_rfl)⟩
theorem Tryz.z60:(Tryz.prog.info? 60).map (·.zero)=some (some (.agg #[.int .i64 0,.int .i64 0,.int .i64 0,.int .i64 0,.int .i64 0,.int .i64 0,.int .i64 0,.slice none 0 0,.int .i64 0,.int .i64 0,.int .i64 0,.int .i64 0,.int .i64 0,.int .i64 0,.int .i64 0,.int .i64 0,.int .i64 0,.int .i64 0,.int .i64 0,.int .i64 0,.int .i64 0,.int .i64 0,.int .i64 0,.slice none 0 0,.int .i64 0,.slice none 0 0,.int .i64 0,.int .i64 0,.int .i64 0,.int .i64 0])):=by kernel_rfl
instance:TyZ Tryz.prog 60 [.d false (.i .i64 0),.d false (.i .i64 0),.d false (.i .i64 0),.d false (.i .i64 0),.d false (.i .i64 0),.d false (.i .i64 0),.d false (.i .i64 0),.nil,.d false (.i .i64 0),.d false (.i .i64 0),.d false (.i .i64 0),.d false (.i .i64 0),.d false (.i .i64 0),.d false (.i .i64 0),.d false (.i .i64 0),.d false (.i .i64 0),.d false (.i .i64 0),.d false (.i .i64 0),.d false (.i .i64 0),.d false (.i .i64 0),.d false (.i .i64 0),.d false (.i .i64 0),.d false (.i .i64 0),.nil,.d false (.i .i64 0),.nil,.d false (.i .i64 0),.d false (.i .i64 0),.d false (.i .i64 0),.d false (.i .i64 0)]:=⟨by obtain⟨i,h1,h2⟩:=bE Tryz.z60;exact⟨i,_,h1,h2,rfl⟩⟩
instance:TyE Tryz.prog 60 [.i .i64 0,.i .i64 0,.i .i64 0,.i .i64 0,.i .i64 0,.i .i64 0,.i .i64 0,.l [],.i .i64 0,.i .i64 0,.i .i64 0,.i .i64 0,.i .i64 0,.i .i64 0,.i .i64 0,.i .i64 0,.i .i64 0,.i .i64 0,.i .i64 0,.i .i64 0,.i .i64 0,.i .i64 0,.i .i64 0,.l [],.i .i64 0,.l [],.i .i64 0,.i .i64 0,.i .i64 0,.i .i64 0]:=⟨by obtain⟨i,h1,h2⟩:=bE Tryz.z60;exact⟨i,_,h1,h2,rfl⟩⟩
instance:TyB Tryz.prog 60 [(0,4),(4,4),(8,1),(9,5),(14,1),(15,1),(16,1),(17,1),(18,1),(19,1),(20,3),(23,1),(24,2),(26,1),(27,3)]:=⟨_,Tryz.underlying60,fun w=>by kernel_rfl⟩
instance:TyF Tryz.prog 60 0 0 47:=⟨_,_,Tryz.underlying60,rfl,rfl,rfl,bh (n:=4) (by kernel_rfl) (by decide)⟩
instance:TyF Tryz.prog 60 1 4 50:=⟨_,_,Tryz.underlying60,rfl,rfl,rfl,bh (n:=4) (by kernel_rfl) (by decide)⟩
instance:TyF Tryz.prog 60 2 8 3:=⟨_,_,Tryz.underlying60,rfl,rfl,rfl,bh (n:=1) (by kernel_rfl) (by decide)⟩
instance:TyF Tryz.prog 60 3 9 52:=⟨_,_,Tryz.underlying60,rfl,rfl,rfl,bh (n:=5) (by kernel_rfl) (by decide)⟩
instance:TyF Tryz.prog 60 4 14 3:=⟨_,_,Tryz.underlying60,rfl,rfl,rfl,bh (n:=1) (by kernel_rfl) (by decide)⟩
instance:TyF Tryz.prog 60 5 15 3:=⟨_,_,Tryz.underlying60,rfl,rfl,rfl,bh (n:=1) (by kernel_rfl) (by decide)⟩
instance:TyF Tryz.prog 60 6 16 3:=⟨_,_,Tryz.underlying60,rfl,rfl,rfl,bh (n:=1) (by kernel_rfl) (by decide)⟩
instance:TyF Tryz.prog 60 7 17 3:=⟨_,_,Tryz.underlying60,rfl,rfl,rfl,bh (n:=1) (by kernel_rfl) (by decide)⟩
instance:TyF Tryz.prog 60 8 18 3:=⟨_,_,Tryz.underlying60,rfl,rfl,rfl,bh (n:=1) (by kernel_rfl) (by decide)⟩
instance:TyF Tryz.prog 60 9 19 3:=⟨_,_,Tryz.underlying60,rfl,rfl,rfl,bh (n:=1) (by kernel_rfl) (by decide)⟩
instance:TyF Tryz.prog 60 10 20 54:=⟨_,_,Tryz.underlying60,rfl,rfl,rfl,bh (n:=3) (by kernel_rfl) (by decide)⟩
instance:TyF Tryz.prog 60 11 23 37:=⟨_,_,Tryz.underlying60,rfl,rfl,rfl,bh (n:=1) (by kernel_rfl) (by decide)⟩
instance:TyF Tryz.prog 60 12 24 56:=⟨_,_,Tryz.underlying60,rfl,rfl,rfl,bh (n:=2) (by kernel_rfl) (by decide)⟩
instance:TyF Tryz.prog 60 13 26 3:=⟨_,_,Tryz.underlying60,rfl,rfl,rfl,bh (n:=1) (by kernel_rfl) (by decide)⟩
instance:TyF Tryz.prog 60 14 27 58:=⟨_,_,Tryz.underlying60,rfl,rfl,rfl,bh (n:=3) (by kernel_rfl) (by decide)⟩
instance:TyN Tryz.prog 64 1:=⟨bD (by kernel_rfl)⟩
instance:TySc Tryz.prog 64:=⟨fun w=>by kernel_rfl,bD (by kernel_rfl)⟩
theorem Tryz.z64:(Tryz.prog.info? 64).map (·.zero)=some (some (.slice none 0 0)):=by kernel_rfl
instance:TyZ Tryz.prog 64 [.nil]:=⟨by obtain⟨i,h1,h2⟩:=bE Tryz.z64;exact⟨i,_,h1,h2,rfl⟩⟩
instance:TyE Tryz.prog 64 [.l []]:=⟨by obtain⟨i,h1,h2⟩:=bE Tryz.z64;exact⟨i,_,h1,h2,rfl⟩⟩
instance:TySl Tryz.prog 64 161 2 16:=⟨Tryz.underlying64,jF (z:=.agg #[.int .i64 0,.int .i64 0]) (by kernel_rfl) rfl,by decide⟩
instance:TyN Tryz.prog 66 4:=⟨bD (by kernel_rfl)⟩
instance:TyAg Tryz.prog 66 4:=⟨fun w=>by kernel_rfl,bD (by kernel_rfl)⟩
theorem Tryz.z66:(Tryz.prog.info? 66).map (·.zero)=some (some (.agg #[.int .i64 0,.int .i64 0,.int .i64 0,.slice none 0 0])):=by kernel_rfl
instance:TyZ Tryz.prog 66 [.d false (.i .i64 0),.d false (.i .i64 0),.d false (.i .i64 0),.nil]:=⟨by obtain⟨i,h1,h2⟩:=bE Tryz.z66;exact⟨i,_,h1,h2,rfl⟩⟩
instance:TyE Tryz.prog 66 [.i .i64 0,.i .i64 0,.i .i64 0,.l []]:=⟨by obtain⟨i,h1,h2⟩:=bE Tryz.z66;exact⟨i,_,h1,h2,rfl⟩⟩
instance:TyB Tryz.prog 66 [(0,1),(1,1),(2,1),(3,1)]:=⟨_,Tryz.underlying66,fun w=>by kernel_rfl⟩
instance:TyF Tryz.prog 66 0 0 3:=⟨_,_,Tryz.underlying66,rfl,rfl,rfl,bh (n:=1) (by kernel_rfl) (by decide)⟩
instance:TyF Tryz.prog 66 1 1 3:=⟨_,_,Tryz.underlying66,rfl,rfl,rfl,bh (n:=1) (by kernel_rfl) (by decide)⟩
instance:TyF Tryz.prog 66 2 2 3:=⟨_,_,Tryz.underlying66,rfl,rfl,rfl,bh (n:=1) (by kernel_rfl) (by decide)⟩
instance:TyF Tryz.prog 66 3 3 64:=⟨_,_,Tryz.underlying66,rfl,rfl,rfl,bh (n:=1) (by kernel_rfl) (by decide)⟩
instance:TyN Tryz.prog 72 11:=⟨bD (by kernel_rfl)⟩
instance:TyAg Tryz.prog 72 11:=⟨fun w=>by kernel_rfl,bD (by kernel_rfl)⟩
theorem Tryz.z72:(Tryz.prog.info? 72).map (·.zero)=some (some (.agg #[.int .i64 0,.int .i64 0,.int .i64 0,.int .i64 0,.int .i64 0,.int .i64 0,.int .i64 0,.int .i64 0,.int .i64 0,.int .i64 0,.int .i64 0])):=by kernel_rfl
instance:TyZ Tryz.prog 72 [.d false (.i .i64 0),.d false (.i .i64 0),.d false (.i .i64 0),.d false (.i .i64 0),.d false (.i .i64 0),.d false (.i .i64 0),.d false (.i .i64 0),.d false (.i .i64 0),.d false (.i .i64 0),.d false (.i .i64 0),.d false (.i .i64 0)]:=⟨by obtain⟨i,h1,h2⟩:=bE Tryz.z72;exact⟨i,_,h1,h2,rfl⟩⟩
instance:TyE Tryz.prog 72 [.i .i64 0,.i .i64 0,.i .i64 0,.i .i64 0,.i .i64 0,.i .i64 0,.i .i64 0,.i .i64 0,.i .i64 0,.i .i64 0,.i .i64 0]:=⟨by obtain⟨i,h1,h2⟩:=bE Tryz.z72;exact⟨i,_,h1,h2,rfl⟩⟩
instance:TyB Tryz.prog 72 [(0,1),(1,1),(2,1),(3,1),(4,1),(5,5),(10,1)]:=⟨_,Tryz.underlying72,fun w=>by kernel_rfl⟩
instance:TyF Tryz.prog 72 0 0 3:=⟨_,_,Tryz.underlying72,rfl,rfl,rfl,bh (n:=1) (by kernel_rfl) (by decide)⟩
instance:TyF Tryz.prog 72 1 1 3:=⟨_,_,Tryz.underlying72,rfl,rfl,rfl,bh (n:=1) (by kernel_rfl) (by decide)⟩
instance:TyF Tryz.prog 72 2 2 3:=⟨_,_,Tryz.underlying72,rfl,rfl,rfl,bh (n:=1) (by kernel_rfl) (by decide)⟩
instance:TyF Tryz.prog 72 3 3 3:=⟨_,_,Tryz.underlying72,rfl,rfl,rfl,bh (n:=1) (by kernel_rfl) (by decide)⟩
instance:TyF Tryz.prog 72 4 4 3:=⟨_,_,Tryz.underlying72,rfl,rfl,rfl,bh (n:=1) (by kernel_rfl) (by decide)⟩
instance:TyF Tryz.prog 72 5 5 52:=⟨_,_,Tryz.underlying72,rfl,rfl,rfl,bh (n:=5) (by kernel_rfl) (by decide)⟩
instance:TyF Tryz.prog 72 6 10 3:=⟨_,_,Tryz.underlying72,rfl,rfl,rfl,bh (n:=1) (by kernel_rfl) (by decide)⟩
instance:TyN Tryz.prog 74 4:=⟨bD (by kernel_rfl)⟩
instance:TyAg Tryz.prog 74 4:=⟨fun w=>by kernel_rfl,bD (by kernel_rfl)⟩
theorem Tryz.z74:(Tryz.prog.info? 74).map (·.zero)=some (some (.agg #[.int .i64 0,.int .i64 0,.slice none 0 0,.int .i64 0])):=by kernel_rfl
instance:TyZ Tryz.prog 74 [.d false (.i .i64 0),.d false (.i .i64 0),.nil,.d false (.i .i64 0)]:=⟨by obtain⟨i,h1,h2⟩:=bE Tryz.z74;exact⟨i,_,h1,h2,rfl⟩⟩
instance:TyE Tryz.prog 74 [.i .i64 0,.i .i64 0,.l [],.i .i64 0]:=⟨by obtain⟨i,h1,h2⟩:=bE Tryz.z74;exact⟨i,_,h1,h2,rfl⟩⟩
instance:TyB Tryz.prog 74 [(0,1),(1,1),(2,1),(3,1)]:=⟨_,Tryz.underlying74,fun w=>by kernel_rfl⟩
instance:TyF Tryz.prog 74 0 0 3:=⟨_,_,Tryz.underlying74,rfl,rfl,rfl,bh (n:=1) (by kernel_rfl) (by decide)⟩
instance:TyF Tryz.prog 74 1 1 3:=⟨_,_,Tryz.underlying74,rfl,rfl,rfl,bh (n:=1) (by kernel_rfl) (by decide)⟩
instance:TyF Tryz.prog 74 2 2 22:=⟨_,_,Tryz.underlying74,rfl,rfl,rfl,bh (n:=1) (by kernel_rfl) (by decide)⟩
instance:TyF Tryz.prog 74 3 3 3:=⟨_,_,Tryz.underlying74,rfl,rfl,rfl,bh (n:=1) (by kernel_rfl) (by decide)⟩
instance:TyN Tryz.prog 76 6:=⟨bD (by kernel_rfl)⟩
instance:TyAg Tryz.prog 76 6:=⟨fun w=>by kernel_rfl,bD (by kernel_rfl)⟩
theorem Tryz.z76:(Tryz.prog.info? 76).map (·.zero)=some (some (.agg #[.int .i64 0,.int .i64 0,.int .i64 0,.int .i64 0,.slice none 0 0,.int .i64 0])):=by kernel_rfl
instance:TyZ Tryz.prog 76 [.d false (.i .i64 0),.d false (.i .i64 0),.d false (.i .i64 0),.d false (.i .i64 0),.nil,.d false (.i .i64 0)]:=⟨by obtain⟨i,h1,h2⟩:=bE Tryz.z76;exact⟨i,_,h1,h2,rfl⟩⟩
instance:TyE Tryz.prog 76 [.i .i64 0,.i .i64 0,.i .i64 0,.i .i64 0,.l [],.i .i64 0]:=⟨by obtain⟨i,h1,h2⟩:=bE Tryz.z76;exact⟨i,_,h1,h2,rfl⟩⟩
instance:TyB Tryz.prog 76 [(0,1),(1,1),(2,4)]:=⟨_,Tryz.underlying76,fun w=>by kernel_rfl⟩
instance:TyF Tryz.prog 76 0 0 3:=⟨_,_,Tryz.underlying76,rfl,rfl,rfl,bh (n:=1) (by kernel_rfl) (by decide)⟩
instance:TyF Tryz.prog 76 1 1 3:=⟨_,_,Tryz.underlying76,rfl,rfl,rfl,bh (n:=1) (by kernel_rfl) (by decide)⟩
instance:TyF Tryz.prog 76 2 2 74:=⟨_,_,Tryz.underlying76,rfl,rfl,rfl,bh (n:=4) (by kernel_rfl) (by decide)⟩
instance:TyN Tryz.prog 78 21:=⟨bD (by kernel_rfl)⟩
instance:TyAg Tryz.prog 78 21:=⟨fun w=>by kernel_rfl,bD (by kernel_rfl)⟩
theorem Tryz.z78:(Tryz.prog.info? 78).map (·.zero)=some (some (.agg #[.int .i64 0,.bool false,.bool false,.int .i64 0,.int .i64 0,.int .i64 0,.int .i64 0,.int .i64 0,.int .i64 0,.int .i64 0,.int .i64 0,.int .i64 0,.int .i64 0,.int .i64 0,.int .i64 0,.int .i64 0,.int .i64 0,.int .i64 0,.int .i64 0,.slice none 0 0,.int .i64 0])):=by kernel_rfl
instance:TyZ Tryz.prog 78 [.d false (.i .i64 0),.d false (.b false),.d false (.b false),.d false (.i .i64 0),.d false (.i .i64 0),.d false (.i .i64 0),.d false (.i .i64 0),.d false (.i .i64 0),.d false (.i .i64 0),.d false (.i .i64 0),.d false (.i .i64 0),.d false (.i .i64 0),.d false (.i .i64 0),.d false (.i .i64 0),.d false (.i .i64 0),.d false (.i .i64 0),.d false (.i .i64 0),.d false (.i .i64 0),.d false (.i .i64 0),.nil,.d false (.i .i64 0)]:=⟨by obtain⟨i,h1,h2⟩:=bE Tryz.z78;exact⟨i,_,h1,h2,rfl⟩⟩
instance:TyE Tryz.prog 78 [.i .i64 0,.b false,.b false,.i .i64 0,.i .i64 0,.i .i64 0,.i .i64 0,.i .i64 0,.i .i64 0,.i .i64 0,.i .i64 0,.i .i64 0,.i .i64 0,.i .i64 0,.i .i64 0,.i .i64 0,.i .i64 0,.i .i64 0,.i .i64 0,.l [],.i .i64 0]:=⟨by obtain⟨i,h1,h2⟩:=bE Tryz.z78;exact⟨i,_,h1,h2,rfl⟩⟩
instance:TyB Tryz.prog 78 [(0,1),(1,1),(2,1),(3,1),(4,11),(15,6)]:=⟨_,Tryz.underlying78,fun w=>by kernel_rfl⟩
instance:TyF Tryz.prog 78 0 0 3:=⟨_,_,Tryz.underlying78,rfl,rfl,rfl,bh (n:=1) (by kernel_rfl) (by decide)⟩
instance:TyF Tryz.prog 78 1 1 4:=⟨_,_,Tryz.underlying78,rfl,rfl,rfl,bh (n:=1) (by kernel_rfl) (by decide)⟩
instance:TyF Tryz.prog 78 2 2 4:=⟨_,_,Tryz.underlying78,rfl,rfl,rfl,bh (n:=1) (by kernel_rfl) (by decide)⟩
instance:TyF Tryz.prog 78 3 3 3:=⟨_,_,Tryz.underlying78,rfl,rfl,rfl,bh (n:=1) (by kernel_rfl) (by decide)⟩
instance:TyF Tryz.prog 78 4 4 72:=⟨_,_,Tryz.underlying78,rfl,rfl,rfl,bh (n:=11) (by kernel_rfl) (by decide)⟩
instance:TyF Tryz.prog 78 5 15 76:=⟨_,_,Tryz.underlying78,rfl,rfl,rfl,bh (n:=6) (by kernel_rfl) (by decide)⟩
instance:TyN Tryz.prog 80 25:=⟨bD (by kernel_rfl)⟩
instance:TyAg Tryz.prog 80 25:=⟨fun w=>by kernel_rfl,bD (by kernel_rfl)⟩
theorem Tryz.z80:(Tryz.prog.info? 80).map (·.zero)=some (some (.agg #[.int .i64 0,.int .i64 0,.int .i64 0,.slice none 0 0,.int .i64 0,.bool false,.bool false,.int .i64 0,.int .i64 0,.int .i64 0,.int .i64 0,.int .i64 0,.int .i64 0,.int .i64 0,.int .i64 0,.int .i64 0,.int .i64 0,.int .i64 0,.int .i64 0,.int .i64 0,.int .i64 0,.int .i64 0,.int .i64 0,.slice none 0 0,.int .i64 0])):=by kernel_rfl
instance:TyZ Tryz.prog 80 [.d false (.i .i64 0),.d false (.i .i64 0),.d false (.i .i64 0),.nil,.d false (.i .i64 0),.d false (.b false),.d false (.b false),.d false (.i .i64 0),.d false (.i .i64 0),.d false (.i .i64 0),.d false (.i .i64 0),.d false (.i .i64 0),.d false (.i .i64 0),.d false (.i .i64 0),.d false (.i .i64 0),.d false (.i .i64 0),.d false (.i .i64 0),.d false (.i .i64 0),.d false (.i .i64 0),.d false (.i .i64 0),.d false (.i .i64 0),.d false (.i .i64 0),.d false (.i .i64 0),.nil,.d false (.i .i64 0)]:=⟨by obtain⟨i,h1,h2⟩:=bE Tryz.z80;exact⟨i,_,h1,h2,rfl⟩⟩
instance:TyE Tryz.prog 80 [.i .i64 0,.i .i64 0,.i .i64 0,.l [],.i .i64 0,.b false,.b false,.i .i64 0,.i .i64 0,.i .i64 0,.i .i64 0,.i .i64 0,.i .i64 0,.i .i64 0,.i .i64 0,.i .i64 0,.i .i64 0,.i .i64 0,.i .i64 0,.i .i64 0,.i .i64 0,.i .i64 0,.i .i64 0,.l [],.i .i64 0]:=⟨by obtain⟨i,h1,h2⟩:=bE Tryz.z80;exact⟨i,_,h1,h2,rfl⟩⟩
instance:TyB Tryz.prog 80 [(0,1),(1,1),(2,1),(3,1),(4,21)]:=⟨_,Tryz.underlying80,fun w=>by kernel_rfl⟩
instance:TyF Tryz.prog 80 0 0 3:=⟨_,_,Tryz.underlying80,rfl,rfl,rfl,bh (n:=1) (by kernel_rfl) (by decide)⟩
instance:TyF Tryz.prog 80 1 1 3:=⟨_,_,Tryz.underlying80,rfl,rfl,rfl,bh (n:=1) (by kernel_rfl) (by decide)⟩
instance:TyF Tryz.prog 80 2 2 3:=⟨_,_,Tryz.underlying80,rfl,rfl,rfl,bh (n:=1) (by kernel_rfl) (by decide)⟩
instance:TyF Tryz.prog 80 3 3 22:=⟨_,_,Tryz.underlying80,rfl,rfl,rfl,bh (n:=1) (by kernel_rfl) (by decide)⟩
instance:TyF Tryz.prog 80 4 4 78:=⟨_,_,Tryz.underlying80,rfl,rfl,rfl,bh (n:=21) (by kernel_rfl) (by decide)⟩
instance:TyN Tryz.prog 91 1:=⟨bD (by kernel_rfl)⟩
instance:TySc Tryz.prog 91:=⟨fun w=>by kernel_rfl,bD (by kernel_rfl)⟩
theorem Tryz.z91:(Tryz.prog.info? 91).map (·.zero)=some (some (.slice none 0 0)):=by kernel_rfl
instance:TyZ Tryz.prog 91 [.nil]:=⟨by obtain⟨i,h1,h2⟩:=bE Tryz.z91;exact⟨i,_,h1,h2,rfl⟩⟩
instance:TyE Tryz.prog 91 [.l []]:=⟨by obtain⟨i,h1,h2⟩:=bE Tryz.z91;exact⟨i,_,h1,h2,rfl⟩⟩
instance:TySl Tryz.prog 91 107 2 32:=⟨Tryz.underlying91,jF (z:=.agg #[.int .i64 0,.slice none 0 0]) (by kernel_rfl) rfl,by decide⟩
instance:TyN Tryz.prog 97 1:=⟨bD (by kernel_rfl)⟩
instance:TyAg Tryz.prog 97 1:=⟨fun w=>by kernel_rfl,bD (by kernel_rfl)⟩
theorem Tryz.z97:(Tryz.prog.info? 97).map (·.zero)=some (some (.agg #[.slice none 0 0])):=by kernel_rfl
instance:TyZ Tryz.prog 97 [.nil]:=⟨by obtain⟨i,h1,h2⟩:=bE Tryz.z97;exact⟨i,_,h1,h2,rfl⟩⟩
instance:TyE Tryz.prog 97 [.l []]:=⟨by obtain⟨i,h1,h2⟩:=bE Tryz.z97;exact⟨i,_,h1,h2,rfl⟩⟩
instance:TyB Tryz.prog 97 [(0,1)]:=⟨_,Tryz.underlying97,fun w=>by kernel_rfl⟩
instance:TyF Tryz.prog 97 0 0 48:=⟨_,_,Tryz.underlying97,rfl,rfl,rfl,bh (n:=1) (by kernel_rfl) (by decide)⟩
instance:TyN Tryz.prog 104 1:=⟨bD (by kernel_rfl)⟩
instance:TyAg Tryz.prog 104 1:=⟨fun w=>by kernel_rfl,bD (by kernel_rfl)⟩
theorem Tryz.z104:(Tryz.prog.info? 104).map (·.zero)=some (some (.agg #[.slice none 0 0])):=by kernel_rfl
instance:TyZ Tryz.prog 104 [.nil]:=⟨by obtain⟨i,h1,h2⟩:=bE Tryz.z104;exact⟨i,_,h1,h2,rfl⟩⟩
instance:TyE Tryz.prog 104 [.l []]:=⟨by obtain⟨i,h1,h2⟩:=bE Tryz.z104;exact⟨i,_,h1,h2,rfl⟩⟩
instance:TyB Tryz.prog 104 [(0,1)]:=⟨_,Tryz.underlying104,fun w=>by kernel_rfl⟩
instance:TyF Tryz.prog 104 0 0 22:=⟨_,_,Tryz.underlying104,rfl,rfl,rfl,bh (n:=1) (by kernel_rfl) (by decide)⟩
instance:TyN Tryz.prog 107 2:=⟨bD (by kernel_rfl)⟩
instance:TyAg Tryz.prog 107 2:=⟨fun w=>by kernel_rfl,bD (by kernel_rfl)⟩
theorem Tryz.z107:(Tryz.prog.info? 107).map (·.zero)=some (some (.agg #[.int .i64 0,.slice none 0 0])):=by kernel_rfl
instance:TyZ Tryz.prog 107 [.d false (.i .i64 0),.nil]:=⟨by obtain⟨i,h1,h2⟩:=bE Tryz.z107;exact⟨i,_,h1,h2,rfl⟩⟩
instance:TyE Tryz.prog 107 [.i .i64 0,.l []]:=⟨by obtain⟨i,h1,h2⟩:=bE Tryz.z107;exact⟨i,_,h1,h2,rfl⟩⟩
instance:TyB Tryz.prog 107 [(0,1),(1,1)]:=⟨_,Tryz.underlying107,fun w=>by kernel_rfl⟩
instance:TyF Tryz.prog 107 0 0 3:=⟨_,_,Tryz.underlying107,rfl,rfl,rfl,bh (n:=1) (by kernel_rfl) (by decide)⟩
instance:TyF Tryz.prog 107 1 1 97:=⟨_,_,Tryz.underlying107,rfl,rfl,rfl,bh (n:=1) (by kernel_rfl) (by decide)⟩
instance:TyN Tryz.prog 136 2:=⟨bD (by kernel_rfl)⟩
instance:TyAg Tryz.prog 136 2:=⟨fun w=>by kernel_rfl,bD (by kernel_rfl)⟩
theorem Tryz.z136:(Tryz.prog.info? 136).map (·.zero)=some (some (.agg #[.int .i64 0,.slice none 0 0])):=by kernel_rfl
instance:TyZ Tryz.prog 136 [.d false (.i .i64 0),.nil]:=⟨by obtain⟨i,h1,h2⟩:=bE Tryz.z136;exact⟨i,_,h1,h2,rfl⟩⟩
instance:TyE Tryz.prog 136 [.i .i64 0,.l []]:=⟨by obtain⟨i,h1,h2⟩:=bE Tryz.z136;exact⟨i,_,h1,h2,rfl⟩⟩
instance:TyB Tryz.prog 136 [(0,1),(1,1)]:=⟨_,Tryz.underlying136,fun w=>by kernel_rfl⟩
instance:TyF Tryz.prog 136 0 0 3:=⟨_,_,Tryz.underlying136,rfl,rfl,rfl,bh (n:=1) (by kernel_rfl) (by decide)⟩
instance:TyF Tryz.prog 136 1 1 22:=⟨_,_,Tryz.underlying136,rfl,rfl,rfl,bh (n:=1) (by kernel_rfl) (by decide)⟩
instance:TyN Tryz.prog 143 3:=⟨bD (by kernel_rfl)⟩
instance:TyAg Tryz.prog 143 3:=⟨fun w=>by kernel_rfl,bD (by kernel_rfl)⟩
theorem Tryz.z143:(Tryz.prog.info? 143).map (·.zero)=some (some (.agg #[.slice none 0 0,.int .i64 0,.int .i64 0])):=by kernel_rfl
instance:TyZ Tryz.prog 143 [.nil,.d false (.i .i64 0),.d false (.i .i64 0)]:=⟨by obtain⟨i,h1,h2⟩:=bE Tryz.z143;exact⟨i,_,h1,h2,rfl⟩⟩
instance:TyE Tryz.prog 143 [.l [],.i .i64 0,.i .i64 0]:=⟨by obtain⟨i,h1,h2⟩:=bE Tryz.z143;exact⟨i,_,h1,h2,rfl⟩⟩
instance:TyB Tryz.prog 143 [(0,1),(1,1),(2,1)]:=⟨_,Tryz.underlying143,fun w=>by kernel_rfl⟩
instance:TyF Tryz.prog 143 0 0 22:=⟨_,_,Tryz.underlying143,rfl,rfl,rfl,bh (n:=1) (by kernel_rfl) (by decide)⟩
instance:TyF Tryz.prog 143 1 1 3:=⟨_,_,Tryz.underlying143,rfl,rfl,rfl,bh (n:=1) (by kernel_rfl) (by decide)⟩
instance:TyF Tryz.prog 143 2 2 3:=⟨_,_,Tryz.underlying143,rfl,rfl,rfl,bh (n:=1) (by kernel_rfl) (by decide)⟩
instance:TyN Tryz.prog 144 1:=⟨bD (by kernel_rfl)⟩
instance:TySc Tryz.prog 144:=⟨fun w=>by kernel_rfl,bD (by kernel_rfl)⟩
theorem Tryz.z144:(Tryz.prog.info? 144).map (·.zero)=some (some (.slice none 0 0)):=by kernel_rfl
instance:TyZ Tryz.prog 144 [.nil]:=⟨by obtain⟨i,h1,h2⟩:=bE Tryz.z144;exact⟨i,_,h1,h2,rfl⟩⟩
instance:TyE Tryz.prog 144 [.l []]:=⟨by obtain⟨i,h1,h2⟩:=bE Tryz.z144;exact⟨i,_,h1,h2,rfl⟩⟩
instance:TySl Tryz.prog 144 80 25 224:=⟨Tryz.underlying144,jF (z:=.agg #[.int .i64 0,.int .i64 0,.int .i64 0,.slice none 0 0,.int .i64 0,.bool false,.bool false,.int .i64 0,.int .i64 0,.int .i64 0,.int .i64 0,.int .i64 0,.int .i64 0,.int .i64 0,.int .i64 0,.int .i64 0,.int .i64 0,.int .i64 0,.int .i64 0,.int .i64 0,.int .i64 0,.int .i64 0,.int .i64 0,.slice none 0 0,.int .i64 0]) (by kernel_rfl) rfl,by decide⟩
instance:TyN Tryz.prog 157 2:=⟨bD (by kernel_rfl)⟩
instance:TyAg Tryz.prog 157 2:=⟨fun w=>by kernel_rfl,bD (by kernel_rfl)⟩
theorem Tryz.z157:(Tryz.prog.info? 157).map (·.zero)=some (some (.agg #[.int .i64 0,.slice none 0 0])):=by kernel_rfl
instance:TyZ Tryz.prog 157 [.d false (.i .i64 0),.nil]:=⟨by obtain⟨i,h1,h2⟩:=bE Tryz.z157;exact⟨i,_,h1,h2,rfl⟩⟩
instance:TyE Tryz.prog 157 [.i .i64 0,.l []]:=⟨by obtain⟨i,h1,h2⟩:=bE Tryz.z157;exact⟨i,_,h1,h2,rfl⟩⟩
instance:TyB Tryz.prog 157 [(0,1),(1,1)]:=⟨_,Tryz.underlying157,fun w=>by kernel_rfl⟩
instance:TyF Tryz.prog 157 0 0 3:=⟨_,_,Tryz.underlying157,rfl,rfl,rfl,bh (n:=1) (by kernel_rfl) (by decide)⟩
instance:TyF Tryz.prog 157 1 1 48:=⟨_,_,Tryz.underlying157,rfl,rfl,rfl,bh (n:=1) (by kernel_rfl) (by decide)⟩
instance:TyN Tryz.prog 161 2:=⟨bD (by kernel_rfl)⟩
instance:TyAg Tryz.prog 161 2:=⟨fun w=>by kernel_rfl,bD (by kernel_rfl)⟩
theorem Tryz.z161:(Tryz.prog.info? 161).map (·.zero)=some (some (.agg #[.int .i64 0,.int .i64 0])):=by kernel_rfl
instance:TyZ Tryz.prog 161 [.d false (.i .i64 0),.d false (.i .i64 0)]:=⟨by obtain⟨i,h1,h2⟩:=bE Tryz.z161;exact⟨i,_,h1,h2,rfl⟩⟩
instance:TyE Tryz.prog 161 [.i .i64 0,.i .i64 0]:=⟨by obtain⟨i,h1,h2⟩:=bE Tryz.z161;exact⟨i,_,h1,h2,rfl⟩⟩
instance:TyB Tryz.prog 161 [(0,1),(1,1)]:=⟨_,Tryz.underlying161,fun w=>by kernel_rfl⟩
instance:TyF Tryz.prog 161 0 0 3:=⟨_,_,Tryz.underlying161,rfl,rfl,rfl,bh (n:=1) (by kernel_rfl) (by decide)⟩
instance:TyF Tryz.prog 161 1 1 3:=⟨_,_,Tryz.underlying161,rfl,rfl,rfl,bh (n:=1) (by kernel_rfl) (by decide)⟩
instance:TyN Tryz.prog 175 1:=⟨bD (by kernel_rfl)⟩
instance:TySc Tryz.prog 175:=⟨fun w=>by kernel_rfl,bD (by kernel_rfl)⟩
theorem Tryz.z175:(Tryz.prog.info? 175).map (·.zero)=some (some (.slice none 0 0)):=by kernel_rfl
instance:TyZ Tryz.prog 175 [.nil]:=⟨by obtain⟨i,h1,h2⟩:=bE Tryz.z175;exact⟨i,_,h1,h2,rfl⟩⟩
instance:TyE Tryz.prog 175 [.l []]:=⟨by obtain⟨i,h1,h2⟩:=bE Tryz.z175;exact⟨i,_,h1,h2,rfl⟩⟩
instance:TySl Tryz.prog 175 47 4 32:=⟨Tryz.underlying175,jF (z:=.agg #[.int .i64 0,.int .i64 0,.int .i64 0,.int .i64 0]) (by kernel_rfl) rfl,by decide⟩
instance:TyN Tryz.prog 181 1:=⟨bD (by kernel_rfl)⟩
instance:TySc Tryz.prog 181:=⟨fun w=>by kernel_rfl,bD (by kernel_rfl)⟩
theorem Tryz.z181:(Tryz.prog.info? 181).map (·.zero)=some (some (.slice none 0 0)):=by kernel_rfl
instance:TyZ Tryz.prog 181 [.nil]:=⟨by obtain⟨i,h1,h2⟩:=bE Tryz.z181;exact⟨i,_,h1,h2,rfl⟩⟩
instance:TyE Tryz.prog 181 [.l []]:=⟨by obtain⟨i,h1,h2⟩:=bE Tryz.z181;exact⟨i,_,h1,h2,rfl⟩⟩
instance:TySl Tryz.prog 181 72 11 88:=⟨Tryz.underlying181,jF (z:=.agg #[.int .i64 0,.int .i64 0,.int .i64 0,.int .i64 0,.int .i64 0,.int .i64 0,.int .i64 0,.int .i64 0,.int .i64 0,.int .i64 0,.int .i64 0]) (by kernel_rfl) rfl,by decide⟩
instance:TyN Tryz.prog 183 15:=⟨bD (by kernel_rfl)⟩
instance:TyAg Tryz.prog 183 15:=⟨fun w=>by kernel_rfl,bD (by kernel_rfl)⟩
theorem Tryz.z183:(Tryz.prog.info? 183).map (·.zero)=some (some (.agg #[.int .i64 0,.int .i64 0,.int .i64 0,.int .i64 0,.int .i64 0,.int .i64 0,.int .i64 0,.int .i64 0,.int .i64 0,.bool false,.int .i64 0,.int .i64 0,.slice none 0 0,.slice none 0 0,.slice none 0 0])):=by kernel_rfl
instance:TyZ Tryz.prog 183 [.d false (.i .i64 0),.d false (.i .i64 0),.d false (.i .i64 0),.d false (.i .i64 0),.d false (.i .i64 0),.d false (.i .i64 0),.d false (.i .i64 0),.d false (.i .i64 0),.d false (.i .i64 0),.d false (.b false),.d false (.i .i64 0),.d false (.i .i64 0),.nil,.nil,.nil]:=⟨by obtain⟨i,h1,h2⟩:=bE Tryz.z183;exact⟨i,_,h1,h2,rfl⟩⟩
instance:TyE Tryz.prog 183 [.i .i64 0,.i .i64 0,.i .i64 0,.i .i64 0,.i .i64 0,.i .i64 0,.i .i64 0,.i .i64 0,.i .i64 0,.b false,.i .i64 0,.i .i64 0,.l [],.l [],.l []]:=⟨by obtain⟨i,h1,h2⟩:=bE Tryz.z183;exact⟨i,_,h1,h2,rfl⟩⟩
instance:TyB Tryz.prog 183 [(0,14),(14,1)]:=⟨_,Tryz.underlying183,fun w=>by kernel_rfl⟩
instance:TyF Tryz.prog 183 0 0 45:=⟨_,_,Tryz.underlying183,rfl,rfl,rfl,bh (n:=14) (by kernel_rfl) (by decide)⟩
instance:TyF Tryz.prog 183 1 14 181:=⟨_,_,Tryz.underlying183,rfl,rfl,rfl,bh (n:=1) (by kernel_rfl) (by decide)⟩
instance:TyN Tryz.prog 188 1:=⟨bD (by kernel_rfl)⟩
instance:TySc Tryz.prog 188:=⟨fun w=>by kernel_rfl,bD (by kernel_rfl)⟩
theorem Tryz.z188:(Tryz.prog.info? 188).map (·.zero)=some (some (.slice none 0 0)):=by kernel_rfl
instance:TyZ Tryz.prog 188 [.nil]:=⟨by obtain⟨i,h1,h2⟩:=bE Tryz.z188;exact⟨i,_,h1,h2,rfl⟩⟩
instance:TyE Tryz.prog 188 [.l []]:=⟨by obtain⟨i,h1,h2⟩:=bE Tryz.z188;exact⟨i,_,h1,h2,rfl⟩⟩
instance:TySl Tryz.prog 188 76 6 64:=⟨Tryz.underlying188,jF (z:=.agg #[.int .i64 0,.int .i64 0,.int .i64 0,.int .i64 0,.slice none 0 0,.int .i64 0]) (by kernel_rfl) rfl,by decide⟩
instance:TyN Tryz.prog 190 36:=⟨bD (by kernel_rfl)⟩
instance:TyAg Tryz.prog 190 36:=⟨fun w=>by kernel_rfl,bD (by kernel_rfl)⟩
theorem Tryz.z190:(Tryz.prog.info? 190).map (·.zero)=some (some (.agg #[.int .i64 0,.int .i64 0,.int .i64 0,.int .i64 0,.int .i64 0,.int .i64 0,.int .i64 0,.slice none 0 0,.int .i64 0,.int .i64 0,.int .i64 0,.int .i64 0,.int .i64 0,.int .i64 0,.int .i64 0,.int .i64 0,.int .i64 0,.int .i64 0,.int .i64 0,.int .i64 0,.int .i64 0,.int .i64 0,.int .i64 0,.slice none 0 0,.int .i64 0,.slice none 0 0,.int .i64 0,.int .i64 0,.int .i64 0,.int .i64 0,.int .i64 0,.int .i64 0,.int .i64 0,.slice none 0 0,.slice none 0 0,.slice none 0 0])):=by kernel_rfl
instance:TyZ Tryz.prog 190 [.d false (.i .i64 0),.d false (.i .i64 0),.d false (.i .i64 0),.d false (.i .i64 0),.d false (.i .i64 0),.d false (.i .i64 0),.d false (.i .i64 0),.nil,.d false (.i .i64 0),.d false (.i .i64 0),.d false (.i .i64 0),.d false (.i .i64 0),.d false (.i .i64 0),.d false (.i .i64 0),.d false (.i .i64 0),.d false (.i .i64 0),.d false (.i .i64 0),.d false (.i .i64 0),.d false (.i .i64 0),.d false (.i .i64 0),.d false (.i .i64 0),.d false (.i .i64 0),.d false (.i .i64 0),.nil,.d false (.i .i64 0),.nil,.d false (.i .i64 0),.d false (.i .i64 0),.d false (.i .i64 0),.d false (.i .i64 0),.d false (.i .i64 0),.d false (.i .i64 0),.d false (.i .i64 0),.nil,.nil,.nil]:=⟨by obtain⟨i,h1,h2⟩:=bE Tryz.z190;exact⟨i,_,h1,h2,rfl⟩⟩
instance:TyE Tryz.prog 190 [.i .i64 0,.i .i64 0,.i .i64 0,.i .i64 0,.i .i64 0,.i .i64 0,.i .i64 0,.l [],.i .i64 0,.i .i64 0,.i .i64 0,.i .i64 0,.i .i64 0,.i .i64 0,.i .i64 0,.i .i64 0,.i .i64 0,.i .i64 0,.i .i64 0,.i .i64 0,.i .i64 0,.i .i64 0,.i .i64 0,.l [],.i .i64 0,.l [],.i .i64 0,.i .i64 0,.i .i64 0,.i .i64 0,.i .i64 0,.i .i64 0,.i .i64 0,.l [],.l [],.l []]:=⟨by obtain⟨i,h1,h2⟩:=bE Tryz.z190;exact⟨i,_,h1,h2,rfl⟩⟩
instance:TyB Tryz.prog 190 [(0,30),(30,4),(34,1),(35,1)]:=⟨_,Tryz.underlying190,fun w=>by kernel_rfl⟩
instance:TyF Tryz.prog 190 0 0 60:=⟨_,_,Tryz.underlying190,rfl,rfl,rfl,bh (n:=30) (by kernel_rfl) (by decide)⟩
instance:TyF Tryz.prog 190 1 30 66:=⟨_,_,Tryz.underlying190,rfl,rfl,rfl,bh (n:=4) (by kernel_rfl) (by decide)⟩
instance:TyF Tryz.prog 190 2 34 181:=⟨_,_,Tryz.underlying190,rfl,rfl,rfl,bh (n:=1) (by kernel_rfl) (by decide)⟩
instance:TyF Tryz.prog 190 3 35 188:=⟨_,_,Tryz.underlying190,rfl,rfl,rfl,bh (n:=1) (by kernel_rfl) (by decide)⟩
instance:TyN Tryz.prog 236 31:=⟨bD (by kernel_rfl)⟩
instance:TyAg Tryz.prog 236 31:=⟨fun w=>by kernel_rfl,bD (by kernel_rfl)⟩
theorem Tryz.z236:(Tryz.prog.info? 236).map (·.zero)=some (some (.agg #[.int .i64 0,.int .i64 0,.int .i64 0,.int .i64 0,.int .i64 0,.int .i64 0,.int .i64 0,.slice none 0 0,.int .i64 0,.int .i64 0,.int .i64 0,.int .i64 0,.int .i64 0,.int .i64 0,.int .i64 0,.int .i64 0,.int .i64 0,.int .i64 0,.int .i64 0,.int .i64 0,.int .i64 0,.int .i64 0,.int .i64 0,.slice none 0 0,.int .i64 0,.slice none 0 0,.int .i64 0,.int .i64 0,.int .i64 0,.int .i64 0,.slice none 0 0])):=by kernel_rfl
instance:TyZ Tryz.prog 236 [.d false (.i .i64 0),.d false (.i .i64 0),.d false (.i .i64 0),.d false (.i .i64 0),.d false (.i .i64 0),.d false (.i .i64 0),.d false (.i .i64 0),.nil,.d false (.i .i64 0),.d false (.i .i64 0),.d false (.i .i64 0),.d false (.i .i64 0),.d false (.i .i64 0),.d false (.i .i64 0),.d false (.i .i64 0),.d false (.i .i64 0),.d false (.i .i64 0),.d false (.i .i64 0),.d false (.i .i64 0),.d false (.i .i64 0),.d false (.i .i64 0),.d false (.i .i64 0),.d false (.i .i64 0),.nil,.d false (.i .i64 0),.nil,.d false (.i .i64 0),.d false (.i .i64 0),.d false (.i .i64 0),.d false (.i .i64 0),.nil]:=⟨by obtain⟨i,h1,h2⟩:=bE Tryz.z236;exact⟨i,_,h1,h2,rfl⟩⟩
instance:TyE Tryz.prog 236 [.i .i64 0,.i .i64 0,.i .i64 0,.i .i64 0,.i .i64 0,.i .i64 0,.i .i64 0,.l [],.i .i64 0,.i .i64 0,.i .i64 0,.i .i64 0,.i .i64 0,.i .i64 0,.i .i64 0,.i .i64 0,.i .i64 0,.i .i64 0,.i .i64 0,.i .i64 0,.i .i64 0,.i .i64 0,.i .i64 0,.l [],.i .i64 0,.l [],.i .i64 0,.i .i64 0,.i .i64 0,.i .i64 0,.l []]:=⟨by obtain⟨i,h1,h2⟩:=bE Tryz.z236;exact⟨i,_,h1,h2,rfl⟩⟩
instance:TyB Tryz.prog 236 [(0,30),(30,1)]:=⟨_,Tryz.underlying236,fun w=>by kernel_rfl⟩
instance:TyF Tryz.prog 236 0 0 60:=⟨_,_,Tryz.underlying236,rfl,rfl,rfl,bh (n:=30) (by kernel_rfl) (by decide)⟩
instance:TyF Tryz.prog 236 1 30 181:=⟨_,_,Tryz.underlying236,rfl,rfl,rfl,bh (n:=1) (by kernel_rfl) (by decide)⟩
instance:TyN Tryz.prog 285 4:=⟨bD (by kernel_rfl)⟩
instance:TyAg Tryz.prog 285 4:=⟨fun w=>by kernel_rfl,bD (by kernel_rfl)⟩
theorem Tryz.z285:(Tryz.prog.info? 285).map (·.zero)=some (some (.agg #[.int .i64 0,.int .i64 0,.int .i64 0,.int .i64 0])):=by kernel_rfl
instance:TyZ Tryz.prog 285 [.d false (.i .i64 0),.d false (.i .i64 0),.d false (.i .i64 0),.d false (.i .i64 0)]:=⟨by obtain⟨i,h1,h2⟩:=bE Tryz.z285;exact⟨i,_,h1,h2,rfl⟩⟩
instance:TyE Tryz.prog 285 [.i .i64 0,.i .i64 0,.i .i64 0,.i .i64 0]:=⟨by obtain⟨i,h1,h2⟩:=bE Tryz.z285;exact⟨i,_,h1,h2,rfl⟩⟩
instance:TyB Tryz.prog 285 [(0,1),(1,1),(2,1),(3,1)]:=⟨_,Tryz.underlying285,fun w=>by kernel_rfl⟩
instance:TyF Tryz.prog 285 0 0 3:=⟨_,_,Tryz.underlying285,rfl,rfl,rfl,bh (n:=1) (by kernel_rfl) (by decide)⟩
instance:TyF Tryz.prog 285 1 1 3:=⟨_,_,Tryz.underlying285,rfl,rfl,rfl,bh (n:=1) (by kernel_rfl) (by decide)⟩
instance:TyF Tryz.prog 285 2 2 3:=⟨_,_,Tryz.underlying285,rfl,rfl,rfl,bh (n:=1) (by kernel_rfl) (by decide)⟩
instance:TyF Tryz.prog 285 3 3 3:=⟨_,_,Tryz.underlying285,rfl,rfl,rfl,bh (n:=1) (by kernel_rfl) (by decide)⟩
theorem Tryz.sh5:rf Tryz.prog 5 [.i .u8]:=.int Tryz.underlying5
theorem Tryz.sh22:rf Tryz.prog 22 [.l [.i .u8]]:=.slice Tryz.underlying22 Tryz.sh5 (by kernel_rfl) (by decide)
theorem Tryz.eqa32:EqA Tryz.prog 2 32 [.i .i64,.i .i64]:=gh (k:=1) Tryz.underlying32 (by kernel_rfl) (fJ rfl (by decide) inferInstance (dM Tryz.underlying3) (fJ rfl (by decide) inferInstance (dM Tryz.underlying3) (lF)))
instance:TyEq Tryz.prog 32 [.i .i64,.i .i64]:=⟨⟨2,by decide,Tryz.eqa32⟩,by kernel_rfl⟩
theorem Tryz.eqa41:EqA Tryz.prog 2 41 [.i .i64,.i .i64]:=gh (k:=1) Tryz.underlying41 (by kernel_rfl) (fJ rfl (by decide) inferInstance (dM Tryz.underlying3) (fJ rfl (by decide) inferInstance (dM Tryz.underlying3) (lF)))
instance:TyEq Tryz.prog 41 [.i .i64,.i .i64]:=⟨⟨2,by decide,Tryz.eqa41⟩,by kernel_rfl⟩
theorem Tryz.eqa43:EqA Tryz.prog 3 43 [.i .i64,.i .i64,.i .i64,.i .i64]:=gh (k:=2) Tryz.underlying43 (by kernel_rfl) (LT (n:=2) (s1:=[.i .i64,.i .i64]) rfl (by decide) inferInstance rfl (by decide) Tryz.eqa41 (fJ rfl (by decide) inferInstance (dM Tryz.underlying3) (fJ rfl (by decide) inferInstance (dM Tryz.underlying3) (lF))))
instance:TyEq Tryz.prog 43 [.i .i64,.i .i64,.i .i64,.i .i64]:=⟨⟨3,by decide,Tryz.eqa43⟩,by kernel_rfl⟩
theorem Tryz.eqa47:EqA Tryz.prog 3 47 [.i .i64,.i .i64,.i .i64,.i .i64]:=gh (k:=2) Tryz.underlying47 (by kernel_rfl) (LT (n:=2) (s1:=[.i .i64,.i .i64]) rfl (by decide) inferInstance rfl (by decide) Tryz.eqa41 (fJ rfl (by decide) inferInstance (dM Tryz.underlying3) (fJ rfl (by decide) inferInstance (dM Tryz.underlying3) (lF))))
instance:TyEq Tryz.prog 47 [.i .i64,.i .i64,.i .i64,.i .i64]:=⟨⟨3,by decide,Tryz.eqa47⟩,by kernel_rfl⟩
theorem Tryz.eqa52:EqA Tryz.prog 2 52 [.i .i64,.i .i64,.i .i64,.i .i64,.i .i64]:=gh (k:=1) Tryz.underlying52 (by kernel_rfl) (fJ rfl (by decide) inferInstance (dM Tryz.underlying3) (fJ rfl (by decide) inferInstance (dM Tryz.underlying3) (fJ rfl (by decide) inferInstance (dM Tryz.underlying3) (fJ rfl (by decide) inferInstance (dM Tryz.underlying3) (fJ rfl (by decide) inferInstance (dM Tryz.underlying3) (lF))))))
instance:TyEq Tryz.prog 52 [.i .i64,.i .i64,.i .i64,.i .i64,.i .i64]:=⟨⟨2,by decide,Tryz.eqa52⟩,by kernel_rfl⟩
theorem Tryz.eqa54:EqA Tryz.prog 2 54 [.i .i64,.i .i64,.i .i64]:=gh (k:=1) Tryz.underlying54 (by kernel_rfl) (fJ rfl (by decide) inferInstance (dM Tryz.underlying3) (fJ rfl (by decide) inferInstance (dM Tryz.underlying3) (fJ rfl (by decide) inferInstance (dM Tryz.underlying3) (lF))))
instance:TyEq Tryz.prog 54 [.i .i64,.i .i64,.i .i64]:=⟨⟨2,by decide,Tryz.eqa54⟩,by kernel_rfl⟩
theorem Tryz.eqa58:EqA Tryz.prog 2 58 [.i .i64,.i .i64,.i .i64]:=gh (k:=1) Tryz.underlying58 (by kernel_rfl) (fJ rfl (by decide) inferInstance (dM Tryz.underlying3) (fJ rfl (by decide) inferInstance (dM Tryz.underlying3) (fJ rfl (by decide) inferInstance (dM Tryz.underlying3) (lF))))
instance:TyEq Tryz.prog 58 [.i .i64,.i .i64,.i .i64]:=⟨⟨2,by decide,Tryz.eqa58⟩,by kernel_rfl⟩
theorem Tryz.eqa72:EqA Tryz.prog 3 72 [.i .i64,.i .i64,.i .i64,.i .i64,.i .i64,.i .i64,.i .i64,.i .i64,.i .i64,.i .i64,.i .i64]:=gh (k:=2) Tryz.underlying72 (by kernel_rfl) (fJ rfl (by decide) inferInstance (dM Tryz.underlying3) (fJ rfl (by decide) inferInstance (dM Tryz.underlying3) (fJ rfl (by decide) inferInstance (dM Tryz.underlying3) (fJ rfl (by decide) inferInstance (dM Tryz.underlying3) (fJ rfl (by decide) inferInstance (dM Tryz.underlying3) (LT (n:=5) (s1:=[.i .i64,.i .i64,.i .i64,.i .i64,.i .i64]) rfl (by decide) inferInstance rfl (by decide) Tryz.eqa52 (fJ rfl (by decide) inferInstance (dM Tryz.underlying3) (lF))))))))
instance:TyEq Tryz.prog 72 [.i .i64,.i .i64,.i .i64,.i .i64,.i .i64,.i .i64,.i .i64,.i .i64,.i .i64,.i .i64,.i .i64]:=⟨⟨3,by decide,Tryz.eqa72⟩,by kernel_rfl⟩
theorem Tryz.eqa161:EqA Tryz.prog 2 161 [.i .i64,.i .i64]:=gh (k:=1) Tryz.underlying161 (by kernel_rfl) (fJ rfl (by decide) inferInstance (dM Tryz.underlying3) (fJ rfl (by decide) inferInstance (dM Tryz.underlying3) (lF)))
instance:TyEq Tryz.prog 161 [.i .i64,.i .i64]:=⟨⟨2,by decide,Tryz.eqa161⟩,by kernel_rfl⟩
theorem Tryz.eqa285:EqA Tryz.prog 2 285 [.i .i64,.i .i64,.i .i64,.i .i64]:=gh (k:=1) Tryz.underlying285 (by kernel_rfl) (fJ rfl (by decide) inferInstance (dM Tryz.underlying3) (fJ rfl (by decide) inferInstance (dM Tryz.underlying3) (fJ rfl (by decide) inferInstance (dM Tryz.underlying3) (fJ rfl (by decide) inferInstance (dM Tryz.underlying3) (lF)))))
instance:TyEq Tryz.prog 285 [.i .i64,.i .i64,.i .i64,.i .i64]:=⟨⟨2,by decide,Tryz.eqa285⟩,by kernel_rfl⟩
theorem Tryz.follows:Tryz.prog.follows .mixedOrders=true:=by kernel_rfl
structure fc where
 fT:Int
 cT:List Int
 deriving DecidableEq,Inhabited
def dP (a:fc):List D:=[.i .i64 a.fT,.l (a.cT.map eI)]
def LW (a:fc):List F:=[.s (.i .i64 a.fT),.l 3 1 (a.cT.map eI) a.cT.length]
structure aK where
 aX:List fc
 deriving DecidableEq,Inhabited
def lf (a:aK):List D:=[.l (a.aX.map dP)]
def KX:aK:=⟨[]⟩
structure bN where
 fH:Int
 fj:Int
 deriving DecidableEq,Inhabited
def mQ (a:bN):List D:=[.i .i64 a.fH,.i .i64 a.fj]
def dU (a:bN):List F:=[.s (.i .i64 a.fH),.s (.i .i64 a.fj)]
def ra:bN:=⟨0,0⟩
structure dy where
 dL:Int
 bM:Int
 deriving DecidableEq,Inhabited
def rV (a:dy):List D:=[.i .i64 a.dL,.i .i64 a.bM]
def ti:dy:=⟨0,0⟩
structure mL where
 ID:dy
 eP:Int
 dw:Int
 deriving DecidableEq,Inhabited
def GS (a:mL):List D:=[.i .i64 a.ID.dL,.i .i64 a.ID.bM,.i .i64 a.eP,.i .i64 a.dw]
def GW (a:mL):List F:=[.s (.i .i64 a.ID.dL),.s (.i .i64 a.ID.bM),.s (.i .i64 a.eP),.s (.i .i64 a.dw)]
def Oa:mL:=⟨ti,0,0⟩
structure ae where
 cO:Int
 aN:List Int
 deriving DecidableEq,Inhabited
def aE (a:ae):List D:=[.i .i64 a.cO,.l (a.aN.map eU8)]
def ec (a:ae):List F:=[.s (.i .i64 a.cO),.l 5 1 (a.aN.map eU8) a.aN.length]
def gM:ae:=⟨0,[]⟩
structure bw where
 aN:List Int
 deriving DecidableEq,Inhabited
def cj (a:bw):List D:=[.l (a.aN.map eU8)]
structure aM where
 bj:Int
 aD:List ae
 aG:List bw
 deriving DecidableEq,Inhabited
def mx (a:aM):List D:=[.i .i64 a.bj,.l (a.aD.map aE),.l (a.aG.map cj)]
def cf (a:aM):List F:=[.s (.i .i64 a.bj),.l 136 2 (a.aD.map aE) a.aD.length,.l 104 1 (a.aG.map cj) a.aG.length]
def dm:aM:=⟨0,[],[]⟩
structure ay where
 dq:mL
 bg:Int
 aU:Int
 aa:Int
 aJ:Int
 aR:Int
 de:Bool
 fU:Int
 bi:aM
 deriving DecidableEq,Inhabited
def c7 (a:ay):List D:=[.i .i64 a.dq.ID.dL,.i .i64 a.dq.ID.bM,.i .i64 a.dq.eP,.i .i64 a.dq.dw,.i .i64 a.bg,.i .i64 a.aU,.i .i64 a.aa,.i .i64 a.aJ,.i .i64 a.aR,.b a.de,.i .i64 a.fU,.i .i64 a.bi.bj,.l (a.bi.aD.map aE),.l (a.bi.aG.map cj)]
def df (a:ay):List F:=[.s (.i .i64 a.dq.ID.dL),.s (.i .i64 a.dq.ID.bM),.s (.i .i64 a.dq.eP),.s (.i .i64 a.dq.dw),.s (.i .i64 a.bg),.s (.i .i64 a.aU),.s (.i .i64 a.aa),.s (.i .i64 a.aJ),.s (.i .i64 a.aR),.s (.b a.de),.s (.i .i64 a.fU),.s (.i .i64 a.bi.bj),.l 136 2 (a.bi.aD.map aE) a.bi.aD.length,.l 104 1 (a.bi.aG.map cj) a.bi.aG.length]
def A2:ay:=⟨Oa,0,0,0,0,0,false,0,dm⟩
structure aC where
 ID:dy
 eP:Int
 cO:Int
 deriving DecidableEq,Inhabited
def cm (a:aC):List D:=[.i .i64 a.ID.dL,.i .i64 a.ID.bM,.i .i64 a.eP,.i .i64 a.cO]
def jE (a:aC):List F:=[.s (.i .i64 a.ID.dL),.s (.i .i64 a.ID.bM),.s (.i .i64 a.eP),.s (.i .i64 a.cO)]
def oC:aC:=⟨ti,0,0⟩
structure bA where
 iM:Int
 iL:Int
 ei:Int
 bF:List Int
 deriving DecidableEq,Inhabited
def nN (a:bA):List D:=[.i .i64 a.iM,.i .i64 a.iL,.i .i64 a.ei,.l (a.bF.map eI)]
def dE (a:bA):List F:=[.s (.i .i64 a.iM),.s (.i .i64 a.iL),.s (.i .i64 a.ei),.l 3 1 (a.bF.map eI) a.bF.length]
def lb:bA:=⟨0,0,0,[]⟩
structure cH where
 eJ:Int
 gx:Int
 im:Int
 ug:Int
 eP:Int
 deriving DecidableEq,Inhabited
def qA (a:cH):List D:=[.i .i64 a.eJ,.i .i64 a.gx,.i .i64 a.im,.i .i64 a.ug,.i .i64 a.eP]
def ez (a:cH):List F:=[.s (.i .i64 a.eJ),.s (.i .i64 a.gx),.s (.i .i64 a.im),.s (.i .i64 a.ug),.s (.i .i64 a.eP)]
def cg:cH:=⟨0,0,0,0,0⟩
structure cP where
 fT:Int
 eK:Int
 fU:Int
 deriving DecidableEq,Inhabited
def ui (a:cP):List D:=[.i .i64 a.fT,.i .i64 a.eK,.i .i64 a.fU]
def je (a:cP):List F:=[.s (.i .i64 a.fT),.s (.i .i64 a.eK),.s (.i .i64 a.fU)]
def eQ:cP:=⟨0,0,0⟩
structure a8 where
 bj:Int
 aw:List ae
 deriving DecidableEq,Inhabited
def ka (a:a8):List D:=[.i .i64 a.bj,.l (a.aw.map aE)]
def dT (a:a8):List F:=[.s (.i .i64 a.bj),.l 136 2 (a.aw.map aE) a.aw.length]
def nu:a8:=⟨0,[]⟩
structure cY where
 au:Int
 cE:Int
 dX:Int
 deriving DecidableEq,Inhabited
def tu (a:cY):List D:=[.i .i64 a.au,.i .i64 a.cE,.i .i64 a.dX]
def oG (a:cY):List F:=[.s (.i .i64 a.au),.s (.i .i64 a.cE),.s (.i .i64 a.dX)]
def yS:cY:=⟨0,0,0⟩
structure ag where
 bv:aC
 gN:bA
 bg:Int
 aD:cH
 bC:Int
 aa:Int
 aJ:Int
 aR:Int
 aU:Int
 d9:Int
 ik:cP
 ao:List bw
 an:a8
 dS:Int
 bO:cY
 deriving DecidableEq,Inhabited
def bS (a:ag):List D:=[.i .i64 a.bv.ID.dL,.i .i64 a.bv.ID.bM,.i .i64 a.bv.eP,.i .i64 a.bv.cO,.i .i64 a.gN.iM,.i .i64 a.gN.iL,.i .i64 a.gN.ei,.l (a.gN.bF.map eI),.i .i64 a.bg,.i .i64 a.aD.eJ,.i .i64 a.aD.gx,.i .i64 a.aD.im,.i .i64 a.aD.ug,.i .i64 a.aD.eP,.i .i64 a.bC,.i .i64 a.aa,.i .i64 a.aJ,.i .i64 a.aR,.i .i64 a.aU,.i .i64 a.d9,.i .i64 a.ik.fT,.i .i64 a.ik.eK,.i .i64 a.ik.fU,.l (a.ao.map cj),.i .i64 a.an.bj,.l (a.an.aw.map aE),.i .i64 a.dS,.i .i64 a.bO.au,.i .i64 a.bO.cE,.i .i64 a.bO.dX]
def cy (a:ag):List F:=[.s (.i .i64 a.bv.ID.dL),.s (.i .i64 a.bv.ID.bM),.s (.i .i64 a.bv.eP),.s (.i .i64 a.bv.cO),.s (.i .i64 a.gN.iM),.s (.i .i64 a.gN.iL),.s (.i .i64 a.gN.ei),.l 3 1 (a.gN.bF.map eI) a.gN.bF.length,.s (.i .i64 a.bg),.s (.i .i64 a.aD.eJ),.s (.i .i64 a.aD.gx),.s (.i .i64 a.aD.im),.s (.i .i64 a.aD.ug),.s (.i .i64 a.aD.eP),.s (.i .i64 a.bC),.s (.i .i64 a.aa),.s (.i .i64 a.aJ),.s (.i .i64 a.aR),.s (.i .i64 a.aU),.s (.i .i64 a.d9),.s (.i .i64 a.ik.fT),.s (.i .i64 a.ik.eK),.s (.i .i64 a.ik.fU),.l 104 1 (a.ao.map cj) a.ao.length,.s (.i .i64 a.an.bj),.l 136 2 (a.an.aw.map aE) a.an.aw.length,.s (.i .i64 a.dS),.s (.i .i64 a.bO.au),.s (.i .i64 a.bO.cE),.s (.i .i64 a.bO.dX)]
def tX:ag:=⟨oC,lb,0,cg,0,0,0,0,0,0,eQ,[],nu,0,yS⟩
structure ax where
 au:Int
 ea:Int
 deriving DecidableEq,Inhabited
def bm (a:ax):List D:=[.i .i64 a.au,.i .i64 a.ea]
structure aj where
 eL:Int
 bP:Int
 d4:Int
 aA:List ax
 deriving DecidableEq,Inhabited
def da (a:aj):List D:=[.i .i64 a.eL,.i .i64 a.bP,.i .i64 a.d4,.l (a.aA.map bm)]
def cM (a:aj):List F:=[.s (.i .i64 a.eL),.s (.i .i64 a.bP),.s (.i .i64 a.d4),.l 161 2 (a.aA.map bm) a.aA.length]
def lD:aj:=⟨0,0,0,[]⟩
structure az where
 aP:Int
 aU:Int
 aa:Int
 aR:Int
 bM:Int
 bQ:cH
 im:Int
 deriving DecidableEq,Inhabited
def d5 (a:az):List D:=[.i .i64 a.aP,.i .i64 a.aU,.i .i64 a.aa,.i .i64 a.aR,.i .i64 a.bM,.i .i64 a.bQ.eJ,.i .i64 a.bQ.gx,.i .i64 a.bQ.im,.i .i64 a.bQ.ug,.i .i64 a.bQ.eP,.i .i64 a.im]
def cI (a:az):List F:=[.s (.i .i64 a.aP),.s (.i .i64 a.aU),.s (.i .i64 a.aa),.s (.i .i64 a.aR),.s (.i .i64 a.bM),.s (.i .i64 a.bQ.eJ),.s (.i .i64 a.bQ.gx),.s (.i .i64 a.bQ.im),.s (.i .i64 a.bQ.ug),.s (.i .i64 a.bQ.eP),.s (.i .i64 a.im)]
def dH:az:=⟨0,0,0,0,0,cg,0⟩
structure bG where
 c9:Int
 fx:Int
 aN:List Int
 im:Int
 deriving DecidableEq,Inhabited
def fG (a:bG):List D:=[.i .i64 a.c9,.i .i64 a.fx,.l (a.aN.map eU8),.i .i64 a.im]
def pU (a:bG):List F:=[.s (.i .i64 a.c9),.s (.i .i64 a.fx),.l 5 1 (a.aN.map eU8) a.aN.length,.s (.i .i64 a.im)]
def iZ:bG:=⟨0,0,[],0⟩
structure av where
 aa:Int
 aR:Int
 aZ:bG
 deriving DecidableEq,Inhabited
def dN (a:av):List D:=[.i .i64 a.aa,.i .i64 a.aR,.i .i64 a.aZ.c9,.i .i64 a.aZ.fx,.l (a.aZ.aN.map eU8),.i .i64 a.aZ.im]
def lG (a:av):List F:=[.s (.i .i64 a.aa),.s (.i .i64 a.aR),.s (.i .i64 a.aZ.c9),.s (.i .i64 a.aZ.fx),.l 5 1 (a.aZ.aN.map eU8) a.aZ.aN.length,.s (.i .i64 a.aZ.im)]
def d8:av:=⟨0,0,iZ⟩
structure bJ where
 a9:Int
 eb:Bool
 di:Bool
 aU:Int
 aV:az
 b7:av
 deriving DecidableEq,Inhabited
def er (a:bJ):List D:=[.i .i64 a.a9,.b a.eb,.b a.di,.i .i64 a.aU,.i .i64 a.aV.aP,.i .i64 a.aV.aU,.i .i64 a.aV.aa,.i .i64 a.aV.aR,.i .i64 a.aV.bM,.i .i64 a.aV.bQ.eJ,.i .i64 a.aV.bQ.gx,.i .i64 a.aV.bQ.im,.i .i64 a.aV.bQ.ug,.i .i64 a.aV.bQ.eP,.i .i64 a.aV.im,.i .i64 a.b7.aa,.i .i64 a.b7.aR,.i .i64 a.b7.aZ.c9,.i .i64 a.b7.aZ.fx,.l (a.b7.aZ.aN.map eU8),.i .i64 a.b7.aZ.im]
def kc (a:bJ):List F:=[.s (.i .i64 a.a9),.s (.b a.eb),.s (.b a.di),.s (.i .i64 a.aU),.s (.i .i64 a.aV.aP),.s (.i .i64 a.aV.aU),.s (.i .i64 a.aV.aa),.s (.i .i64 a.aV.aR),.s (.i .i64 a.aV.bM),.s (.i .i64 a.aV.bQ.eJ),.s (.i .i64 a.aV.bQ.gx),.s (.i .i64 a.aV.bQ.im),.s (.i .i64 a.aV.bQ.ug),.s (.i .i64 a.aV.bQ.eP),.s (.i .i64 a.aV.im),.s (.i .i64 a.b7.aa),.s (.i .i64 a.b7.aR),.s (.i .i64 a.b7.aZ.c9),.s (.i .i64 a.b7.aZ.fx),.l 5 1 (a.b7.aZ.aN.map eU8) a.b7.aZ.aN.length,.s (.i .i64 a.b7.aZ.im)]
def mr:bJ:=⟨0,false,false,0,dH,d8⟩
structure ab where
 dW:aK
 ai:List ay
 am:List ag
 aY:List aj
 aQ:List bJ
 dh:Int
 dR:bN
 oD:Int
 jX:Int
 deriving DecidableEq,Inhabited
def gD (a:ab):List D:=[.l (a.dW.aX.map dP),.l (a.ai.map c7),.l (a.am.map bS),.l (a.aY.map da),.l (a.aQ.map er),.i .i64 a.dh,.i .i64 a.dR.fH,.i .i64 a.dR.fj,.i .i64 a.oD,.i .i64 a.jX]
def aO (a:ab):List F:=[.l 157 2 (a.dW.aX.map dP) a.dW.aX.length,.l 45 14 (a.ai.map c7) a.ai.length,.l 60 30 (a.am.map bS) a.am.length,.l 66 4 (a.aY.map da) a.aY.length,.l 78 21 (a.aQ.map er) a.aQ.length,.s (.i .i64 a.dh),.s (.i .i64 a.dR.fH),.s (.i .i64 a.dR.fj),.s (.i .i64 a.oD),.s (.i .i64 a.jX)]
def dt:ab:=⟨KX,[],[],[],[],0,ra,0,0⟩
structure cX where
 aP:Int
 cr:Int
 aU:Int
 aN:List Int
 bk:bJ
 deriving DecidableEq,Inhabited
def yE (a:cX):List D:=[.i .i64 a.aP,.i .i64 a.cr,.i .i64 a.aU,.l (a.aN.map eU8),.i .i64 a.bk.a9,.b a.bk.eb,.b a.bk.di,.i .i64 a.bk.aU,.i .i64 a.bk.aV.aP,.i .i64 a.bk.aV.aU,.i .i64 a.bk.aV.aa,.i .i64 a.bk.aV.aR,.i .i64 a.bk.aV.bM,.i .i64 a.bk.aV.bQ.eJ,.i .i64 a.bk.aV.bQ.gx,.i .i64 a.bk.aV.bQ.im,.i .i64 a.bk.aV.bQ.ug,.i .i64 a.bk.aV.bQ.eP,.i .i64 a.bk.aV.im,.i .i64 a.bk.b7.aa,.i .i64 a.bk.b7.aR,.i .i64 a.bk.b7.aZ.c9,.i .i64 a.bk.b7.aZ.fx,.l (a.bk.b7.aZ.aN.map eU8),.i .i64 a.bk.b7.aZ.im]
def eA (a:cX):List F:=[.s (.i .i64 a.aP),.s (.i .i64 a.cr),.s (.i .i64 a.aU),.l 5 1 (a.aN.map eU8) a.aN.length,.s (.i .i64 a.bk.a9),.s (.b a.bk.eb),.s (.b a.bk.di),.s (.i .i64 a.bk.aU),.s (.i .i64 a.bk.aV.aP),.s (.i .i64 a.bk.aV.aU),.s (.i .i64 a.bk.aV.aa),.s (.i .i64 a.bk.aV.aR),.s (.i .i64 a.bk.aV.bM),.s (.i .i64 a.bk.aV.bQ.eJ),.s (.i .i64 a.bk.aV.bQ.gx),.s (.i .i64 a.bk.aV.bQ.im),.s (.i .i64 a.bk.aV.bQ.ug),.s (.i .i64 a.bk.aV.bQ.eP),.s (.i .i64 a.bk.aV.im),.s (.i .i64 a.bk.b7.aa),.s (.i .i64 a.bk.b7.aR),.s (.i .i64 a.bk.b7.aZ.c9),.s (.i .i64 a.bk.b7.aZ.fx),.l 5 1 (a.bk.b7.aZ.aN.map eU8) a.bk.b7.aZ.aN.length,.s (.i .i64 a.bk.b7.aZ.im)]
def dv:cX:=⟨0,0,0,[],mr⟩
structure gW where
 Steps:List Int
 deriving DecidableEq,Inhabited
def JT (a:gW):List D:=[.l (a.Steps.map eI)]
structure Qj where
 aa:Int
 Path:gW
 deriving DecidableEq,Inhabited
structure aH where
 fb:List Int
 fi:Int
 fh:Int
 deriving DecidableEq,Inhabited
def OE (a:aH):List D:=[.l (a.fb.map eU8),.i .i64 a.fi,.i .i64 a.fh]
def bI (a:aH):List F:=[.l 5 1 (a.fb.map eU8) a.fb.length,.s (.i .i64 a.fi),.s (.i .i64 a.fh)]
structure aS where
 a9:ay
 dD:List az
 deriving DecidableEq,Inhabited
def cq (a:aS):List F:=[.s (.i .i64 a.a9.dq.ID.dL),.s (.i .i64 a.a9.dq.ID.bM),.s (.i .i64 a.a9.dq.eP),.s (.i .i64 a.a9.dq.dw),.s (.i .i64 a.a9.bg),.s (.i .i64 a.a9.aU),.s (.i .i64 a.a9.aa),.s (.i .i64 a.a9.aJ),.s (.i .i64 a.a9.aR),.s (.b a.a9.de),.s (.i .i64 a.a9.fU),.s (.i .i64 a.a9.bi.bj),.l 136 2 (a.a9.bi.aD.map aE) a.a9.bi.aD.length,.l 104 1 (a.a9.bi.aG.map cj) a.a9.bi.aG.length,.l 72 11 (a.dD.map d5) a.dD.length]
def ef:aS:=⟨A2,[]⟩
structure bX where
 aF:ag
 dQ:aj
 iy:List az
 b7:List av
 deriving DecidableEq,Inhabited
def b9 (a:bX):List F:=[.s (.i .i64 a.aF.bv.ID.dL),.s (.i .i64 a.aF.bv.ID.bM),.s (.i .i64 a.aF.bv.eP),.s (.i .i64 a.aF.bv.cO),.s (.i .i64 a.aF.gN.iM),.s (.i .i64 a.aF.gN.iL),.s (.i .i64 a.aF.gN.ei),.l 3 1 (a.aF.gN.bF.map eI) a.aF.gN.bF.length,.s (.i .i64 a.aF.bg),.s (.i .i64 a.aF.aD.eJ),.s (.i .i64 a.aF.aD.gx),.s (.i .i64 a.aF.aD.im),.s (.i .i64 a.aF.aD.ug),.s (.i .i64 a.aF.aD.eP),.s (.i .i64 a.aF.bC),.s (.i .i64 a.aF.aa),.s (.i .i64 a.aF.aJ),.s (.i .i64 a.aF.aR),.s (.i .i64 a.aF.aU),.s (.i .i64 a.aF.d9),.s (.i .i64 a.aF.ik.fT),.s (.i .i64 a.aF.ik.eK),.s (.i .i64 a.aF.ik.fU),.l 104 1 (a.aF.ao.map cj) a.aF.ao.length,.s (.i .i64 a.aF.an.bj),.l 136 2 (a.aF.an.aw.map aE) a.aF.an.aw.length,.s (.i .i64 a.aF.dS),.s (.i .i64 a.aF.bO.au),.s (.i .i64 a.aF.bO.cE),.s (.i .i64 a.aF.bO.dX),.s (.i .i64 a.dQ.eL),.s (.i .i64 a.dQ.bP),.s (.i .i64 a.dQ.d4),.l 161 2 (a.dQ.aA.map bm) a.dQ.aA.length,.l 72 11 (a.iy.map d5) a.iy.length,.l 76 6 (a.b7.map dN) a.b7.length]
def cU:bX:=⟨tX,lD,[],[]⟩
structure bH where
 aF:ag
 dD:List az
 deriving DecidableEq,Inhabited
def d7 (a:bH):List F:=[.s (.i .i64 a.aF.bv.ID.dL),.s (.i .i64 a.aF.bv.ID.bM),.s (.i .i64 a.aF.bv.eP),.s (.i .i64 a.aF.bv.cO),.s (.i .i64 a.aF.gN.iM),.s (.i .i64 a.aF.gN.iL),.s (.i .i64 a.aF.gN.ei),.l 3 1 (a.aF.gN.bF.map eI) a.aF.gN.bF.length,.s (.i .i64 a.aF.bg),.s (.i .i64 a.aF.aD.eJ),.s (.i .i64 a.aF.aD.gx),.s (.i .i64 a.aF.aD.im),.s (.i .i64 a.aF.aD.ug),.s (.i .i64 a.aF.aD.eP),.s (.i .i64 a.aF.bC),.s (.i .i64 a.aF.aa),.s (.i .i64 a.aF.aJ),.s (.i .i64 a.aF.aR),.s (.i .i64 a.aF.aU),.s (.i .i64 a.aF.d9),.s (.i .i64 a.aF.ik.fT),.s (.i .i64 a.aF.ik.eK),.s (.i .i64 a.aF.ik.fU),.l 104 1 (a.aF.ao.map cj) a.aF.ao.length,.s (.i .i64 a.aF.an.bj),.l 136 2 (a.aF.an.aw.map aE) a.aF.an.aw.length,.s (.i .i64 a.aF.dS),.s (.i .i64 a.aF.bO.au),.s (.i .i64 a.aF.bO.cE),.s (.i .i64 a.aF.bO.dX),.l 72 11 (a.dD.map d5) a.dD.length]
def mI:bH:=⟨tX,[]⟩
structure lE where
 Code:Int
 ug:Int
 uB:Int
 PM:Int
 deriving DecidableEq,Inhabited
def rY (a:lE):List F:=[.s (.i .i64 a.Code),.s (.i .i64 a.ug),.s (.i .i64 a.uB),.s (.i .i64 a.PM)]
def gL:lE:=⟨0,0,0,0⟩
theorem Try.follows:Tryz.prog.follows .mixedOrders=true:=Tryz.follows
end Go.AM
