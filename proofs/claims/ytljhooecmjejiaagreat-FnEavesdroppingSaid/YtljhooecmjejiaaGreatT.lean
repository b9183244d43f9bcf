/- A part. -/
import Derived.Test.YtljhooecmjejiaaGreatE7
import Derived.Test.YtljhooecmjejiaaGreatProg
set_option linter.unusedVariables false
set_option linter.unusedSimpArgs false
namespace Go.AM
open Go.Proofs
theorem bH {P:Program} {t:TypeId} {n:Nat} (h:(P.info? t).map (·.size)=some n):∃i,P.info? t=some i∧i.size=n:=by
 cases hi:P.info? t with
 |none=>simp[hi] at h
 |some i=>simp[hi] at h;exact⟨i,rfl,h⟩
theorem bI {P:Program} {t:TypeId} {z:Value} (h:(P.info? t).map (·.zero)=some (some z)):∃i,P.info? t=some i∧i.zero=some z:=by
 cases hi:P.info? t with
 |none=>simp[hi] at h
 |some i=>simp[hi] at h;exact⟨i,rfl,h⟩
theorem jX {P:Program} {t:TypeId} {z:Value} {n b:Nat} (h:(P.info? t).map (fun i=>(i.size,i.bytes,i.zero))=some (n,b,some z)) (hz:z.cells.size=n):∃i z,P.info? t=some i∧i.size=n∧i.bytes=b∧i.zero=some z∧z.cells.size=n:=by
 cases hi:P.info? t with
 |none=>simp[hi] at h
 |some i=>simp[hi] at h;exact⟨i,z,rfl,h.1,h.2.1,h.2.2,hz⟩
theorem bj {P:Program} {t:TypeId} {n:Nat} (h:(P.info? t).map (·.size)=some n) (hn:n≠0):∃i,P.info? t=some i∧i.size≠0:=by
 cases hi:P.info? t with
 |none=>simp[hi] at h
 |some i=>simp[hi] at h;exact⟨i,rfl,by omega⟩
instance:TyN Tryz.prog 3 1:=⟨bH (by kernel_rfl)⟩
instance:TySc Tryz.prog 3:=⟨fun w=>by kernel_rfl,bH (by kernel_rfl)⟩
instance:TyU Tryz.prog 3 (.int .i64):=⟨Tryz.underlying3⟩
theorem Tryz.z3:(Tryz.prog.info? 3).map (·.zero)=some (some (.int .i64 0)):=by kernel_rfl
instance:TyZ Tryz.prog 3 [.d false (.i .i64 0)]:=⟨by obtain⟨i,h1,h2⟩:=bI Tryz.z3;exact⟨i,_,h1,h2,rfl⟩⟩
instance:TyE Tryz.prog 3 [.i .i64 0]:=⟨by obtain⟨i,h1,h2⟩:=bI Tryz.z3;exact⟨i,_,h1,h2,rfl⟩⟩
instance:TyN Tryz.prog 4 1:=⟨bH (by kernel_rfl)⟩
instance:TySc Tryz.prog 4:=⟨fun w=>by kernel_rfl,bH (by kernel_rfl)⟩
instance:TyU Tryz.prog 4 (.bool):=⟨Tryz.underlying4⟩
theorem Tryz.z4:(Tryz.prog.info? 4).map (·.zero)=some (some (.bool false)):=by kernel_rfl
instance:TyZ Tryz.prog 4 [.d false (.b false)]:=⟨by obtain⟨i,h1,h2⟩:=bI Tryz.z4;exact⟨i,_,h1,h2,rfl⟩⟩
instance:TyE Tryz.prog 4 [.b false]:=⟨by obtain⟨i,h1,h2⟩:=bI Tryz.z4;exact⟨i,_,h1,h2,rfl⟩⟩
instance:TyN Tryz.prog 5 1:=⟨bH (by kernel_rfl)⟩
instance:TySc Tryz.prog 5:=⟨fun w=>by kernel_rfl,bH (by kernel_rfl)⟩
instance:TyU Tryz.prog 5 (.int .u8):=⟨Tryz.underlying5⟩
theorem Tryz.z5:(Tryz.prog.info? 5).map (·.zero)=some (some (.int .u8 0)):=by kernel_rfl
instance:TyZ Tryz.prog 5 [.d false (.i .u8 0)]:=⟨by obtain⟨i,h1,h2⟩:=bI Tryz.z5;exact⟨i,_,h1,h2,rfl⟩⟩
instance:TyE Tryz.prog 5 [.i .u8 0]:=⟨by obtain⟨i,h1,h2⟩:=bI Tryz.z5;exact⟨i,_,h1,h2,rfl⟩⟩
instance:TyN Tryz.prog 9 1:=⟨bH (by kernel_rfl)⟩
instance:TySc Tryz.prog 9:=⟨fun w=>by kernel_rfl,bH (by kernel_rfl)⟩
instance:TyU Tryz.prog 9 (.string):=⟨Tryz.underlying9⟩
theorem Tryz.z9:(Tryz.prog.info? 9).map (·.zero)=some (some (.string ⟨#[]⟩)):=by kernel_rfl
instance:TyZ Tryz.prog 9 [.d false (.str ⟨#[]⟩)]:=⟨by obtain⟨i,h1,h2⟩:=bI Tryz.z9;exact⟨i,_,h1,h2,rfl⟩⟩
instance:TyE Tryz.prog 9 [.str ⟨#[]⟩]:=⟨by obtain⟨i,h1,h2⟩:=bI Tryz.z9;exact⟨i,_,h1,h2,rfl⟩⟩
instance:TyN Tryz.prog 22 1:=⟨bH (by kernel_rfl)⟩
instance:TySc Tryz.prog 22:=⟨fun w=>by kernel_rfl,bH (by kernel_rfl)⟩
theorem Tryz.z22:(Tryz.prog.info? 22).map (·.zero)=some (some (.slice none 0 0)):=by kernel_rfl
instance:TyZ Tryz.prog 22 [.nil]:=⟨by obtain⟨i,h1,h2⟩:=bI Tryz.z22;exact⟨i,_,h1,h2,rfl⟩⟩
instance:TyE Tryz.prog 22 [.l []]:=⟨by obtain⟨i,h1,h2⟩:=bI Tryz.z22;exact⟨i,_,h1,h2,rfl⟩⟩
instance:TySl Tryz.prog 22 5 1 1:=⟨Tryz.underlying22,jX (z:=.int .u8 0) (by kernel_rfl) rfl,by decide⟩
instance:TyN Tryz.prog 24 1:=⟨bH (by kernel_rfl)⟩
instance:TySc Tryz.prog 24:=⟨fun w=>by kernel_rfl,bH (by kernel_rfl)⟩
theorem Tryz.z24:(Tryz.prog.info? 24).map (·.zero)=some (some (.slice none 0 0)):=by kernel_rfl
instance:TyZ Tryz.prog 24 [.nil]:=⟨by obtain⟨i,h1,h2⟩:=bI Tryz.z24;exact⟨i,_,h1,h2,rfl⟩⟩
instance:TyE Tryz.prog 24 [.l []]:=⟨by obtain⟨i,h1,h2⟩:=bI Tryz.z24;exact⟨i,_,h1,h2,rfl⟩⟩
instance:TySl Tryz.prog 24 157 2 32:=⟨Tryz.underlying24,jX (z:=.agg #[.int .i64 0,.slice none 0 0]) (by kernel_rfl) rfl,by decide⟩
instance:TyN Tryz.prog 26 1:=⟨bH (by kernel_rfl)⟩
instance:TyAg Tryz.prog 26 1:=⟨fun w=>by kernel_rfl,bH (by kernel_rfl)⟩
theorem Tryz.z26:(Tryz.prog.info? 26).map (·.zero)=some (some (.agg #[.slice none 0 0])):=by kernel_rfl
instance:TyZ Tryz.prog 26 [.nil]:=⟨by obtain⟨i,h1,h2⟩:=bI Tryz.z26;exact⟨i,_,h1,h2,rfl⟩⟩
instance:TyE Tryz.prog 26 [.l []]:=⟨by obtain⟨i,h1,h2⟩:=bI Tryz.z26;exact⟨i,_,h1,h2,rfl⟩⟩
instance:TyB Tryz.prog 26 [(0,1)]:=⟨_,Tryz.underlying26,fun w=>by kernel_rfl⟩
instance:TyF Tryz.prog 26 0 0 24:=⟨_,_,Tryz.underlying26,rfl,rfl,rfl,bj (n:=1) (by kernel_rfl) (by decide)⟩
instance:TyN Tryz.prog 27 1:=⟨bH (by kernel_rfl)⟩
instance:TySc Tryz.prog 27:=⟨fun w=>by kernel_rfl,bH (by kernel_rfl)⟩
theorem Tryz.z27:(Tryz.prog.info? 27).map (·.zero)=some (some (.slice none 0 0)):=by kernel_rfl
instance:TyZ Tryz.prog 27 [.nil]:=⟨by obtain⟨i,h1,h2⟩:=bI Tryz.z27;exact⟨i,_,h1,h2,rfl⟩⟩
instance:TyE Tryz.prog 27 [.l []]:=⟨by obtain⟨i,h1,h2⟩:=bI Tryz.z27;exact⟨i,_,h1,h2,rfl⟩⟩
instance:TySl Tryz.prog 27 45 14 144:=⟨Tryz.underlying27,jX (z:=.agg #[.int .i64 0,.int .i64 0,.int .i64 0,.int .i64 0,.int .i64 0,.int .i64 0,.int .i64 0,.int .i64 0,.int .i64 0,.bool false,.int .i64 0,.int .i64 0,.slice none 0 0,.slice none 0 0]) (by kernel_rfl) rfl,by decide⟩
instance:TyN Tryz.prog 28 1:=⟨bH (by kernel_rfl)⟩
instance:TySc Tryz.prog 28:=⟨fun w=>by kernel_rfl,bH (by kernel_rfl)⟩
theorem Tryz.z28:(Tryz.prog.info? 28).map (·.zero)=some (some (.slice none 0 0)):=by kernel_rfl
instance:TyZ Tryz.prog 28 [.nil]:=⟨by obtain⟨i,h1,h2⟩:=bI Tryz.z28;exact⟨i,_,h1,h2,rfl⟩⟩
instance:TyE Tryz.prog 28 [.l []]:=⟨by obtain⟨i,h1,h2⟩:=bI Tryz.z28;exact⟨i,_,h1,h2,rfl⟩⟩
instance:TySl Tryz.prog 28 60 30 288:=⟨Tryz.underlying28,jX (z:=.agg #[.int .i64 0,.int .i64 0,.int .i64 0,.int .i64 0,.int .i64 0,.int .i64 0,.int .i64 0,.slice none 0 0,.int .i64 0,.int .i64 0,.int .i64 0,.int .i64 0,.int .i64 0,.int .i64 0,.int .i64 0,.int .i64 0,.int .i64 0,.int .i64 0,.int .i64 0,.int .i64 0,.int .i64 0,.int .i64 0,.int .i64 0,.slice none 0 0,.int .i64 0,.slice none 0 0,.int .i64 0,.int .i64 0,.int .i64 0,.int .i64 0]) (by kernel_rfl) rfl,by decide⟩
instance:TyN Tryz.prog 29 1:=⟨bH (by kernel_rfl)⟩
instance:TySc Tryz.prog 29:=⟨fun w=>by kernel_rfl,bH (by kernel_rfl)⟩
theorem Tryz.z29:(Tryz.prog.info? 29).map (·.zero)=some (some (.slice none 0 0)):=by kernel_rfl
instance:TyZ Tryz.prog 29 [.nil]:=⟨by obtain⟨i,h1,h2⟩:=bI Tryz.z29;exact⟨i,_,h1,h2,rfl⟩⟩
instance:TyE Tryz.prog 29 [.l []]:=⟨by obtain⟨i,h1,h2⟩:=bI Tryz.z29;exact⟨i,_,h1,h2,rfl⟩⟩
instance:TySl Tryz.prog 29 66 4 48:=⟨Tryz.underlying29,jX (z:=.agg #[.int .i64 0,.int .i64 0,.int .i64 0,.slice none 0 0]) (by kernel_rfl) rfl,by decide⟩
instance:TyN Tryz.prog 30 1:=⟨bH (by kernel_rfl)⟩
instance:TySc Tryz.prog 30:=⟨fun w=>by kernel_rfl,bH (by kernel_rfl)⟩
theorem Tryz.z30:(Tryz.prog.info? 30).map (·.zero)=some (some (.slice none 0 0)):=by kernel_rfl
instance:TyZ Tryz.prog 30 [.nil]:=⟨by obtain⟨i,h1,h2⟩:=bI Tryz.z30;exact⟨i,_,h1,h2,rfl⟩⟩
instance:TyE Tryz.prog 30 [.l []]:=⟨by obtain⟨i,h1,h2⟩:=bI Tryz.z30;exact⟨i,_,h1,h2,rfl⟩⟩
instance:TySl Tryz.prog 30 78 21 176:=⟨Tryz.underlying30,jX (z:=.agg #[.int .i64 0,.bool false,.bool false,.int .i64 0,.int .i64 0,.int .i64 0,.int .i64 0,.int .i64 0,.int .i64 0,.int .i64 0,.int .i64 0,.int .i64 0,.int .i64 0,.int .i64 0,.int .i64 0,.int .i64 0,.int .i64 0,.int .i64 0,.int .i64 0,.slice none 0 0,.int .i64 0]) (by kernel_rfl) rfl,by decide⟩
instance:TyN Tryz.prog 32 2:=⟨bH (by kernel_rfl)⟩
instance:TyAg Tryz.prog 32 2:=⟨fun w=>by kernel_rfl,bH (by kernel_rfl)⟩
theorem Tryz.z32:(Tryz.prog.info? 32).map (·.zero)=some (some (.agg #[.int .i64 0,.int .i64 0])):=by kernel_rfl
instance:TyZ Tryz.prog 32 [.d false (.i .i64 0),.d false (.i .i64 0)]:=⟨by obtain⟨i,h1,h2⟩:=bI Tryz.z32;exact⟨i,_,h1,h2,rfl⟩⟩
instance:TyE Tryz.prog 32 [.i .i64 0,.i .i64 0]:=⟨by obtain⟨i,h1,h2⟩:=bI Tryz.z32;exact⟨i,_,h1,h2,rfl⟩⟩
instance:TyB Tryz.prog 32 [(0,1),(1,1)]:=⟨_,Tryz.underlying32,fun w=>by kernel_rfl⟩
instance:TyF Tryz.prog 32 0 0 3:=⟨_,_,Tryz.underlying32,rfl,rfl,rfl,bj (n:=1) (by kernel_rfl) (by decide)⟩
instance:TyF Tryz.prog 32 1 1 3:=⟨_,_,Tryz.underlying32,rfl,rfl,rfl,bj (n:=1) (by kernel_rfl) (by decide)⟩
instance:TyN Tryz.prog 34 10:=⟨bH (by kernel_rfl)⟩
instance:TyAg Tryz.prog 34 10:=⟨fun w=>by kernel_rfl,bH (by kernel_rfl)⟩
theorem Tryz.z34:(Tryz.prog.info? 34).map (·.zero)=some (some (.agg #[.slice none 0 0,.slice none 0 0,.slice none 0 0,.slice none 0 0,.slice none 0 0,.int .i64 0,.int .i64 0,.int .i64 0,.int .i64 0,.int .i64 0])):=by kernel_rfl
instance:TyZ Tryz.prog 34 [.nil,.nil,.nil,.nil,.nil,.d false (.i .i64 0),.d false (.i .i64 0),.d false (.i .i64 0),.d false (.i .i64 0),.d false (.i .i64 0)]:=⟨by obtain⟨i,h1,h2⟩:=bI Tryz.z34;exact⟨i,_,h1,h2,rfl⟩⟩
instance:TyE Tryz.prog 34 [.l [],.l [],.l [],.l [],.l [],.i .i64 0,.i .i64 0,.i .i64 0,.i .i64 0,.i .i64 0]:=⟨by obtain⟨i,h1,h2⟩:=bI Tryz.z34;exact⟨i,_,h1,h2,rfl⟩⟩
instance:TyB Tryz.prog 34 [(0,1),(1,1),(2,1),(3,1),(4,1),(5,1),(6,2),(8,1),(9,1)]:=⟨_,Tryz.underlying34,fun w=>by kernel_rfl⟩
instance:TyF Tryz.prog 34 0 0 26:=⟨_,_,Tryz.underlying34,rfl,rfl,rfl,bj (n:=1) (by kernel_rfl) (by decide)⟩
instance:TyF Tryz.prog 34 1 1 27:=⟨_,_,Tryz.underlying34,rfl,rfl,rfl,bj (n:=1) (by kernel_rfl) (by decide)⟩
instance:TyF Tryz.prog 34 2 2 28:=⟨_,_,Tryz.underlying34,rfl,rfl,rfl,bj (n:=1) (by kernel_rfl) (by decide)⟩
instance:TyF Tryz.prog 34 3 3 29:=⟨_,_,Tryz.underlying34,rfl,rfl,rfl,bj (n:=1) (by kernel_rfl) (by decide)⟩
instance:TyF Tryz.prog 34 4 4 30:=⟨_,_,Tryz.underlying34,rfl,rfl,rfl,bj (n:=1) (by kernel_rfl) (by decide)⟩
instance:TyF Tryz.prog 34 5 5 3:=⟨_,_,Tryz.underlying34,rfl,rfl,rfl,bj (n:=1) (by kernel_rfl) (by decide)⟩
instance:TyF Tryz.prog 34 6 6 32:=⟨_,_,Tryz.underlying34,rfl,rfl,rfl,bj (n:=2) (by kernel_rfl) (by decide)⟩
instance:TyF Tryz.prog 34 7 8 3:=⟨_,_,Tryz.underlying34,rfl,rfl,rfl,bj (n:=1) (by kernel_rfl) (by decide)⟩
instance:TyF Tryz.prog 34 8 9 3:=⟨_,_,Tryz.underlying34,rfl,rfl,rfl,bj (n:=1) (by kernel_rfl) (by decide)⟩
instance:TyN Tryz.prog 36 1:=⟨bH (by kernel_rfl)⟩
instance:TySc Tryz.prog 36:=⟨fun w=>by kernel_rfl,bH (by kernel_rfl)⟩
theorem Tryz.z36:(Tryz.prog.info? 36).map (·.zero)=some (some (.slice none 0 0)):=by kernel_rfl
instance:TyZ Tryz.prog 36 [.nil]:=⟨by obtain⟨i,h1,h2⟩:=bI Tryz.z36;exact⟨i,_,h1,h2,rfl⟩⟩
instance:TyE Tryz.prog 36 [.l []]:=⟨by obtain⟨i,h1,h2⟩:=bI Tryz.z36;exact⟨i,_,h1,h2,rfl⟩⟩
instance:TySl Tryz.prog 36 136 2 32:=⟨Tryz.underlying36,jX (z:=.agg #[.int .i64 0,.slice none 0 0]) (by kernel_rfl) rfl,by decide⟩
instance:TyN Tryz.prog 37 1:=⟨bH (by kernel_rfl)⟩
instance:TySc Tryz.prog 37:=⟨fun w=>by kernel_rfl,bH (by kernel_rfl)⟩
theorem Tryz.z37:(Tryz.prog.info? 37).map (·.zero)=some (some (.slice none 0 0)):=by kernel_rfl
instance:TyZ Tryz.prog 37 [.nil]:=⟨by obtain⟨i,h1,h2⟩:=bI Tryz.z37;exact⟨i,_,h1,h2,rfl⟩⟩
instance:TyE Tryz.prog 37 [.l []]:=⟨by obtain⟨i,h1,h2⟩:=bI Tryz.z37;exact⟨i,_,h1,h2,rfl⟩⟩
instance:TySl Tryz.prog 37 104 1 24:=⟨Tryz.underlying37,jX (z:=.agg #[.slice none 0 0]) (by kernel_rfl) rfl,by decide⟩
instance:TyN Tryz.prog 39 3:=⟨bH (by kernel_rfl)⟩
instance:TyAg Tryz.prog 39 3:=⟨fun w=>by kernel_rfl,bH (by kernel_rfl)⟩
theorem Tryz.z39:(Tryz.prog.info? 39).map (·.zero)=some (some (.agg #[.int .i64 0,.slice none 0 0,.slice none 0 0])):=by kernel_rfl
instance:TyZ Tryz.prog 39 [.d false (.i .i64 0),.nil,.nil]:=⟨by obtain⟨i,h1,h2⟩:=bI Tryz.z39;exact⟨i,_,h1,h2,rfl⟩⟩
instance:TyE Tryz.prog 39 [.i .i64 0,.l [],.l []]:=⟨by obtain⟨i,h1,h2⟩:=bI Tryz.z39;exact⟨i,_,h1,h2,rfl⟩⟩
instance:TyB Tryz.prog 39 [(0,1),(1,1),(2,1)]:=⟨_,Tryz.underlying39,fun w=>by kernel_rfl⟩
instance:TyF Tryz.prog 39 0 0 3:=⟨_,_,Tryz.underlying39,rfl,rfl,rfl,bj (n:=1) (by kernel_rfl) (by decide)⟩
instance:TyF Tryz.prog 39 1 1 36:=⟨_,_,Tryz.underlying39,rfl,rfl,rfl,bj (n:=1) (by kernel_rfl) (by decide)⟩
instance:TyF Tryz.prog 39 2 2 37:=⟨_,_,Tryz.underlying39,rfl,rfl,rfl,bj (n:=1) (by kernel_rfl) (by decide)⟩
instance:TyN Tryz.prog 41 2:=⟨bH (by kernel_rfl)⟩
instance:TyAg Tryz.prog 41 2:=⟨fun w=>by kernel_rfl,bH (by kernel_rfl)⟩
theorem Tryz.z41:(Tryz.prog.info? 41).map (·.zero)=some (some (.agg #[.int .i64 0,.int .i64 0])):=by kernel_rfl
instance:TyZ Tryz.prog 41 [.d false (.i .i64 0),.d false (.i .i64 0)]:=⟨by obtain⟨i,h1,h2⟩:=bI Tryz.z41;exact⟨i,_,h1,h2,rfl⟩⟩
instance:TyE Tryz.prog 41 [.i .i64 0,.i .i64 0]:=⟨by obtain⟨i,h1,h2⟩:=bI Tryz.z41;exact⟨i,_,h1,h2,rfl⟩⟩
instance:TyB Tryz.prog 41 [(0,1),(1,1)]:=⟨_,Tryz.underlying41,fun w=>by kernel_rfl⟩
instance:TyF Tryz.prog 41 0 0 3:=⟨_,_,Tryz.underlying41,rfl,rfl,rfl,bj (n:=1) (by kernel_rfl) (by decide)⟩
instance:TyF Tryz.prog 41 1 1 3:=⟨_,_,Tryz.underlying41,rfl,rfl,rfl,bj (n:=1) (by kernel_rfl) (by decide)⟩
instance:TyN Tryz.prog 43 4:=⟨bH (by kernel_rfl)⟩
instance:TyAg Tryz.prog 43 4:=⟨fun w=>by kernel_rfl,bH (by kernel_rfl)⟩
theorem Tryz.z43:(Tryz.prog.info? 43).map (·.zero)=some (some (.agg #[.int .i64 0,.int .i64 0,.int .i64 0,.int .i64 0])):=by kernel_rfl
instance:TyZ Tryz.prog 43 [.d false (.i .i64 0),.d false (.i .i64 0),.d false (.i .i64 0),.d false (.i .i64 0)]:=⟨by obtain⟨i,h1,h2⟩:=bI Tryz.z43;exact⟨i,_,h1,h2,rfl⟩⟩
instance:TyE Tryz.prog 43 [.i .i64 0,.i .i64 0,.i .i64 0,.i .i64 0]:=⟨by obtain⟨i,h1,h2⟩:=bI Tryz.z43;exact⟨i,_,h1,h2,rfl⟩⟩
instance:TyB Tryz.prog 43 [(0,2),(2,1),(3,1)]:=⟨_,Tryz.underlying43,fun w=>by kernel_rfl⟩
instance:TyF Tryz.prog 43 0 0 41:=⟨_,_,Tryz.underlying43,rfl,rfl,rfl,bj (n:=2) (by kernel_rfl) (by decide)⟩
instance:TyF Tryz.prog 43 1 2 3:=⟨_,_,Tryz.underlying43,rfl,rfl,rfl,bj (n:=1) (by kernel_rfl) (by decide)⟩
instance:TyF Tryz.prog 43 2 3 3:=⟨_,_,Tryz.underlying43,rfl,rfl,rfl,bj (n:=1) (by kernel_rfl) (by decide)⟩
instance:TyN Tryz.prog 45 14:=⟨bH (by kernel_rfl)⟩
instance:TyAg Tryz.prog 45 14:=⟨fun w=>by kernel_rfl,bH (by kernel_rfl)⟩
theorem Tryz.z45:(Tryz.prog.info? 45).map (·.zero)=some (some (.agg #[.int .i64 0,.int .i64 0,.int .i64 0,.int .i64 0,.int .i64 0,.int .i64 0,.int .i64 0,.int .i64 0,.int .i64 0,.bool false,.int .i64 0,.int .i64 0,.slice none 0 0,.slice none 0 0])):=by kernel_rfl
instance:TyZ Tryz.prog 45 [.d false (.i .i64 0),.d false (.i .i64 0),.d false (.i .i64 0),.d false (.i .i64 0),.d false (.i .i64 0),.d false (.i .i64 0),.d false (.i .i64 0),.d false (.i .i64 0),.d false (.i .i64 0),.d false (.b false),.d false (.i .i64 0),.d false (.i .i64 0),.nil,.nil]:=⟨by obtain⟨i,h1,h2⟩:=bI Tryz.z45;exact⟨i,_,h1,h2,rfl⟩⟩
instance:TyE Tryz.prog 45 [.i .i64 0,.i .i64 0,.i .i64 0,.i .i64 0,.i .i64 0,.i .i64 0,.i .i64 0,.i .i64 0,.i .i64 0,.b false,.i .i64 0,.i .i64 0,.l [],.l []]:=⟨by obtain⟨i,h1,h2⟩:=bI Tryz.z45;exact⟨i,_,h1,h2,rfl⟩⟩
instance:TyB Tryz.prog 45 [(0,4),(4,1),(5,1),(6,1),(7,1),(8,1),(9,1),(10,1),(11,3)]:=⟨_,Tryz.underlying45,fun w=>by kernel_rfl⟩
instance:TyF Tryz.prog 45 0 0 43:=⟨_,_,Tryz.underlying45,rfl,rfl,rfl,bj (n:=4) (by kernel_rfl) (by decide)⟩
instance:TyF Tryz.prog 45 1 4 3:=⟨_,_,Tryz.underlying45,rfl,rfl,rfl,bj (n:=1) (by kernel_rfl) (by decide)⟩
instance:TyF Tryz.prog 45 2 5 3:=⟨_,_,Tryz.underlying45,rfl,rfl,rfl,bj (n:=1) (by kernel_rfl) (by decide)⟩
instance:TyF Tryz.prog 45 3 6 3:=⟨_,_,Tryz.underlying45,rfl,rfl,rfl,bj (n:=1) (by kernel_rfl) (by decide)⟩
instance:TyF Tryz.prog 45 4 7 3:=⟨_,_,Tryz.underlying45,rfl,rfl,rfl,bj (n:=1) (by kernel_rfl) (by decide)⟩
instance:TyF Tryz.prog 45 5 8 3:=⟨_,_,Tryz.underlying45,rfl,rfl,rfl,bj (n:=1) (by kernel_rfl) (by decide)⟩
instance:TyF Tryz.prog 45 6 9 4:=⟨_,_,Tryz.underlying45,rfl,rfl,rfl,bj (n:=1) (by kernel_rfl) (by decide)⟩
instance:TyF Tryz.prog 45 7 10 3:=⟨_,_,Tryz.underlying45,rfl,rfl,rfl,bj (n:=1) (by kernel_rfl) (by decide)⟩
instance:TyF Tryz.prog 45 8 11 39:=⟨_,_,Tryz.underlying45,rfl,rfl,rfl,bj (n:=3) (by kernel_rfl) (by decide)⟩
instance:TyN Tryz.prog 47 4:=⟨bH (by kernel_rfl)⟩
instance:TyAg Tryz.prog 47 4:=⟨fun w=>by kernel_rfl,bH (by kernel_rfl)⟩
theorem Tryz.z47:(Tryz.prog.info? 47).map (·.zero)=some (some (.agg #[.int .i64 0,.int .i64 0,.int .i64 0,.int .i64 0])):=by kernel_rfl
instance:TyZ Tryz.prog 47 [.d false (.i .i64 0),.d false (.i .i64 0),.d false (.i .i64 0),.d false (.i .i64 0)]:=⟨by obtain⟨i,h1,h2⟩:=bI Tryz.z47;exact⟨i,_,h1,h2,rfl⟩⟩
instance:TyE Tryz.prog 47 [.i .i64 0,.i .i64 0,.i .i64 0,.i .i64 0]:=⟨by obtain⟨i,h1,h2⟩:=bI Tryz.z47;exact⟨i,_,h1,h2,rfl⟩⟩
instance:TyB Tryz.prog 47 [(0,2),(2,1),(3,1)]:=⟨_,Tryz.underlying47,fun w=>by kernel_rfl⟩
instance:TyF Tryz.prog 47 0 0 41:=⟨_,_,Tryz.underlying47,rfl,rfl,rfl,bj (n:=2) (by kernel_rfl) (by decide)⟩
instance:TyF Tryz.prog 47 1 2 3:=⟨_,_,Tryz.underlying47,rfl,rfl,rfl,bj (n:=1) (by kernel_rfl) (by decide)⟩
instance:TyF Tryz.prog 47 2 3 3:=⟨_,_,Tryz.underlying47,rfl,rfl,rfl,bj (n:=1) (by kernel_rfl) (by decide)⟩
instance:TyN Tryz.prog 48 1:=⟨bH (by kernel_rfl)⟩
instance:TySc Tryz.prog 48:=⟨fun w=>by kernel_rfl,bH (by kernel_rfl)⟩
theorem Tryz.z48:(Tryz.prog.info? 48).map (·.zero)=some (some (.slice none 0 0)):=by kernel_rfl
instance:TyZ Tryz.prog 48 [.nil]:=⟨by obtain⟨i,h1,h2⟩:=bI Tryz.z48;exact⟨i,_,h1,h2,rfl⟩⟩
instance:TyE Tryz.prog 48 [.l []]:=⟨by obtain⟨i,h1,h2⟩:=bI Tryz.z48;exact⟨i,_,h1,h2,rfl⟩⟩
instance:TySl Tryz.prog 48 3 1 8:=⟨Tryz.underlying48,jX (z:=.int .i64 0) (by kernel_rfl) rfl,by decide⟩
instance:TyN Tryz.prog 50 4:=⟨bH (by kernel_rfl)⟩
instance:TyAg Tryz.prog 50 4:=⟨fun w=>by kernel_rfl,bH (by kernel_rfl)⟩
theorem Tryz.z50:(Tryz.prog.info? 50).map (·.zero)=some (some (.agg #[.int .i64 0,.int .i64 0,.int .i64 0,.slice none 0 0])):=by kernel_rfl
instance:TyZ Tryz.prog 50 [.d false (.i .i64 0),.d false (.i .i64 0),.d false (.i .i64 0),.nil]:=⟨by obtain⟨i,h1,h2⟩:=bI Tryz.z50;exact⟨i,_,h1,h2,rfl⟩⟩
instance:TyE Tryz.prog 50 [.i .i64 0,.i .i64 0,.i .i64 0,.l []]:=⟨by obtain⟨i,h1,h2⟩:=bI Tryz.z50;exact⟨i,_,h1,h2,rfl⟩⟩
instance:TyB Tryz.prog 50 [(0,1),(1,1),(2,1),(3,1)]:=⟨_,Tryz.underlying50,fun w=>by kernel_rfl⟩
instance:TyF Tryz.prog 50 0 0 3:=⟨_,_,Tryz.underlying50,rfl,rfl,rfl,bj (n:=1) (by kernel_rfl) (by decide)⟩
instance:TyF Tryz.prog 50 1 1 3:=⟨_,_,Tryz.underlying50,rfl,rfl,rfl,bj (n:=1) (by kernel_rfl) (by decide)⟩
instance:TyF Tryz.prog 50 2 2 3:=⟨_,_,Tryz.underlying50,rfl,rfl,rfl,bj (n:=1) (by kernel_rfl) (by decide)⟩
instance:TyF Tryz.prog 50 3 3 48:=⟨_,_,Tryz.underlying50,rfl,rfl,rfl,bj (n:=1) (by kernel_rfl) (by decide)⟩
instance:TyN Tryz.prog 52 5:=⟨bH (by kernel_rfl)⟩
instance:TyAg Tryz.prog 52 5:=⟨fun w=>by kernel_rfl,bH (by kernel_rfl)⟩
theorem Tryz.z52:(Tryz.prog.info? 52).map (·.zero)=some (some (.agg #[.int .i64 0,.int .i64 0,.int .i64 0,.int .i64 0,.int .i64 0])):=by kernel_rfl
instance:TyZ Tryz.prog 52 [.d false (.i .i64 0),.d false (.i .i64 0),.d false (.i .i64 0),.d false (.i .i64 0),.d false (.i .i64 0)]:=⟨by obtain⟨i,h1,h2⟩:=bI Tryz.z52;exact⟨i,_,h1,h2,rfl⟩⟩
instance:TyE Tryz.prog 52 [.i .i64 0,.i .i64 0,.i .i64 0,.i .i64 0,.i .i64 0]:=⟨by obtain⟨i,h1,h2⟩:=bI Tryz.z52;exact⟨i,_,h1,h2,rfl⟩⟩
instance:TyB Tryz.prog 52 [(0,1),(1,1),(2,1),(3,1),(4,1)]:=⟨_,Tryz.underlying52,fun w=>by kernel_rfl⟩
instance:TyF Tryz.prog 52 0 0 3:=⟨_,_,Tryz.underlying52,rfl,rfl,rfl,bj (n:=1) (by kernel_rfl) (by decide)⟩
instance:TyF Tryz.prog 52 1 1 3:=⟨_,_,Tryz.underlying52,rfl,rfl,rfl,bj (n:=1) (by kernel_rfl) (by decide)⟩
instance:TyF Tryz.prog 52 2 2 3:=⟨_,_,Tryz.underlying52,rfl,rfl,rfl,bj (n:=1) (by kernel_rfl) (by decide)⟩
instance:TyF Tryz.prog 52 3 3 3:=⟨_,_,Tryz.underlying52,rfl,rfl,rfl,bj (n:=1) (by kernel_rfl) (by decide)⟩
instance:TyF Tryz.prog 52 4 4 3:=⟨_,_,Tryz.underlying52,rfl,rfl,rfl,bj (n:=1) (by kernel_rfl) (by decide)⟩
instance:TyN Tryz.prog 54 3:=⟨bH (by kernel_rfl)⟩
instance:TyAg Tryz.prog 54 3:=⟨fun w=>by kernel_rfl,bH (by kernel_rfl)⟩
theorem Tryz.z54:(Tryz.prog.info? 54).map (·.zero)=some (some (.agg #[.int .i64 0,.int .i64 0,.int .i64 0])):=by kernel_rfl
instance:TyZ Tryz.prog 54 [.d false (.i .i64 0),.d false (.i .i64 0),.d false (.i .i64 0)]:=⟨by obtain⟨i,h1,h2⟩:=bI Tryz.z54;exact⟨i,_,h1,h2,rfl⟩⟩
instance:TyE Tryz.prog 54 [.i .i64 0,.i .i64 0,.i .i64 0]:=⟨by obtain⟨i,h1,h2⟩:=bI Tryz.z54;exact⟨i,_,h1,h2,rfl⟩⟩
instance:TyB Tryz.prog 54 [(0,1),(1,1),(2,1)]:=⟨_,Tryz.underlying54,fun w=>by kernel_rfl⟩
instance:TyF Tryz.prog 54 0 0 3:=⟨_,_,Tryz.underlying54,rfl,rfl,rfl,bj (n:=1) (by kernel_rfl) (by decide)⟩
instance:TyF Tryz.prog 54 1 1 3:=⟨_,_,Tryz.underlying54,rfl,rfl,rfl,bj (n:=1) (by kernel_rfl) (by decide)⟩
instance:TyF Tryz.prog 54 2 2 3:=⟨_,_,Tryz.underlying54,rfl,rfl,rfl,bj (n:=1) (by kernel_rfl) (by decide)⟩
instance:TyN Tryz.prog 56 2:=⟨bH (by kernel_rfl)⟩
instance:TyAg Tryz.prog 56 2:=⟨fun w=>by kernel_rfl,bH (by kernel_rfl)⟩
theorem Tryz.z56:(Tryz.prog.info? 56).map (·.zero)=some (some (.agg #[.int .i64 0,.slice none 0 0])):=by kernel_rfl
instance:TyZ Tryz.prog 56 [.d false (.i .i64 0),.nil]:=⟨by obtain⟨i,h1,h2⟩:=bI Tryz.z56;exact⟨i,_,h1,h2,rfl⟩⟩
instance:TyE Tryz.prog 56 [.i .i64 0,.l []]:=⟨by obtain⟨i,h1,h2⟩:=bI Tryz.z56;exact⟨i,_,h1,h2,rfl⟩⟩
instance:TyB Tryz.prog 56 [(0,1),(1,1)]:=⟨_,Tryz.underlying56,fun w=>by kernel_rfl⟩
instance:TyF Tryz.prog 56 0 0 3:=⟨_,_,Tryz.underlying56,rfl,rfl,rfl,bj (n:=1) (by kernel_rfl) (by decide)⟩
instance:TyF Tryz.prog 56 1 1 36:=⟨_,_,Tryz.underlying56,rfl,rfl,rfl,bj (n:=1) (by kernel_rfl) (by decide)⟩
instance:TyN Tryz.prog 58 3:=⟨bH (by kernel_rfl)⟩
instance:TyAg Tryz.prog 58 3:=⟨fun w=>by kernel_rfl,bH (by kernel_rfl)⟩
theorem Tryz.z58:(Tryz.prog.info? 58).map (·.zero)=some (some (.agg #[.int .i64 0,.int .i64 0,.int .i64 0])):=by kernel_rfl
instance:TyZ Tryz.prog 58 [.d false (.i .i64 0),.d false (.i .i64 0),.d false (.i .i64 0)]:=⟨by obtain⟨i,h1,h2⟩:=bI Tryz.z58;exact⟨i,_,h1,h2,rfl⟩⟩
instance:TyE Tryz.prog 58 [.i .i64 0,.i .i64 0,.i .i64 0]:=⟨by obtain⟨i,h1,h2⟩:=bI Tryz.z58;exact⟨i,_,h1,h2,rfl⟩⟩
instance:TyB Tryz.prog 58 [(0,1),(1,1),(2,1)]:=⟨_,Tryz.underlying58,fun w=>by kernel_rfl⟩
instance:TyF Tryz.prog 58 0 0 3:=⟨_,_,Tryz.underlying58,rfl,rfl,rfl,bj (n:=1) (by kernel_rfl) (by decide)⟩
instance:TyF Tryz.prog 58 1 1 3:=⟨_,_,Tryz.underlying58,rfl,rfl,rfl,bj (n:=1) (by kernel_rfl) (by decide)⟩
instance:TyF Tryz.prog 58 2 2 3:=⟨_,_,Tryz.underlying58,rfl,rfl,rfl,bj (n:=1) (by kernel_rfl) (by decide)⟩
instance:TyN Tryz.prog 60 30:=⟨bH (by kernel_rfl)⟩
instance:TyAg Tryz.prog 60 30:=⟨fun w=>by kernel_rfl,bH (by kernel_rfl)⟩
theorem Tryz.z60:(Tryz.prog.info? 60).map (·.zero)=some (some (.agg #[.int .i64 0,.int .i64 0,.int .i64 0,.int .i64 0,.int .i64 0,.int .i64 0,.int .i64 0,.slice none 0 0,.int .i64 0,.int .i64 0,.int .i64 0,.int .i64 0,.int .i64 0,.int .i64 0,.int .i64 0,.int .i64 0,.int .i64 0,.int .i64 0,.int .i64 0,.int .i64 0,.int .i64 0,.int .i64 0,.int .i64 0,.slice none 0 0,.int .i64 0,.slice none 0 0,.int .i64 0,.int .i64 0,.int .i64 0,.int .i64 0])):=by kernel_rfl
instance:TyZ Tryz.prog 60 [.d false (.i .i64 0),.d false (.i .i64 0),.d false (.i .i64 0),.d false (.i .i64 0),.d false (.i .i64 0),.d false (.i .i64 0),.d false (.i .i64 0),.nil,.d false (.i .i64 0),.d false (.i .i64 0),.d false (.i .i64 0),.d false (.i .i64 0),.d false (.i .i64 0),.d false (.i .i64 0),.d false (.i .i64 0),.d false (.i .i64 0),.d false (.i .i64 0),.d false (.i .i64 0),.d false (.i .i64 0),.d false (.i .i64 0),.d false (.i .i64 0),.d false (.i .i64 0),.d false (.i .i64 0),.nil,.d false (.i .i64 0),.nil,.d false (.i .i64 0),.d false (.i .i64 0),.d false (.i .i64 0),.d false (.i .i64 0)]:=⟨by obtain⟨i,h1,h2⟩:=bI Tryz.z60;exact⟨i,_,h1,h2,rfl⟩⟩
instance:TyE Tryz.prog 60 [.i .i64 0,.i .i64 0,.i .i64 0,.i .i64 0,.i .i64 0,.i .i64 0,.i .i64 0,.l [],.i .i64 0,.i .i64 0,.i .i64 0,.i .i64 0,.i .i64 0,.i .i64 0,.i .i64 0,.i .i64 0,.i .i64 0,.i .i64 0,.i .i64 0,.i .i64 0,.i .i64 0,.i .i64 0,.i .i64 0,.l [],.i .i64 0,.l [],.i .i64 0,.i .i64 0,.i .i64 0,.i .i64 0]:=⟨by obtain⟨i,h1,h2⟩:=bI Tryz.z60;exact⟨i,_,h1,h2,rfl⟩⟩
instance:TyB Tryz.prog 60 [(0,4),(4,4),(8,1),(9,5),(14,1),(15,1),(16,1),(17,1),(18,1),(19,1),(20,3),(23,1),(24,2),(26,1),(27,3)]:=⟨_,Tryz.underlying60,fun w=>by kernel_rfl⟩
instance:TyF Tryz.prog 60 0 0 47:=⟨_,_,Tryz.underlying60,rfl,rfl,rfl,bj (n:=4) (by kernel_rfl) (by decide)⟩
instance:TyF Tryz.prog 60 1 4 50:=⟨_,_,Tryz.underlying60,rfl,rfl,rfl,bj (n:=4) (by kernel_rfl) (by decide)⟩
instance:TyF Tryz.prog 60 2 8 3:=⟨_,_,Tryz.underlying60,rfl,rfl,rfl,bj (n:=1) (by kernel_rfl) (by decide)⟩
instance:TyF Tryz.prog 60 3 9 52:=⟨_,_,Tryz.underlying60,rfl,rfl,rfl,bj (n:=5) (by kernel_rfl) (by decide)⟩
instance:TyF Tryz.prog 60 4 14 3:=⟨_,_,Tryz.underlying60,rfl,rfl,rfl,bj (n:=1) (by kernel_rfl) (by decide)⟩
instance:TyF Tryz.prog 60 5 15 3:=⟨_,_,Tryz.underlying60,rfl,rfl,rfl,bj (n:=1) (by kernel_rfl) (by decide)⟩
instance:TyF Tryz.prog 60 6 16 3:=⟨_,_,Tryz.underlying60,rfl,rfl,rfl,bj (n:=1) (by kernel_rfl) (by decide)⟩
instance:TyF Tryz.prog 60 7 17 3:=⟨_,_,Tryz.underlying60,rfl,rfl,rfl,bj (n:=1) (by kernel_rfl) (by decide)⟩
instance:TyF Tryz.prog 60 8 18 3:=⟨_,_,Tryz.underlying60,rfl,rfl,rfl,bj (n:=1) (by kernel_rfl) (by decide)⟩
instance:TyF Tryz.prog 60 9 19 3:=⟨_,_,Tryz.underlying60,rfl,rfl,rfl,bj (n:=1) (by kernel_rfl) (by decide)⟩
instance:TyF Tryz.prog 60 10 20 54:=⟨_,_,Tryz.underlying60,rfl,rfl,rfl,bj (n:=3) (by kernel_rfl) (by decide)⟩
instance:TyF Tryz.prog 60 11 23 37:=⟨_,_,Tryz.underlying60,rfl,rfl,rfl,bj (n:=1) (by kernel_rfl) (by decide)⟩
instance:TyF Tryz.prog 60 12 24 56:=⟨_,_,Tryz.underlying60,rfl,rfl,rfl,bj (n:=2) (by kernel_rfl) (by decide)⟩
instance:TyF Tryz.prog 60 13 26 3:=⟨_,_,Tryz.underlying60,rfl,rfl,rfl,bj (n:=1) (by kernel_rfl) (by decide)⟩
instance:TyF Tryz.prog 60 14 27 58:=⟨_,_,Tryz.underlying60,rfl,rfl,rfl,bj (n:=3) (by kernel_rfl) (by decide)⟩
instance:TyN Tryz.prog 64 1:=⟨bH (by kernel_rfl)⟩
instance:TySc Tryz.prog 64:=⟨fun w=>by kernel_rfl,bH (by kernel_rfl)⟩
theorem Tryz.z64:(Tryz.prog.info? 64).map (·.zero)=some (some (.slice none 0 0)):=by kernel_rfl
instance:TyZ Tryz.prog 64 [.nil]:=⟨by obtain⟨i,h1,h2⟩:=bI Tryz.z64;exact⟨i,_,h1,h2,rfl⟩⟩
instance:TyE Tryz.prog 64 [.l []]:=⟨by obtain⟨i,h1,h2⟩:=bI Tryz.z64;exact⟨i,_,h1,h2,rfl⟩⟩
instance:TySl Tryz.prog 64 161 2 16:=⟨Tryz.underlying64,jX (z:=.agg #[.int .i64 0,.int .i64 0]) (by kernel_rfl) rfl,by decide⟩
instance:TyN Tryz.prog 66 4:=⟨bH (by kernel_rfl)⟩
instance:TyAg Tryz.prog 66 4:=⟨fun w=>by kernel_rfl,bH (by kernel_rfl)⟩
theorem Tryz.z66:(Tryz.prog.info? 66).map (·.zero)=some (some (.agg #[.int .i64 0,.int .i64 0,.int .i64 0,.slice none 0 0])):=by kernel_rfl
instance:TyZ Tryz.prog 66 [.d false (.i .i64 0),.d false (.i .i64 0),.d false (.i .i64 0),.nil]:=⟨by obtain⟨i,h1,h2⟩:=bI Tryz.z66;exact⟨i,_,h1,h2,rfl⟩⟩
instance:TyE Tryz.prog 66 [.i .i64 0,.i .i64 0,.i .i64 0,.l []]:=⟨by obtain⟨i,h1,h2⟩:=bI Tryz.z66;exact⟨i,_,h1,h2,rfl⟩⟩
instance:TyB Tryz.prog 66 [(0,1),(1,1),(2,1),(3,1)]:=⟨_,Tryz.underlying66,fun w=>by kernel_rfl⟩
instance:TyF Tryz.prog 66 0 0 3:=⟨_,_,Tryz.underlying66,rfl,rfl,rfl,bj (n:=1) (by kernel_rfl) (by decide)⟩
instance:TyF Tryz.prog 66 1 1 3:=⟨_,_,Tryz.underlying66,rfl,rfl,rfl,bj (n:=1) (by kernel_rfl) (by decide)⟩
instance:TyF Tryz.prog 66 2 2 3:=⟨_,_,Tryz.underlying66,rfl,rfl,rfl,bj (n:=1) (by kernel_rfl) (by decide)⟩
instance:TyF Tryz.prog 66 3 3 64:=⟨_,_,Tryz.underlying66,rfl,rfl,rfl,bj (n:=1) (by kernel_rfl) (by decide)⟩
instance:TyN Tryz.prog 72 11:=⟨bH (by kernel_rfl)⟩
instance:TyAg Tryz.prog 72 11:=⟨fun w=>by kernel_rfl,bH (by kernel_rfl)⟩
theorem Tryz.z72:(Tryz.prog.info? 72).map (·.zero)=some (some (.agg #[.int .i64 0,.int .i64 0,.int .i64 0,.int .i64 0,.int .i64 0,.int .i64 0,.int .i64 0,.int .i64 0,.int .i64 0,.int .i64 0,.int .i64 0])):=by kernel_rfl
instance:TyZ Tryz.prog 72 [.d false (.i .i64 0),.d false (.i .i64 0),.d false (.i .i64 0),.d false (.i .i64 0),.d false (.i .i64 0),.d false (.i .i64 0),.d false (.i .i64 0),.d false (.i .i64 0),.d false (.i .i64 0),.d false (.i .i64 0),.d false (.i .i64 0)]:=⟨by obtain⟨i,h1,h2⟩:=bI Tryz.z72;exact⟨i,_,h1,h2,rfl⟩⟩
instance:TyE Tryz.prog 72 [.i .i64 0,.i .i64 0,.i .i64 0,.i .i64 0,.i .i64 0,.i .i64 0,.i .i64 0,.i .i64 0,.i .i64 0,.i .i64 0,.i .i64 0]:=⟨by obtain⟨i,h1,h2⟩:=bI Tryz.z72;exact⟨i,_,h1,h2,rfl⟩⟩
instance:TyB Tryz.prog 72 [(0,1),(1,1),(2,1),(3,1),(4,1),(5,5),(10,1)]:=⟨_,Tryz.underlying72,fun w=>by kernel_rfl⟩
instance:TyF Tryz.prog 72 0 0 3:=⟨_,_,Tryz.underlying72,rfl,rfl,rfl,bj (n:=1) (by kernel_rfl) (by decide)⟩
instance:TyF Tryz.prog 72 1 1 3:=⟨_,_,Tryz.underlying72,rfl,rfl,rfl,bj (n:=1) (by kernel_rfl) (by decide)⟩
instance:TyF Tryz.prog 72 2 2 3:=⟨_,_,Tryz.underlying72,rfl,rfl,rfl,bj (n:=1) (by kernel_rfl) (by decide)⟩
instance:TyF Tryz.prog 72 3 3 3:=⟨_,_,Tryz.underlying72,rfl,rfl,rfl,bj (n:=1) (by kernel_rfl) (by decide)⟩
instance:TyF Tryz.prog 72 4 4 3:=⟨_,_,Tryz.underlying72,rfl,rfl,rfl,bj (n:=1) (by kernel_rfl) (by decide)⟩
instance:TyF Tryz.prog 72 5 5 52:=⟨_,_,Tryz.underlying72,rfl,rfl,rfl,bj (n:=5) (by kernel_rfl) (by decide)⟩
instance:TyF Tryz.prog 72 6 10 3:=⟨_,_,Tryz.underlying72,rfl,rfl,rfl,bj (n:=1) (by kernel_rfl) (by decide)⟩
instance:TyN Tryz.prog 74 4:=⟨bH (by kernel_rfl)⟩
instance:TyAg Tryz.prog 74 4:=⟨fun w=>by kernel_rfl,bH (by kernel_rfl)⟩
theorem Tryz.z74:(Tryz.prog.info? 74).map (·.zero)=some (some (.agg #[.int .i64 0,.int .i64 0,.slice none 0 0,.int .i64 0])):=by kernel_rfl
instance:TyZ Tryz.prog 74 [.d false (.i .i64 0),.d false (.i .i64 0),.nil,.d false (.i .i64 0)]:=⟨by obtain⟨i,h1,h2⟩:=bI Tryz.z74;exact⟨i,_,h1,h2,rfl⟩⟩
instance:TyE Tryz.prog 74 [.i .i64 0,.i .i64 0,.l [],.i .i64 0]:=⟨by obtain⟨i,h1,h2⟩:=bI Tryz.z74;exact⟨i,_,h1,h2,rfl⟩⟩
instance:TyB Tryz.prog 74 [(0,1),(1,1),(2,1),(3,1)]:=⟨_,Tryz.underlying74,fun w=>by kernel_rfl⟩
instance:TyF Tryz.prog 74 0 0 3:=⟨_,_,Tryz.underlying74,rfl,rfl,rfl,bj (n:=1) (by kernel_rfl) (by decide)⟩
instance:TyF Tryz.prog 74 1 1 3:=⟨_,_,Tryz.underlying74,rfl,rfl,rfl,bj (n:=1) (by kernel_rfl) (by decide)⟩
instance:TyF Tryz.prog 74 2 2 22:=⟨_,_,Tryz.underlying74,rfl,rfl,rfl,bj (n:=1) (by kernel_rfl) (by decide)⟩
instance:TyF Tryz.prog 74 3 3 3:=⟨_,_,Tryz.underlying74,rfl,rfl,rfl,bj (n:=1) (by kernel_rfl) (by decide)⟩
instance:TyN Tryz.prog 76 6:=⟨bH (by kernel_rfl)⟩
instance:TyAg Tryz.prog 76 6:=⟨fun w=>by kernel_rfl,bH (by kernel_rfl)⟩
theorem Tryz.z76:(Tryz.prog.info? 76).map (·.zero)=some (some (.agg #[.int .i64 0,.int .i64 0,.int .i64 0,.int .i64 0,.slice none 0 0,.int .i64 0])):=by kernel_rfl
instance:TyZ Tryz.prog 76 [.d false (.i .i64 0),.d false (.i .i64 0),.d false (.i .i64 0),.d false (.i .i64 0),.nil,.d false (.i .i64 0)]:=⟨by obtain⟨i,h1,h2⟩:=bI Tryz.z76;exact⟨i,_,h1,h2,rfl⟩⟩
instance:TyE Tryz.prog 76 [.i .i64 0,.i .i64 0,.i .i64 0,.i .i64 0,.l [],.i .i64 0]:=⟨by obtain⟨i,h1,h2⟩:=bI Tryz.z76;exact⟨i,_,h1,h2,rfl⟩⟩
instance:TyB Tryz.prog 76 [(0,1),(1,1),(2,4)]:=⟨_,Tryz.underlying76,fun w=>by kernel_rfl⟩
instance:TyF Tryz.prog 76 0 0 3:=⟨_,_,Tryz.underlying76,rfl,rfl,rfl,bj (n:=1) (by kernel_rfl) (by decide)⟩
instance:TyF Tryz.prog 76 1 1 3:=⟨_,_,Tryz.underlying76,rfl,rfl,rfl,bj (n:=1) (by kernel_rfl) (by decide)⟩
instance:TyF Tryz.prog 76 2 2 74:=⟨_,_,Tryz.underlying76,rfl,rfl,rfl,bj (n:=4) (by kernel_rfl) (by decide)⟩
instance:TyN Tryz.prog 78 21:=⟨bH (by kernel_rfl)⟩
instance:TyAg Tryz.prog 78 21:=⟨fun w=>by kernel_rfl,bH (by kernel_rfl)⟩
theorem Tryz.z78:(Tryz.prog.info? 78).map (·.zero)=some (some (.agg #[.int .i64 0,.bool false,.bool false,.int .i64 0,.int .i64 0,.int .i64 0,.int .i64 0,.int .i64 0,.int .i64 0,.int .i64 0,.int .i64 0,.int .i64 0,.int .i64 0,.int .i64 0,.int .i64 0,.int .i64 0,.int .i64 0,.int .i64 0,.int .i64 0,.slice none 0 0,.int .i64 0])):=by kernel_rfl
instance:TyZ Tryz.prog 78 [.d false (.i .i64 0),.d false (.b false),.d false (.b false),.d false (.i .i64 0),.d false (.i .i64 0),.d false (.i .i64 0),.d false (.i .i64 0),.d false (.i .i64 0),.d false (.i .i64 0),.d false (.i .i64 0),.d false (.i .i64 0),.d false (.i .i64 0),.d false (.i .i64 0),.d false (.i .i64 0),.d false (.i .i64 0),.d false (.i .i64 0),.d false (.i .i64 0),.d false (.i .i64 0),.d false (.i .i64 0),.nil,.d false (.i .i64 0)]:=⟨by obtain⟨i,h1,h2⟩:=bI Tryz.z78;exact⟨i,_,h1,h2,rfl⟩⟩
instance:TyE Tryz.prog 78 [.i .i64 0,.b false,.b false,.i .i64 0,.i .i64 0,.i .i64 0,.i .i64 0,.i .i64 0,.i .i64 0,.i .i64 0,.i .i64 0,.i .i64 0,.i .i64 0,.i .i64 0,.i .i64 0,.i .i64 0,.i .i64 0,.i .i64 0,.i .i64 0,.l [],.i .i64 0]:=⟨by obtain⟨i,h1,h2⟩:=bI Tryz.z78;exact⟨i,_,h1,h2,rfl⟩⟩
instance:TyB Tryz.prog 78 [(0,1),(1,1),(2,1),(3,1),(4,11),(15,6)]:=⟨_,Tryz.underlying78,fun w=>by kernel_rfl⟩
instance:TyF Tryz.prog 78 0 0 3:=⟨_,_,Tryz.underlying78,rfl,rfl,rfl,bj (n:=1) (by kernel_rfl) (by decide)⟩
instance:TyF Tryz.prog 78 1 1 4:=⟨_,_,Tryz.underlying78,rfl,rfl,rfl,bj (n:=1) (by kernel_rfl) (by decide)⟩
instance:TyF Tryz.prog 78 2 2 4:=⟨_,_,Tryz.underlying78,rfl,rfl,rfl,bj (n:=1) (by kernel_rfl) (by decide)⟩
instance:TyF Tryz.prog 78 3 3 3:=⟨_,_,Tryz.underlying78,rfl,rfl,rfl,bj (n:=1) (by kernel_rfl) (by decide)⟩
instance:TyF Tryz.prog 78 4 4 72:=⟨_,_,Tryz.underlying78,rfl,rfl,rfl,bj (n:=11) (by kernel_rfl) (by decide)⟩
instance:TyF Tryz.prog 78 5 15 76:=⟨_,_,Tryz.underlying78,rfl,rfl,rfl,bj (n:=6) (by kernel_rfl) (by decide)⟩
instance:TyN Tryz.prog 80 25:=⟨bH (by kernel_rfl)⟩
instance:TyAg Tryz.prog 80 25:=⟨fun w=>by kernel_rfl,bH (by kernel_rfl)⟩
theorem Tryz.z80:(Tryz.prog.info? 80).map (·.zero)=some (some (.agg #[.int .i64 0,.int .i64 0,.int .i64 0,.slice none 0 0,.int .i64 0,.bool false,.bool false,.int .i64 0,.int .i64 0,.int .i64 0,.int .i64 0,.int .i64 0,.int .i64 0,.int .i64 0,.int .i64 0,.int .i64 0,.int .i64 0,.int .i64 0,.int .i64 0,.int .i64 0,.int .i64 0,.int .i64 0,.int .i64 0,.slice none 0 0,.int .i64 0])):=by kernel_rfl
instance:TyZ Tryz.prog 80 [.d false (.i .i64 0),.d false (.i .i64 0),.d false (.i .i64 0),.nil,.d false (.i .i64 0),.d false (.b false),.d false (.b false),.d false (.i .i64 0),.d false (.i .i64 0),.d false (.i .i64 0),.d false (.i .i64 0),.d false (.i .i64 0),.d false (.i .i64 0),.d false (.i .i64 0),.d false (.i .i64 0),.d false (.i .i64 0),.d false (.i .i64 0),.d false (.i .i64 0),.d false (.i .i64 0),.d false (.i .i64 0),.d false (.i .i64 0),.d false (.i .i64 0),.d false (.i .i64 0),.nil,.d false (.i .i64 0)]:=⟨by obtain⟨i,h1,h2⟩:=bI Tryz.z80;exact⟨i,_,h1,h2,rfl⟩⟩
instance:TyE Tryz.prog 80 [.i .i64 0,.i .i64 0,.i .i64 0,.l [],.i .i64 0,.b false,.b false,.i .i64 0,.i .i64 0,.i .i64 0,.i .i64 0,.i .i64 0,.i .i64 0,.i .i64 0,.i .i64 0,.i .i64 0,.i .i64 0,.i .i64 0,.i .i64 0,.i .i64 0,.i .i64 0,.i .i64 0,.i .i64 0,.l [],.i .i64 0]:=⟨by obtain⟨i,h1,h2⟩:=bI Tryz.z80;exact⟨i,_,h1,h2,rfl⟩⟩
instance:TyB Tryz.prog 80 [(0,1),(1,1),(2,1),(3,1),(4,21)]:=⟨_,Tryz.underlying80,fun w=>by kernel_rfl⟩
instance:TyF Tryz.prog 80 0 0 3:=⟨_,_,Tryz.underlying80,rfl,rfl,rfl,bj (n:=1) (by kernel_rfl) (by decide)⟩
instance:TyF Tryz.prog 80 1 1 3:=⟨_,_,Tryz.underlying80,rfl,rfl,rfl,bj (n:=1) (by kernel_rfl) (by decide)⟩
instance:TyF Tryz.prog 80 2 2 3:=⟨_,_,Tryz.underlying80,rfl,rfl,rfl,bj (n:=1) (by kernel_rfl) (by decide)⟩
instance:TyF Tryz.prog 80 3 3 22:=⟨_,_,Tryz.underlying80,rfl,rfl,rfl,bj (n:=1) (by kernel_rfl) (by decide)⟩
instance:TyF Tryz.prog 80 4 4 78:=⟨_,_,Tryz.underlying80,rfl,rfl,rfl,bj (n:=21) (by kernel_rfl) (by decide)⟩
instance:TyN Tryz.prog 91 1:=⟨bH (by kernel_rfl)⟩
instance:TySc Tryz.prog 91:=⟨fun w=>by kernel_rfl,bH (by kernel_rfl)⟩
theorem Tryz.z91:(Tryz.prog.info? 91).map (·.zero)=some (some (.slice none 0 0)):=by kernel_rfl
instance:TyZ Tryz.prog 91 [.nil]:=⟨by obtain⟨i,h1,h2⟩:=bI Tryz.z91;exact⟨i,_,h1,h2,rfl⟩⟩
instance:TyE Tryz.prog 91 [.l []]:=⟨by obtain⟨i,h1,h2⟩:=bI Tryz.z91;exact⟨i,_,h1,h2,rfl⟩⟩
instance:TySl Tryz.prog 91 107 2 32:=⟨Tryz.underlying91,jX (z:=.agg #[.int .i64 0,.slice none 0 0]) (by kernel_rfl) rfl,by decide⟩
instance:TyN Tryz.prog 97 1:=⟨bH (by kernel_rfl)⟩
instance:TyAg Tryz.prog 97 1:=⟨fun w=>by kernel_rfl,bH (by kernel_rfl)⟩
theorem Tryz.z97:(Tryz.prog.info? 97).map (·.zero)=some (some (.agg #[.slice none 0 0])):=by kernel_rfl
instance:TyZ Tryz.prog 97 [.nil]:=⟨by obtain⟨i,h1,h2⟩:=bI Tryz.z97;exact⟨i,_,h1,h2,rfl⟩⟩
instance:TyE Tryz.prog 97 [.l []]:=⟨by obtain⟨i,h1,h2⟩:=bI Tryz.z97;exact⟨i,_,h1,h2,rfl⟩⟩
instance:TyB Tryz.prog 97 [(0,1)]:=⟨_,Tryz.underlying97,fun w=>by kernel_rfl⟩
instance:TyF Tryz.prog 97 0 0 48:=⟨_,_,Tryz.underlying97,rfl,rfl,rfl,bj (n:=1) (by kernel_rfl) (by decide)⟩
instance:TyN Tryz.prog 104 1:=⟨bH (by kernel_rfl)⟩
instance:TyAg Tryz.prog 104 1:=⟨fun w=>by kernel_rfl,bH (by kernel_rfl)⟩
theorem Tryz.z104:(Tryz.prog.info? 104).map (·.zero)=some (some (.agg #[.slice none 0 0])):=by kernel_rfl
instance:TyZ Tryz.prog 104 [.nil]:=⟨by obtain⟨i,h1,h2⟩:=bI Tryz.z104;exact⟨i,_,h1,h2,rfl⟩⟩
instance:TyE Tryz.prog 104 [.l []]:=⟨by obtain⟨i,h1,h2⟩:=bI Tryz.z104;exact⟨i,_,h1,h2,rfl⟩⟩
instance:TyB Tryz.prog 104 [(0,1)]:=⟨_,Tryz.underlying104,fun w=>by kernel_rfl⟩
instance:TyF Tryz.prog 104 0 0 22:=⟨_,_,Tryz.underlying104,rfl,rfl,rfl,bj (n:=1) (by kernel_rfl) (by decide)⟩
instance:TyN Tryz.prog 107 2:=⟨bH (by kernel_rfl)⟩
instance:TyAg Tryz.prog 107 2:=⟨fun w=>by kernel_rfl,bH (by kernel_rfl)⟩
theorem Tryz.z107:(Tryz.prog.info? 107).map (·.zero)=some (some (.agg #[.int .i64 0,.slice none 0 0])):=by kernel_rfl
instance:TyZ Tryz.prog 107 [.d false (.i .i64 0),.nil]:=⟨by obtain⟨i,h1,h2⟩:=bI Tryz.z107;exact⟨i,_,h1,h2,rfl⟩⟩
instance:TyE Tryz.prog 107 [.i .i64 0,.l []]:=⟨by obtain⟨i,h1,h2⟩:=bI Tryz.z107;exact⟨i,_,h1,h2,rfl⟩⟩
instance:TyB Tryz.prog 107 [(0,1),(1,1)]:=⟨_,Tryz.underlying107,fun w=>by kernel_rfl⟩
instance:TyF Tryz.prog 107 0 0 3:=⟨_,_,Tryz.underlying107,rfl,rfl,rfl,bj (n:=1) (by kernel_rfl) (by decide)⟩
instance:TyF Tryz.prog 107 1 1 97:=⟨_,_,Tryz.underlying107,rfl,rfl,rfl,bj (n:=1) (by kernel_rfl) (by decide)⟩
instance:TyN Tryz.prog 136 2:=⟨bH (by kernel_rfl)⟩
instance:TyAg Tryz.prog 136 2:=⟨fun w=>by kernel_rfl,bH (by kernel_rfl)⟩
theorem Tryz.z136:(Tryz.prog.info? 136).map (·.zero)=some (some (.agg #[.int .i64 0,.slice none 0 0])):=by kernel_rfl
instance:TyZ Tryz.prog 136 [.d false (.i .i64 0),.nil]:=⟨by obtain⟨i,h1,h2⟩:=bI Tryz.z136;exact⟨i,_,h1,h2,rfl⟩⟩
instance:TyE Tryz.prog 136 [.i .i64 0,.l []]:=⟨by obtain⟨i,h1,h2⟩:=bI Tryz.z136;exact⟨i,_,h1,h2,rfl⟩⟩
instance:TyB Tryz.prog 136 [(0,1),(1,1)]:=⟨_,Tryz.underlying136,fun w=>by kernel_rfl⟩
instance:TyF Tryz.prog 136 0 0 3:=⟨_,_,Tryz.underlying136,rfl,rfl,rfl,bj (n:=1) (by kernel_rfl) (by decide)⟩
instance:TyF Tryz.prog 136 1 1 22:=⟨_,_,Tryz.underlying136,rfl,rfl,rfl,bj (n:=1) (by kernel_rfl) (by decide)⟩
instance:TyN Tryz.prog 143 3:=⟨bH (by kernel_rfl)⟩
instance:TyAg Tryz.prog 143 3:=⟨fun w=>by kernel_rfl,bH (by kernel_rfl)⟩
theorem Tryz.z143:(Tryz.prog.info? 143).map (·.zero)=some (some (.agg #[.slice none 0 0,.int .i64 0,.int .i64 0])):=by kernel_rfl
instance:TyZ Tryz.prog 143 [.nil,.d false (.i .i64 0),.d false (.i .i64 0)]:=⟨by obtain⟨i,h1,h2⟩:=bI Tryz.z143;exact⟨i,_,h1,h2,rfl⟩⟩
instance:TyE Tryz.prog 143 [.l [],.i .i64 0,.i .i64 0]:=⟨by obtain⟨i,h1,h2⟩:=bI Tryz.z143;exact⟨i,_,h1,h2,rfl⟩⟩
instance:TyB Tryz.prog 143 [(0,1),(1,1),(2,1)]:=⟨_,Tryz.underlying143,fun w=>by kernel_rfl⟩
instance:TyF Tryz.prog 143 0 0 22:=⟨_,_,Tryz.underlying143,rfl,rfl,rfl,bj (n:=1) (by kernel_rfl) (by decide)⟩
instance:TyF Tryz.prog 143 1 1 3:=⟨_,_,Tryz.underlying143,rfl,rfl,rfl,bj (n:=1) (by kernel_rfl) (by decide)⟩
instance:TyF Tryz.prog 143 2 2 3:=⟨_,_,Tryz.underlying143,rfl,rfl,rfl,bj (n:=1) (by kernel_rfl) (by decide)⟩
instance:TyN Tryz.prog 144 1:=⟨bH (by kernel_rfl)⟩
instance:TySc Tryz.prog 144:=⟨fun w=>by kernel_rfl,bH (by kernel_rfl)⟩
theorem Tryz.z144:(Tryz.prog.info? 144).map (·.zero)=some (some (.slice none 0 0)):=by kernel_rfl
instance:TyZ Tryz.prog 144 [.nil]:=⟨by obtain⟨i,h1,h2⟩:=bI Tryz.z144;exact⟨i,_,h1,h2,rfl⟩⟩
instance:TyE Tryz.prog 144 [.l []]:=⟨by obtain⟨i,h1,h2⟩:=bI Tryz.z144;exact⟨i,_,h1,h2,rfl⟩⟩
instance:TySl Tryz.prog 144 80 25 224:=⟨Tryz.underlying144,jX (z:=.agg #[.int .i64 0,.int .i64 0,.int .i64 0,.slice none 0 0,.int .i64 0,.bool false,.bool false,.int .i64 0,.int .i64 0,.int .i64 0,.int .i64 0,.int .i64 0,.int .i64 0,.int .i64 0,.int .i64 0,.int .i64 0,.int .i64 0,.int .i64 0,.int .i64 0,.int .i64 0,.int .i64 0,.int .i64 0,.int .i64 0,.slice none 0 0,.int .i64 0]) (by kernel_rfl) rfl,by decide⟩
instance:TyN Tryz.prog 157 2:=⟨bH (by kernel_rfl)⟩
instance:TyAg Tryz.prog 157 2:=⟨fun w=>by kernel_rfl,bH (by kernel_rfl)⟩
theorem Tryz.z157:(Tryz.prog.info? 157).map (·.zero)=some (some (.agg #[.int .i64 0,.slice none 0 0])):=by kernel_rfl
instance:TyZ Tryz.prog 157 [.d false (.i .i64 0),.nil]:=⟨by obtain⟨i,h1,h2⟩:=bI Tryz.z157;exact⟨i,_,h1,h2,rfl⟩⟩
instance:TyE Tryz.prog 157 [.i .i64 0,.l []]:=⟨by obtain⟨i,h1,h2⟩:=bI Tryz.z157;exact⟨i,_,h1,h2,rfl⟩⟩
instance:TyB Tryz.prog 157 [(0,1),(1,1)]:=⟨_,Tryz.underlying157,fun w=>by kernel_rfl⟩
instance:TyF Tryz.prog 157 0 0 3:=⟨_,_,Tryz.underlying157,rfl,rfl,rfl,bj (n:=1) (by kernel_rfl) (by decide)⟩
instance:TyF Tryz.prog 157 1 1 48:=⟨_,_,Tryz.underlying157,rfl,rfl,rfl,bj (n:=1) (by kernel_rfl) (by decide)⟩
instance:TyN Tryz.prog 161 2:=⟨bH (by kernel_rfl)⟩
instance:TyAg Tryz.prog 161 2:=⟨fun w=>by kernel_rfl,bH (by kernel_rfl)⟩
theorem Tryz.z161:(Tryz.prog.info? 161).map (·.zero)=some (some (.agg #[.int .i64 0,.int .i64 0])):=by kernel_rfl
instance:TyZ Tryz.prog 161 [.d false (.i .i64 0),.d false (.i .i64 0)]:=⟨by obtain⟨i,h1,h2⟩:=bI Tryz.z161;exact⟨i,_,h1,h2,rfl⟩⟩
instance:TyE Tryz.prog 161 [.i .i64 0,.i .i64 0]:=⟨by obtain⟨i,h1,h2⟩:=bI Tryz.z161;exact⟨i,_,h1,h2,rfl⟩⟩
instance:TyB Tryz.prog 161 [(0,1),(1,1)]:=⟨_,Tryz.underlying161,fun w=>by kernel_rfl⟩
instance:TyF Tryz.prog 161 0 0 3:=⟨_,_,Tryz.underlying161,rfl,rfl,rfl,bj (n:=1) (by kernel_rfl) (by decide)⟩
instance:TyF Tryz.prog 161 1 1 3:=⟨_,_,Tryz.underlying161,rfl,rfl,rfl,bj (n:=1) (by kernel_rfl) (by decide)⟩
instance:TyN Tryz.prog 175 1:=⟨bH (by kernel_rfl)⟩
instance:TySc Tryz.prog 175:=⟨fun w=>by kernel_rfl,bH (by kernel_rfl)⟩
theorem Tryz.z175:(Tryz.prog.info? 175).map (·.zero)=some (some (.slice none 0 0)):=by kernel_rfl
instance:TyZ Tryz.prog 175 [.nil]:=⟨by obtain⟨i,h1,h2⟩:=bI Tryz.z175;exact⟨i,_,h1,h2,rfl⟩⟩
instance:TyE Tryz.prog 175 [.l []]:=⟨by obtain⟨i,h1,h2⟩:=bI Tryz.z175;exact⟨i,_,h1,h2,rfl⟩⟩
instance:TySl Tryz.prog 175 47 4 32:=⟨Tryz.underlying175,jX (z:=.agg #[.int .i64 0,.int .i64 0,.int .i64 0,.int .i64 0]) (by kernel_rfl) rfl,by decide⟩
instance:TyN Tryz.prog 181 1:=⟨bH (by kernel_rfl)⟩
instance:TySc Tryz.prog 181:=⟨fun w=>by kernel_rfl,bH (by kernel_rfl)⟩
theorem Tryz.z181:(Tryz.prog.info? 181).map (·.zero)=some (some (.slice none 0 0)):=by kernel_rfl
instance:TyZ Tryz.prog 181 [.nil]:=⟨by obtain⟨i,h1,h2⟩:=bI Tryz.z181;exact⟨i,_,h1,h2,rfl⟩⟩
instance:TyE Tryz.prog 181 [.l []]:=⟨by obtain⟨i,h1,h2⟩:=bI Tryz.z181;exact⟨i,_,h1,h2,rfl⟩⟩
instance:TySl Tryz.prog 181 72 11 88:=⟨Tryz.underlying181,jX (z:=.agg #[.int .i64 0,.int .i64 0,.int .i64 0,.int .i64 0,.int .i64 0,.int .i64 0,.int .i64 0,.int .i64 0,.int .i64 0,.int .i64 0,.int .i64 0]) (by kernel_rfl) rfl,by decide⟩
instance:TyN Tryz.prog 183 15:=⟨bH (by kernel_rfl)⟩
instance:TyAg Tryz.prog 183 15:=⟨fun w=>by kernel_rfl,bH (by kernel_rfl)⟩
theorem Tryz.z183:(Tryz.prog.info? 183).map (·.zero)=some (some (.agg #[.int .i64 0,.int .i64 0,.int .i64 0,.int .i64 0,.int .i64 0,.int .i64 0,.int .i64 0,.int .i64 0,.int .i64 0,.bool false,.int .i64 0,.int .i64 0,.slice none 0 0,.slice none 0 0,.slice none 0 0])):=by kernel_rfl
instance:TyZ Tryz.prog 183 [.d false (.i .i64 0),.d false (.i .i64 0),.d false (.i .i64 0),.d false (.i .i64 0),.d false (.i .i64 0),.d false (.i .i64 0),.d false (.i .i64 0),.d false (.i .i64 0),.d false (.i .i64 0),.d false (.b false),.d false (.i .i64 0),.d false (.i .i64 0),.nil,.nil,.nil]:=⟨by obtain⟨i,h1,h2⟩:=bI Tryz.z183;exact⟨i,_,h1,h2,rfl⟩⟩
instance:TyE Tryz.prog 183 [.i .i64 0,.i .i64 0,.i .i64 0,.i .i64 0,.i .i64 0,.i .i64 0,.i .i64 0,.i .i64 0,.i .i64 0,.b false,.i .i64 0,.i .i64 0,.l [],.l [],.l []]:=⟨by obtain⟨i,h1,h2⟩:=bI Tryz.z183;exact⟨i,_,h1,h2,rfl⟩⟩
instance:TyB Tryz.prog 183 [(0,14),(14,1)]:=⟨_,Tryz.underlying183,fun w=>by kernel_rfl⟩
instance:TyF Tryz.prog 183 0 0 45:=⟨_,_,Tryz.underlying183,rfl,rfl,rfl,bj (n:=14) (by kernel_rfl) (by decide)⟩
instance:TyF Tryz.prog 183 1 14 181:=⟨_,_,Tryz.underlying183,rfl,rfl,rfl,bj (n:=1) (by kernel_rfl) (by decide)⟩
instance:TyN Tryz.prog 188 1:=⟨bH (by kernel_rfl)⟩
instance:TySc Tryz.prog 188:=⟨fun w=>by kernel_rfl,bH (by kernel_rfl)⟩
theorem Tryz.z188:(Tryz.prog.info? 188).map (·.zero)=some (some (.slice none 0 0)):=by kernel_rfl
instance:TyZ Tryz.prog 188 [.nil]:=⟨by obtain⟨i,h1,h2⟩:=bI Tryz.z188;exact⟨i,_,h1,h2,rfl⟩⟩
instance:TyE Tryz.prog 188 [.l []]:=⟨by obtain⟨i,h1,h2⟩:=bI Tryz.z188;exact⟨i,_,h1,h2,rfl⟩⟩
instance:TySl Tryz.prog 188 76 6 64:=⟨Tryz.underlying188,jX (z:=.agg #[.int .i64 0,.int .i64 0,.int .i64 0,.int .i64 0,.slice none 0 0,.int .i64 0]) (by kernel_rfl) rfl,by decide⟩
instance:TyN Tryz.prog 190 36:=⟨bH (by kernel_rfl)⟩
instance:TyAg Tryz.prog 190 36:=⟨fun w=>by kernel_rfl,bH (by kernel_rfl)⟩
theorem Tryz.z190:(Tryz.prog.info? 190).map (·.zero)=some (some (.agg #[.int .i64 0,.int .i64 0,.int .i64 0,.int .i64 0,.int .i64 0,.int .i64 0,.int .i64 0,.slice none 0 0,.int .i64 0,.int .i64 0,.int .i64 0,.int .i64 0,.int .i64 0,.int .i64 0,.int .i64 0,.int .i64 0,.int .i64 0,.int .i64 0,.int .i64 0,.int .i64 0,.int .i64 0,.int .i64 0,.int .i64 0,.slice none 0 0,.int .i64 0,.slice none 0 0,.int .i64 0,.int .i64 0,.int .i64 0,.int .i64 0,.int .i64 0,.int .i64 0,.int .i64 0,.slice none 0 0,.slice none 0 0,.slice none 0 0])):=by kernel_rfl
instance:TyZ Tryz.prog 190 [.d false (.i .i64 0),.d false (.i .i64 0),.d false (.i .i64 0),.d false (.i .i64 0),.d false (.i .i64 0),.d false (.i .i64 0),.d false (.i .i64 0),.nil,.d false (.i .i64 0),.d false (.i .i64 0),.d false (.i .i64 0),.d false (.i .i64 0),.d false (.i .i64 0),.d false (.i .i64 0),.d false (.i .i64 0),.d false (.i .i64 0),.d false (.i .i64 0),.d false (.i .i64 0),.d false (.i .i64 0),.d false (.i .i64 0),.d false (.i .i64 0),.d false (.i .i64 0),.d false (.i .i64 0),.nil,.d false (.i .i64 0),.nil,.d false (.i .i64 0),.d false (.i .i64 0),.d false (.i .i64 0),.d false (.i .i64 0),.d false (.i .i64 0),.d false (.i .i64 0),.d false (.i .i64 0),.nil,.nil,.nil]:=⟨by obtain⟨i,h1,h2⟩:=bI Tryz.z190;exact⟨i,_,h1,h2,rfl⟩⟩
instance:TyE Tryz.prog 190 [.i .i64 0,.i .i64 0,.i .i64 0,.i .i64 0,.i .i64 0,.i .i64 0,.i .i64 0,.l [],.i .i64 0,.i .i64 0,.i .i64 0,.i .i64 0,.i .i64 0,.i .i64 0,.i .i64 0,.i .i64 0,.i .i64 0,.i .i64 0,.i .i64 0,.i .i64 0,.i .i64 0,.i .i64 0,.i .i64 0,.l [],.i .i64 0,.l [],.i .i64 0,.i .i64 0,.i .i64 0,.i .i64 0,.i .i64 0,.i .i64 0,.i .i64 0,.l [],.l [],.l []]:=⟨by obtain⟨i,h1,h2⟩:=bI Tryz.z190;exact⟨i,_,h1,h2,rfl⟩⟩
instance:TyB Tryz.prog 190 [(0,30),(30,4),(34,1),(35,1)]:=⟨_,Tryz.underlying190,fun w=>by kernel_rfl⟩
instance:TyF Tryz.prog 190 0 0 60:=⟨_,_,Tryz.underlying190,rfl,rfl,rfl,bj (n:=30) (by kernel_rfl) (by decide)⟩
instance:TyF Tryz.prog 190 1 30 66:=⟨_,_,Tryz.underlying190,rfl,rfl,rfl,bj (n:=4) (by kernel_rfl) (by decide)⟩
instance:TyF Tryz.prog 190 2 34 181:=⟨_,_,Tryz.underlying190,rfl,rfl,rfl,bj (n:=1) (by kernel_rfl) (by decide)⟩
instance:TyF Tryz.prog 190 3 35 188:=⟨_,_,Tryz.underlying190,rfl,rfl,rfl,bj (n:=1) (by kernel_rfl) (by decide)⟩
instance:TyN Tryz.prog 236 31:=⟨bH (by kernel_rfl)⟩
instance:TyAg Tryz.prog 236 31:=⟨fun w=>by kernel_rfl,bH (by kernel_rfl)⟩
theorem Tryz.z236:(Tryz.prog.info? 236).map (·.zero)=some (some (.agg #[.int .i64 0,.int .i64 0,.int .i64 0,.int .i64 0,.int .i64 0,.int .i64 0,.int .i64 0,.slice none 0 0,.int .i64 0,.int .i64 0,.int .i64 0,.int .i64 0,.int .i64 0,.int .i64 0,.int .i64 0,.int .i64 0,.int .i64 0,.int .i64 0,.int .i64 0,.int .i64 0,.int .i64 0,.int .i64 0,.int .i64 0,.slice none 0 0,.int .i64 0,.slice none 0 0,.int .i64 0,.int .i64 0,.int .i64 0,.int .i64 0,.slice none 0 0])):=by kernel_rfl
instance:TyZ Tryz.prog 236 [.d false (.i .i64 0),.d false (.i .i64 0),.d false (.i .i64 0),.d false (.i .i64 0),.d false (.i .i64 0),.d false (.i .i64 0),.d false (.i .i64 0),.nil,.d false (.i .i64 0),.d false (.i .i64 0),.d false (.i .i64 0),.d false (.i .i64 0),.d false (.i .i64 0),.d false (.i .i64 0),.d false (.i .i64 0),.d false (.i .i64 0),.d false (.i .i64 0),.d false (.i .i64 0),.d false (.i .i64 0),.d false (.i .i64 0),.d false (.i .i64 0),.d false (.i .i64 0),.d false (.i .i64 0),.nil,.d false (.i .i64 0),.nil,.d false (.i .i64 0),.d false (.i .i64 0),.d false (.i .i64 0),.d false (.i .i64 0),.nil]:=⟨by obtain⟨i,h1,h2⟩:=bI Tryz.z236;exact⟨i,_,h1,h2,rfl⟩⟩
instance:TyE Tryz.prog 236 [.i .i64 0,.i .i64 0,.i .i64 0,.i .i64 0,.i .i64 0,.i .i64 0,.i .i64 0,.l [],.i .i64 0,.i .i64 0,.i .i64 0,.i .i64 0,.i .i64 0,.i .i64 0,.i .i64 0,.i .i64 0,.i .i64 0,.i .i64 0,.i .i64 0,.i .i64 0,.i .i64 0,.i .i64 0,.i .i64 0,.l [],.i .i64 0,.l [],.i .i64 0,.i .i64 0,.i .i64 0,.i .i64 0,.l []]:=⟨by obtain⟨i,h1,h2⟩:=bI Tryz.z236;exact⟨i,_,h1,h2,rfl⟩⟩
instance:TyB Tryz.prog 236 [(0,30),(30,1)]:=⟨_,Tryz.underlying236,fun w=>by kernel_rfl⟩
instance:TyF Tryz.prog 236 0 0 60:=⟨_,_,Tryz.underlying236,rfl,rfl,rfl,bj (n:=30) (by kernel_rfl) (by decide)⟩
instance:TyF Tryz.prog 236 1 30 181:=⟨_,_,Tryz.underlying236,rfl,rfl,rfl,bj (n:=1) (by kernel_rfl) (by decide)⟩
instance:TyN Tryz.prog 285 4:=⟨bH (by kernel_rfl)⟩
instance:TyAg Tryz.prog 285 4:=⟨fun w=>by kernel_rfl,bH (by kernel_rfl)⟩
theorem Tryz.z285:(Tryz.prog.info? 285).map (·.zero)=some (some (.agg #[.int .i64 0,.int .i64 0,.int .i64 0,.int .i64 0])):=by kernel_rfl
instance:TyZ Tryz.prog 285 [.d false (.i .i64 0),.d false (.i .i64 0),.d false (.i .i64 0),.d false (.i .i64 0)]:=⟨by obtain⟨i,h1,h2⟩:=bI Tryz.z285;exact⟨i,_,h1,h2,rfl⟩⟩
instance:TyE Tryz.prog 285 [.i .i64 0,.i .i64 0,.i .i64 0,.i .i64 0]:=⟨by obtain⟨i,h1,h2⟩:=bI Tryz.z285;exact⟨i,_,h1,h2,rfl⟩⟩
instance:TyB Tryz.prog 285 [(0,1),(1,1),(2,1),(3,1)]:=⟨_,Tryz.underlying285,fun w=>by kernel_rfl⟩
instance:TyF Tryz.prog 285 0 0 3:=⟨_,_,Tryz.underlying285,rfl,rfl,rfl,bj (n:=1) (by kernel_rfl) (by decide)⟩
instance:TyF Tryz.prog 285 1 1 3:=⟨_,_,Tryz.underlying285,rfl,rfl,rfl,bj (n:=1) (by kernel_rfl) (by decide)⟩
instance:TyF Tryz.prog 285 2 2 3:=⟨_,_,Tryz.underlying285,rfl,rfl,rfl,bj (n:=1) (by kernel_rfl) (by decide)⟩
instance:TyF Tryz.prog 285 3 3 3:=⟨_,_,Tryz.underlying285,rfl,rfl,rfl,bj (n:=1) (by kernel_rfl) (by decide)⟩
theorem Tryz.sh5:rR Tryz.prog 5 [.i .u8]:=.int Tryz.underlying5
theorem Tryz.sh22:rR Tryz.prog 22 [.l [.i .u8]]:=.slice Tryz.underlying22 Tryz.sh5 (by kernel_rfl) (by decide)
theorem Tryz.eqa32:EqA Tryz.prog 2 32 [.i .i64,.i .i64]:=gj (k:=1) Tryz.underlying32 (by kernel_rfl) (fN rfl (by decide) inferInstance (dS Tryz.underlying3) (fN rfl (by decide) inferInstance (dS Tryz.underlying3) (lT)))
instance:TyEq Tryz.prog 32 [.i .i64,.i .i64]:=⟨⟨2,by decide,Tryz.eqa32⟩,by kernel_rfl⟩
theorem Tryz.eqa41:EqA Tryz.prog 2 41 [.i .i64,.i .i64]:=gj (k:=1) Tryz.underlying41 (by kernel_rfl) (fN rfl (by decide) inferInstance (dS Tryz.underlying3) (fN rfl (by decide) inferInstance (dS Tryz.underlying3) (lT)))
instance:TyEq Tryz.prog 41 [.i .i64,.i .i64]:=⟨⟨2,by decide,Tryz.eqa41⟩,by kernel_rfl⟩
theorem Tryz.eqa43:EqA Tryz.prog 3 43 [.i .i64,.i .i64,.i .i64,.i .i64]:=gj (k:=2) Tryz.underlying43 (by kernel_rfl) (M2 (n:=2) (s1:=[.i .i64,.i .i64]) rfl (by decide) inferInstance rfl (by decide) Tryz.eqa41 (fN rfl (by decide) inferInstance (dS Tryz.underlying3) (fN rfl (by decide) inferInstance (dS Tryz.underlying3) (lT))))
instance:TyEq Tryz.prog 43 [.i .i64,.i .i64,.i .i64,.i .i64]:=⟨⟨3,by decide,Tryz.eqa43⟩,by kernel_rfl⟩
theorem Tryz.eqa47:EqA Tryz.prog 3 47 [.i .i64,.i .i64,.i .i64,.i .i64]:=gj (k:=2) Tryz.underlying47 (by kernel_rfl) (M2 (n:=2) (s1:=[.i .i64,.i .i64]) rfl (by decide) inferInstance rfl (by decide) Tryz.eqa41 (fN rfl (by decide) inferInstance (dS Tryz.underlying3) (fN rfl (by decide) inferInstance (dS Tryz.underlying3) (lT))))
instance:TyEq Tryz.prog 47 [.i .i64,.i .i64,.i .i64,.i .i64]:=⟨⟨3,by decide,Tryz.eqa47⟩,by kernel_rfl⟩
theorem Tryz.eqa52:EqA Tryz.prog 2 52 [.i .i64,.i .i64,.i .i64,.i .i64,.i .i64]:=gj (k:=1) Tryz.underlying52 (by kernel_rfl) (fN rfl (by decide) inferInstance (dS Tryz.underlying3) (fN rfl (by decide) inferInstance (dS Tryz.underlying3) (fN rfl (by decide) inferInstance (dS Tryz.underlying3) (fN rfl (by decide) inferInstance (dS Tryz.underlying3) (fN rfl (by decide) inferInstance (dS Tryz.underlying3) (lT))))))
instance:TyEq Tryz.prog 52 [.i .i64,.i .i64,.i .i64,.i .i64,.i .i64]:=⟨⟨2,by decide,Tryz.eqa52⟩,by kernel_rfl⟩
theorem Tryz.eqa54:EqA Tryz.prog 2 54 [.i .i64,.i .i64,.i .i64]:=gj (k:=1) Tryz.underlying54 (by kernel_rfl) (fN rfl (by decide) inferInstance (dS Tryz.underlying3) (fN rfl (by decide) inferInstance (dS Tryz.underlying3) (fN rfl (by decide) inferInstance (dS Tryz.underlying3) (lT))))
instance:TyEq Tryz.prog 54 [.i .i64,.i .i64,.i .i64]:=⟨⟨2,by decide,Tryz.eqa54⟩,by kernel_rfl⟩
theorem Tryz.eqa58:EqA Tryz.prog 2 58 [.i .i64,.i .i64,.i .i64]:=gj (k:=1) Tryz.underlying58 (by kernel_rfl) (fN rfl (by decide) inferInstance (dS Tryz.underlying3) (fN rfl (by decide) inferInstance (dS Tryz.underlying3) (fN rfl (by decide) inferInstance (dS Tryz.underlying3) (lT))))
instance:TyEq Tryz.prog 58 [.i .i64,.i .i64,.i .i64]:=⟨⟨2,by decide,Tryz.eqa58⟩,by kernel_rfl⟩
theorem Tryz.eqa72:EqA Tryz.prog 3 72 [.i .i64,.i .i64,.i .i64,.i .i64,.i .i64,.i .i64,.i .i64,.i .i64,.i .i64,.i .i64,.i .i64]:=gj (k:=2) Tryz.underlying72 (by kernel_rfl) (fN rfl (by decide) inferInstance (dS Tryz.underlying3) (fN rfl (by decide) inferInstance (dS Tryz.underlying3) (fN rfl (by decide) inferInstance (dS Tryz.underlying3) (fN rfl (by decide) inferInstance (dS Tryz.underlying3) (fN rfl (by decide) inferInstance (dS Tryz.underlying3) (M2 (n:=5) (s1:=[.i .i64,.i .i64,.i .i64,.i .i64,.i .i64]) rfl (by decide) inferInstance rfl (by decide) Tryz.eqa52 (fN rfl (by decide) inferInstance (dS Tryz.underlying3) (lT))))))))
instance:TyEq Tryz.prog 72 [.i .i64,.i .i64,.i .i64,.i .i64,.i .i64,.i .i64,.i .i64,.i .i64,.i .i64,.i .i64,.i .i64]:=⟨⟨3,by decide,Tryz.eqa72⟩,by kernel_rfl⟩
theorem Tryz.eqa161:EqA Tryz.prog 2 161 [.i .i64,.i .i64]:=gj (k:=1) Tryz.underlying161 (by kernel_rfl) (fN rfl (by decide) inferInstance (dS Tryz.underlying3) (fN rfl (by decide) inferInstance (dS Tryz.underlying3) (lT)))
instance:TyEq Tryz.prog 161 [.i .i64,.i .i64]:=⟨⟨2,by decide,Tryz.eqa161⟩,by kernel_rfl⟩
theorem Tryz.eqa285:EqA Tryz.prog 2 285 [.i .i64,.i .i64,.i .i64,.i .i64]:=gj (k:=1) Tryz.underlying285 (by kernel_rfl) (fN rfl (by decide) inferInstance (dS Tryz.underlying3) (fN rfl (by decide) inferInstance (dS Tryz.underlying3) (fN rfl (by decide) inferInstance (dS Tryz.underlying3) (fN rfl (by decide) inferInstance (dS Tryz.underlying3) (lT)))))
instance:TyEq Tryz.prog 285 [.i .i64,.i .i64,.i .i64,.i .i64]:=⟨⟨2,by decide,Tryz.eqa285⟩,by kernel_rfl⟩
theorem Tryz.follows:Tryz.prog.follows .mixedOrders=true:=by kernel_rfl
structure fx where
 f5:Int
 cW:List Int
 deriving DecidableEq,Inhabited
def dW (a:fx):List D:=[.i .i64 a.f5,.l (a.cW.map eI)]
def M5 (a:fx):List F:=[.s (.i .i64 a.f5),.l 3 1 (a.cW.map eI) a.cW.length]
structure aM where
 aZ:List fx
 deriving DecidableEq,Inhabited
def lx (a:aM):List D:=[.l (a.aZ.map dW)]
def Ma:aM:=⟨[]⟩
structure bP where
 fM:Int
 fA:Int
 deriving DecidableEq,Inhabited
def nh (a:bP):List D:=[.i .i64 a.fM,.i .i64 a.fA]
def d6 (a:bP):List F:=[.s (.i .i64 a.fM),.s (.i .i64 a.fA)]
def rQ:bP:=⟨0,0⟩
structure dF where
 dR:Int
 bN:Int
 deriving DecidableEq,Inhabited
def sQ (a:dF):List D:=[.i .i64 a.dR,.i .i64 a.bN]
def tZ:dF:=⟨0,0⟩
structure mV where
 ID:dF
 eY:Int
 dD:Int
 deriving DecidableEq,Inhabited
def H9 (a:mV):List D:=[.i .i64 a.ID.dR,.i .i64 a.ID.bN,.i .i64 a.eY,.i .i64 a.dD]
def Id (a:mV):List F:=[.s (.i .i64 a.ID.dR),.s (.i .i64 a.ID.bN),.s (.i .i64 a.eY),.s (.i .i64 a.dD)]
def Pk:mV:=⟨tZ,0,0⟩
structure ae where
 cT:Int
 aQ:List Int
 deriving DecidableEq,Inhabited
def aG (a:ae):List D:=[.i .i64 a.cT,.l (a.aQ.map eU8)]
def du (a:ae):List F:=[.s (.i .i64 a.cT),.l 5 1 (a.aQ.map eU8) a.aQ.length]
def eF:ae:=⟨0,[]⟩
structure b9 where
 aQ:List Int
 deriving DecidableEq,Inhabited
def dQ (a:b9):List D:=[.l (a.aQ.map eU8)]
structure aP where
 bm:Int
 aF:List ae
 aS:List b9
 deriving DecidableEq,Inhabited
def mK (a:aP):List D:=[.i .i64 a.bm,.l (a.aF.map aG),.l (a.aS.map dQ)]
def co (a:aP):List F:=[.s (.i .i64 a.bm),.l 136 2 (a.aF.map aG) a.aF.length,.l 104 1 (a.aS.map dQ) a.aS.length]
def dv:aP:=⟨0,[],[]⟩
structure az where
 dw:mV
 bi:Int
 aX:Int
 aa:Int
 aK:Int
 aO:Int
 dm:Bool
 f7:Int
 bM:aP
 deriving DecidableEq,Inhabited
def dE (a:az):List D:=[.i .i64 a.dw.ID.dR,.i .i64 a.dw.ID.bN,.i .i64 a.dw.eY,.i .i64 a.dw.dD,.i .i64 a.bi,.i .i64 a.aX,.i .i64 a.aa,.i .i64 a.aK,.i .i64 a.aO,.b a.dm,.i .i64 a.f7,.i .i64 a.bM.bm,.l (a.bM.aF.map aG),.l (a.bM.aS.map dQ)]
def dr (a:az):List F:=[.s (.i .i64 a.dw.ID.dR),.s (.i .i64 a.dw.ID.bN),.s (.i .i64 a.dw.eY),.s (.i .i64 a.dw.dD),.s (.i .i64 a.bi),.s (.i .i64 a.aX),.s (.i .i64 a.aa),.s (.i .i64 a.aK),.s (.i .i64 a.aO),.s (.b a.dm),.s (.i .i64 a.f7),.s (.i .i64 a.bM.bm),.l 136 2 (a.bM.aF.map aG) a.bM.aF.length,.l 104 1 (a.bM.aS.map dQ) a.bM.aS.length]
def B0:az:=⟨Pk,0,0,0,0,0,false,0,dv⟩
structure aC where
 ID:dF
 eY:Int
 cT:Int
 deriving DecidableEq,Inhabited
def ct (a:aC):List D:=[.i .i64 a.ID.dR,.i .i64 a.ID.bN,.i .i64 a.eY,.i .i64 a.cT]
def jU (a:aC):List F:=[.s (.i .i64 a.ID.dR),.s (.i .i64 a.ID.bN),.s (.i .i64 a.eY),.s (.i .i64 a.cT)]
def oW:aC:=⟨tZ,0,0⟩
structure bB where
 iR:Int
 iQ:Int
 eA:Int
 bJ:List Int
 deriving DecidableEq,Inhabited
def og (a:bB):List D:=[.i .i64 a.iR,.i .i64 a.iQ,.i .i64 a.eA,.l (a.bJ.map eI)]
def dM (a:bB):List F:=[.s (.i .i64 a.iR),.s (.i .i64 a.iQ),.s (.i .i64 a.eA),.l 3 1 (a.bJ.map eI) a.bJ.length]
def lu:bB:=⟨0,0,0,[]⟩
structure cO where
 eQ:Int
 gx:Int
 gV:Int
 uW:Int
 eY:Int
 deriving DecidableEq,Inhabited
def qU (a:cO):List D:=[.i .i64 a.eQ,.i .i64 a.gx,.i .i64 a.gV,.i .i64 a.uW,.i .i64 a.eY]
def eM (a:cO):List F:=[.s (.i .i64 a.eQ),.s (.i .i64 a.gx),.s (.i .i64 a.gV),.s (.i .i64 a.uW),.s (.i .i64 a.eY)]
def cr:cO:=⟨0,0,0,0,0⟩
structure cU where
 f5:Int
 eR:Int
 f7:Int
 deriving DecidableEq,Inhabited
def uX (a:cU):List D:=[.i .i64 a.f5,.i .i64 a.eR,.i .i64 a.f7]
def ju (a:cU):List F:=[.s (.i .i64 a.f5),.s (.i .i64 a.eR),.s (.i .i64 a.f7)]
def fa:cU:=⟨0,0,0⟩
structure a9 where
 bm:Int
 aw:List ae
 deriving DecidableEq,Inhabited
def kx (a:a9):List D:=[.i .i64 a.bm,.l (a.aw.map aG)]
def d5 (a:a9):List F:=[.s (.i .i64 a.bm),.l 136 2 (a.aw.map aG) a.aw.length]
def nO:a9:=⟨0,[]⟩
structure dh where
 au:Int
 cL:Int
 er:Int
 deriving DecidableEq,Inhabited
def ue (a:dh):List D:=[.i .i64 a.au,.i .i64 a.cL,.i .i64 a.er]
def oZ (a:dh):List F:=[.s (.i .i64 a.au),.s (.i .i64 a.cL),.s (.i .i64 a.er)]
def zV:dh:=⟨0,0,0⟩
structure ag where
 bv:aC
 gL:bB
 bi:Int
 aF:cO
 bF:Int
 aa:Int
 aK:Int
 aO:Int
 aX:Int
 ef:Int
 il:cU
 ax:List b9
 aq:a9
 d4:Int
 bW:dh
 deriving DecidableEq,Inhabited
def bZ (a:ag):List D:=[.i .i64 a.bv.ID.dR,.i .i64 a.bv.ID.bN,.i .i64 a.bv.eY,.i .i64 a.bv.cT,.i .i64 a.gL.iR,.i .i64 a.gL.iQ,.i .i64 a.gL.eA,.l (a.gL.bJ.map eI),.i .i64 a.bi,.i .i64 a.aF.eQ,.i .i64 a.aF.gx,.i .i64 a.aF.gV,.i .i64 a.aF.uW,.i .i64 a.aF.eY,.i .i64 a.bF,.i .i64 a.aa,.i .i64 a.aK,.i .i64 a.aO,.i .i64 a.aX,.i .i64 a.ef,.i .i64 a.il.f5,.i .i64 a.il.eR,.i .i64 a.il.f7,.l (a.ax.map dQ),.i .i64 a.aq.bm,.l (a.aq.aw.map aG),.i .i64 a.d4,.i .i64 a.bW.au,.i .i64 a.bW.cL,.i .i64 a.bW.er]
def cF (a:ag):List F:=[.s (.i .i64 a.bv.ID.dR),.s (.i .i64 a.bv.ID.bN),.s (.i .i64 a.bv.eY),.s (.i .i64 a.bv.cT),.s (.i .i64 a.gL.iR),.s (.i .i64 a.gL.iQ),.s (.i .i64 a.gL.eA),.l 3 1 (a.gL.bJ.map eI) a.gL.bJ.length,.s (.i .i64 a.bi),.s (.i .i64 a.aF.eQ),.s (.i .i64 a.aF.gx),.s (.i .i64 a.aF.gV),.s (.i .i64 a.aF.uW),.s (.i .i64 a.aF.eY),.s (.i .i64 a.bF),.s (.i .i64 a.aa),.s (.i .i64 a.aK),.s (.i .i64 a.aO),.s (.i .i64 a.aX),.s (.i .i64 a.ef),.s (.i .i64 a.il.f5),.s (.i .i64 a.il.eR),.s (.i .i64 a.il.f7),.l 104 1 (a.ax.map dQ) a.ax.length,.s (.i .i64 a.aq.bm),.l 136 2 (a.aq.aw.map aG) a.aq.aw.length,.s (.i .i64 a.d4),.s (.i .i64 a.bW.au),.s (.i .i64 a.bW.cL),.s (.i .i64 a.bW.er)]
def uH:ag:=⟨oW,lu,0,cr,0,0,0,0,0,0,fa,[],nO,0,zV⟩
structure av where
 au:Int
 eg:Int
 deriving DecidableEq,Inhabited
def bw (a:av):List D:=[.i .i64 a.au,.i .i64 a.eg]
structure aj where
 eZ:Int
 bQ:Int
 eH:Int
 aD:List av
 deriving DecidableEq,Inhabited
def dB (a:aj):List D:=[.i .i64 a.eZ,.i .i64 a.bQ,.i .i64 a.eH,.l (a.aD.map bw)]
def cS (a:aj):List F:=[.s (.i .i64 a.eZ),.s (.i .i64 a.bQ),.s (.i .i64 a.eH),.l 161 2 (a.aD.map bw) a.aD.length]
def lR:aj:=⟨0,0,0,[]⟩
structure aA where
 aR:Int
 aX:Int
 aa:Int
 aO:Int
 bN:Int
 bR:cO
 gV:Int
 deriving DecidableEq,Inhabited
def eb (a:aA):List D:=[.i .i64 a.aR,.i .i64 a.aX,.i .i64 a.aa,.i .i64 a.aO,.i .i64 a.bN,.i .i64 a.bR.eQ,.i .i64 a.bR.gx,.i .i64 a.bR.gV,.i .i64 a.bR.uW,.i .i64 a.bR.eY,.i .i64 a.gV]
def cP (a:aA):List F:=[.s (.i .i64 a.aR),.s (.i .i64 a.aX),.s (.i .i64 a.aa),.s (.i .i64 a.aO),.s (.i .i64 a.bN),.s (.i .i64 a.bR.eQ),.s (.i .i64 a.bR.gx),.s (.i .i64 a.bR.gV),.s (.i .i64 a.bR.uW),.s (.i .i64 a.bR.eY),.s (.i .i64 a.gV)]
def dO:aA:=⟨0,0,0,0,0,cr,0⟩
structure bb where
 cf:Int
 em:Int
 aQ:List Int
 gV:Int
 deriving DecidableEq,Inhabited
def ei (a:bb):List D:=[.i .i64 a.cf,.i .i64 a.em,.l (a.aQ.map eU8),.i .i64 a.gV]
def qj (a:bb):List F:=[.s (.i .i64 a.cf),.s (.i .i64 a.em),.l 5 1 (a.aQ.map eU8) a.aQ.length,.s (.i .i64 a.gV)]
def jj:bb:=⟨0,0,[],0⟩
structure ao where
 aa:Int
 aO:Int
 aT:bb
 deriving DecidableEq,Inhabited
def dq (a:ao):List D:=[.i .i64 a.aa,.i .i64 a.aO,.i .i64 a.aT.cf,.i .i64 a.aT.em,.l (a.aT.aQ.map eU8),.i .i64 a.aT.gV]
def ig (a:ao):List F:=[.s (.i .i64 a.aa),.s (.i .i64 a.aO),.s (.i .i64 a.aT.cf),.s (.i .i64 a.aT.em),.l 5 1 (a.aT.aQ.map eU8) a.aT.aQ.length,.s (.i .i64 a.aT.gV)]
def ee:ao:=⟨0,0,jj⟩
structure bD where
 aN:Int
 eh:Bool
 cq:Bool
 aX:Int
 aY:aA
 bC:ao
 deriving DecidableEq,Inhabited
def dK (a:bD):List D:=[.i .i64 a.aN,.b a.eh,.b a.cq,.i .i64 a.aX,.i .i64 a.aY.aR,.i .i64 a.aY.aX,.i .i64 a.aY.aa,.i .i64 a.aY.aO,.i .i64 a.aY.bN,.i .i64 a.aY.bR.eQ,.i .i64 a.aY.bR.gx,.i .i64 a.aY.bR.gV,.i .i64 a.aY.bR.uW,.i .i64 a.aY.bR.eY,.i .i64 a.aY.gV,.i .i64 a.bC.aa,.i .i64 a.bC.aO,.i .i64 a.bC.aT.cf,.i .i64 a.bC.aT.em,.l (a.bC.aT.aQ.map eU8),.i .i64 a.bC.aT.gV]
def gD (a:bD):List F:=[.s (.i .i64 a.aN),.s (.b a.eh),.s (.b a.cq),.s (.i .i64 a.aX),.s (.i .i64 a.aY.aR),.s (.i .i64 a.aY.aX),.s (.i .i64 a.aY.aa),.s (.i .i64 a.aY.aO),.s (.i .i64 a.aY.bN),.s (.i .i64 a.aY.bR.eQ),.s (.i .i64 a.aY.bR.gx),.s (.i .i64 a.aY.bR.gV),.s (.i .i64 a.aY.bR.uW),.s (.i .i64 a.aY.bR.eY),.s (.i .i64 a.aY.gV),.s (.i .i64 a.bC.aa),.s (.i .i64 a.bC.aO),.s (.i .i64 a.bC.aT.cf),.s (.i .i64 a.bC.aT.em),.l 5 1 (a.bC.aT.aQ.map eU8) a.bC.aT.aQ.length,.s (.i .i64 a.bC.aT.gV)]
def mG:bD:=⟨0,false,false,0,dO,ee⟩
structure ab where
 dZ:aM
 am:List az
 ai:List ag
 bh:List aj
 ay:List bD
 dt:Int
 dY:bP
 oX:Int
 kv:Int
 deriving DecidableEq,Inhabited
def ly (a:ab):List D:=[.l (a.dZ.aZ.map dW),.l (a.am.map dE),.l (a.ai.map bZ),.l (a.bh.map dB),.l (a.ay.map dK),.i .i64 a.dt,.i .i64 a.dY.fM,.i .i64 a.dY.fA,.i .i64 a.oX,.i .i64 a.kv]
def aH (a:ab):List F:=[.l 157 2 (a.dZ.aZ.map dW) a.dZ.aZ.length,.l 45 14 (a.am.map dE) a.am.length,.l 60 30 (a.ai.map bZ) a.ai.length,.l 66 4 (a.bh.map dB) a.bh.length,.l 78 21 (a.ay.map dK) a.ay.length,.s (.i .i64 a.dt),.s (.i .i64 a.dY.fM),.s (.i .i64 a.dY.fA),.s (.i .i64 a.oX),.s (.i .i64 a.kv)]
def cX:ab:=⟨Ma,[],[],[],[],0,rQ,0,0⟩
structure df where
 aR:Int
 cB:Int
 aX:Int
 aQ:List Int
 bk:bD
 deriving DecidableEq,Inhabited
def zD (a:df):List D:=[.i .i64 a.aR,.i .i64 a.cB,.i .i64 a.aX,.l (a.aQ.map eU8),.i .i64 a.bk.aN,.b a.bk.eh,.b a.bk.cq,.i .i64 a.bk.aX,.i .i64 a.bk.aY.aR,.i .i64 a.bk.aY.aX,.i .i64 a.bk.aY.aa,.i .i64 a.bk.aY.aO,.i .i64 a.bk.aY.bN,.i .i64 a.bk.aY.bR.eQ,.i .i64 a.bk.aY.bR.gx,.i .i64 a.bk.aY.bR.gV,.i .i64 a.bk.aY.bR.uW,.i .i64 a.bk.aY.bR.eY,.i .i64 a.bk.aY.gV,.i .i64 a.bk.bC.aa,.i .i64 a.bk.bC.aO,.i .i64 a.bk.bC.aT.cf,.i .i64 a.bk.bC.aT.em,.l (a.bk.bC.aT.aQ.map eU8),.i .i64 a.bk.bC.aT.gV]
def eN (a:df):List F:=[.s (.i .i64 a.aR),.s (.i .i64 a.cB),.s (.i .i64 a.aX),.l 5 1 (a.aQ.map eU8) a.aQ.length,.s (.i .i64 a.bk.aN),.s (.b a.bk.eh),.s (.b a.bk.cq),.s (.i .i64 a.bk.aX),.s (.i .i64 a.bk.aY.aR),.s (.i .i64 a.bk.aY.aX),.s (.i .i64 a.bk.aY.aa),.s (.i .i64 a.bk.aY.aO),.s (.i .i64 a.bk.aY.bN),.s (.i .i64 a.bk.aY.bR.eQ),.s (.i .i64 a.bk.aY.bR.gx),.s (.i .i64 a.bk.aY.bR.gV),.s (.i .i64 a.bk.aY.bR.uW),.s (.i .i64 a.bk.aY.bR.eY),.s (.i .i64 a.bk.aY.gV),.s (.i .i64 a.bk.bC.aa),.s (.i .i64 a.bk.bC.aO),.s (.i .i64 a.bk.bC.aT.cf),.s (.i .i64 a.bk.bC.aT.em),.l 5 1 (a.bk.bC.aT.aQ.map eU8) a.bk.bC.aT.aQ.length,.s (.i .i64 a.bk.bC.aT.gV)]
def dy:df:=⟨0,0,0,[],mG⟩
structure b8 where
 Steps:List Int
 deriving DecidableEq,Inhabited
def ki (a:b8):List D:=[.l (a.Steps.map eI)]
structure bp where
 aa:Int
 y8:b8
 deriving DecidableEq,Inhabited
def da (a:bp):List D:=[.i .i64 a.aa,.l (a.y8.Steps.map eI)]
structure aE where
 fb:List Int
 fi:Int
 fh:Int
 deriving DecidableEq,Inhabited
def PP (a:aE):List D:=[.l (a.fb.map eU8),.i .i64 a.fi,.i .i64 a.fh]
def bg (a:aE):List F:=[.l 5 1 (a.fb.map eU8) a.fb.length,.s (.i .i64 a.fi),.s (.i .i64 a.fh)]
structure aU where
 aN:az
 dJ:List aA
 deriving DecidableEq,Inhabited
def cA (a:aU):List F:=[.s (.i .i64 a.aN.dw.ID.dR),.s (.i .i64 a.aN.dw.ID.bN),.s (.i .i64 a.aN.dw.eY),.s (.i .i64 a.aN.dw.dD),.s (.i .i64 a.aN.bi),.s (.i .i64 a.aN.aX),.s (.i .i64 a.aN.aa),.s (.i .i64 a.aN.aK),.s (.i .i64 a.aN.aO),.s (.b a.aN.dm),.s (.i .i64 a.aN.f7),.s (.i .i64 a.aN.bM.bm),.l 136 2 (a.aN.bM.aF.map aG) a.aN.bM.aF.length,.l 104 1 (a.aN.bM.aS.map dQ) a.aN.bM.aS.length,.l 72 11 (a.dJ.map eb) a.dJ.length]
def ev:aU:=⟨B0,[]⟩
structure bY where
 aJ:ag
 dX:aj
 iB:List aA
 bC:List ao
 deriving DecidableEq,Inhabited
def ci (a:bY):List F:=[.s (.i .i64 a.aJ.bv.ID.dR),.s (.i .i64 a.aJ.bv.ID.bN),.s (.i .i64 a.aJ.bv.eY),.s (.i .i64 a.aJ.bv.cT),.s (.i .i64 a.aJ.gL.iR),.s (.i .i64 a.aJ.gL.iQ),.s (.i .i64 a.aJ.gL.eA),.l 3 1 (a.aJ.gL.bJ.map eI) a.aJ.gL.bJ.length,.s (.i .i64 a.aJ.bi),.s (.i .i64 a.aJ.aF.eQ),.s (.i .i64 a.aJ.aF.gx),.s (.i .i64 a.aJ.aF.gV),.s (.i .i64 a.aJ.aF.uW),.s (.i .i64 a.aJ.aF.eY),.s (.i .i64 a.aJ.bF),.s (.i .i64 a.aJ.aa),.s (.i .i64 a.aJ.aK),.s (.i .i64 a.aJ.aO),.s (.i .i64 a.aJ.aX),.s (.i .i64 a.aJ.ef),.s (.i .i64 a.aJ.il.f5),.s (.i .i64 a.aJ.il.eR),.s (.i .i64 a.aJ.il.f7),.l 104 1 (a.aJ.ax.map dQ) a.aJ.ax.length,.s (.i .i64 a.aJ.aq.bm),.l 136 2 (a.aJ.aq.aw.map aG) a.aJ.aq.aw.length,.s (.i .i64 a.aJ.d4),.s (.i .i64 a.aJ.bW.au),.s (.i .i64 a.aJ.bW.cL),.s (.i .i64 a.aJ.bW.er),.s (.i .i64 a.dX.eZ),.s (.i .i64 a.dX.bQ),.s (.i .i64 a.dX.eH),.l 161 2 (a.dX.aD.map bw) a.dX.aD.length,.l 72 11 (a.iB.map eb) a.iB.length,.l 76 6 (a.bC.map dq) a.bC.length]
def cY:bY:=⟨uH,lR,[],[]⟩
structure bK where
 aJ:ag
 dJ:List aA
 deriving DecidableEq,Inhabited
def ed (a:bK):List F:=[.s (.i .i64 a.aJ.bv.ID.dR),.s (.i .i64 a.aJ.bv.ID.bN),.s (.i .i64 a.aJ.bv.eY),.s (.i .i64 a.aJ.bv.cT),.s (.i .i64 a.aJ.gL.iR),.s (.i .i64 a.aJ.gL.iQ),.s (.i .i64 a.aJ.gL.eA),.l 3 1 (a.aJ.gL.bJ.map eI) a.aJ.gL.bJ.length,.s (.i .i64 a.aJ.bi),.s (.i .i64 a.aJ.aF.eQ),.s (.i .i64 a.aJ.aF.gx),.s (.i .i64 a.aJ.aF.gV),.s (.i .i64 a.aJ.aF.uW),.s (.i .i64 a.aJ.aF.eY),.s (.i .i64 a.aJ.bF),.s (.i .i64 a.aJ.aa),.s (.i .i64 a.aJ.aK),.s (.i .i64 a.aJ.aO),.s (.i .i64 a.aJ.aX),.s (.i .i64 a.aJ.ef),.s (.i .i64 a.aJ.il.f5),.s (.i .i64 a.aJ.il.eR),.s (.i .i64 a.aJ.il.f7),.l 104 1 (a.aJ.ax.map dQ) a.aJ.ax.length,.s (.i .i64 a.aJ.aq.bm),.l 136 2 (a.aJ.aq.aw.map aG) a.aJ.aq.aw.length,.s (.i .i64 a.aJ.d4),.s (.i .i64 a.aJ.bW.au),.s (.i .i64 a.aJ.bW.cL),.s (.i .i64 a.aJ.bW.er),.l 72 11 (a.dJ.map eb) a.dJ.length]
def mT:bK:=⟨uH,[]⟩
structure lS where
 Code:Int
 uW:Int
 vj:Int
 Q3:Int
 deriving DecidableEq,Inhabited
def sT (a:lS):List F:=[.s (.i .i64 a.Code),.s (.i .i64 a.uW),.s (.i .i64 a.vj),.s (.i .i64 a.Q3)]
def gK:lS:=⟨0,0,0,0⟩
theorem Try.follows:Tryz.prog.follows .mixedOrders=true:=Tryz.follows
end Go.AM
