/-
  Facts on the types of this translation, laid by program.
-/
import Derived.Test.YtafgglkmebkeeaaDoorAmZc
import Derived.Test.YtafgglkmebkeeaaDoorAmO
import Derived.Test.YtafgglkmebkeeaaDoorProg
import Derived.Lib.LaidTab
import Derived.Lib.ItoaNum
namespace Go.AM
open Go.Proofs
theorem info_n {P : Program} {t : TypeId} {n : Nat} (h : (P.info? t).map (·.size) = some n) : ∃ i, P.info? t = some i ∧ i.size = n := by
  cases hi : P.info? t with
  | none => simp [hi] at h
  | some i => simp [hi] at h; exact ⟨i, rfl, h⟩
theorem info_z {P : Program} {t : TypeId} {z : Value} (h : (P.info? t).map (·.zero) = some (some z)) : ∃ i, P.info? t = some i ∧ i.zero = some z := by
  cases hi : P.info? t with
  | none => simp [hi] at h
  | some i => simp [hi] at h; exact ⟨i, rfl, h⟩
theorem info_s {P : Program} {t : TypeId} {z : Value} {n b : Nat} (h : (P.info? t).map (fun i => (i.size, i.bytes, i.zero)) = some (n, b, some z)) (hz : z.cells.size = n) : ∃ i z, P.info? t = some i ∧ i.size = n ∧ i.bytes = b ∧ i.zero = some z ∧ z.cells.size = n := by
  cases hi : P.info? t with
  | none => simp [hi] at h
  | some i => simp [hi] at h; exact ⟨i, z, rfl, h.1, h.2.1, h.2.2, hz⟩
theorem info_f {P : Program} {t : TypeId} {n : Nat} (h : (P.info? t).map (·.size) = some n) (hn : n ≠ 0) : ∃ i, P.info? t = some i ∧ i.size ≠ 0 := by
  cases hi : P.info? t with
  | none => simp [hi] at h
  | some i => simp [hi] at h; exact ⟨i, rfl, by omega⟩
-- 3: int
instance : TyN Tryd.prog 3 1 := ⟨info_n (by kernel_rfl)⟩
instance : TySc Tryd.prog 3 := ⟨fun w => by kernel_rfl, info_n (by kernel_rfl)⟩
instance : TyU Tryd.prog 3 (.int .i64) := ⟨Tryd.underlying3⟩
theorem Tryd.z3 : (Tryd.prog.info? 3).map (·.zero) = some (some (.int .i64 0)) := by kernel_rfl
instance : TyZ Tryd.prog 3 [.d false (.i .i64 0)] := ⟨by obtain ⟨i, h1, h2⟩ := info_z Tryd.z3; exact ⟨i, _, h1, h2, rfl⟩⟩
instance : TyE Tryd.prog 3 [.i .i64 0] := ⟨by obtain ⟨i, h1, h2⟩ := info_z Tryd.z3; exact ⟨i, _, h1, h2, rfl⟩⟩
-- 4: bool
instance : TyN Tryd.prog 4 1 := ⟨info_n (by kernel_rfl)⟩
instance : TySc Tryd.prog 4 := ⟨fun w => by kernel_rfl, info_n (by kernel_rfl)⟩
instance : TyU Tryd.prog 4 (.bool) := ⟨Tryd.underlying4⟩
theorem Tryd.z4 : (Tryd.prog.info? 4).map (·.zero) = some (some (.bool false)) := by kernel_rfl
instance : TyZ Tryd.prog 4 [.d false (.b false)] := ⟨by obtain ⟨i, h1, h2⟩ := info_z Tryd.z4; exact ⟨i, _, h1, h2, rfl⟩⟩
instance : TyE Tryd.prog 4 [.b false] := ⟨by obtain ⟨i, h1, h2⟩ := info_z Tryd.z4; exact ⟨i, _, h1, h2, rfl⟩⟩
-- 5: uint8
instance : TyN Tryd.prog 5 1 := ⟨info_n (by kernel_rfl)⟩
instance : TySc Tryd.prog 5 := ⟨fun w => by kernel_rfl, info_n (by kernel_rfl)⟩
instance : TyU Tryd.prog 5 (.int .u8) := ⟨Tryd.underlying5⟩
theorem Tryd.z5 : (Tryd.prog.info? 5).map (·.zero) = some (some (.int .u8 0)) := by kernel_rfl
instance : TyZ Tryd.prog 5 [.d false (.i .u8 0)] := ⟨by obtain ⟨i, h1, h2⟩ := info_z Tryd.z5; exact ⟨i, _, h1, h2, rfl⟩⟩
instance : TyE Tryd.prog 5 [.i .u8 0] := ⟨by obtain ⟨i, h1, h2⟩ := info_z Tryd.z5; exact ⟨i, _, h1, h2, rfl⟩⟩
-- 9: string
instance : TyN Tryd.prog 9 1 := ⟨info_n (by kernel_rfl)⟩
instance : TySc Tryd.prog 9 := ⟨fun w => by kernel_rfl, info_n (by kernel_rfl)⟩
instance : TyU Tryd.prog 9 (.string) := ⟨Tryd.underlying9⟩
theorem Tryd.z9 : (Tryd.prog.info? 9).map (·.zero) = some (some (.string ⟨#[]⟩)) := by kernel_rfl
instance : TyZ Tryd.prog 9 [.d false (.str ⟨#[]⟩)] := ⟨by obtain ⟨i, h1, h2⟩ := info_z Tryd.z9; exact ⟨i, _, h1, h2, rfl⟩⟩
instance : TyE Tryd.prog 9 [.str ⟨#[]⟩] := ⟨by obtain ⟨i, h1, h2⟩ := info_z Tryd.z9; exact ⟨i, _, h1, h2, rfl⟩⟩
-- 22: []laws.StatementLine
instance : TyN Tryd.prog 22 1 := ⟨info_n (by kernel_rfl)⟩
instance : TySc Tryd.prog 22 := ⟨fun w => by kernel_rfl, info_n (by kernel_rfl)⟩
theorem Tryd.z22 : (Tryd.prog.info? 22).map (·.zero) = some (some (.slice none 0 0)) := by kernel_rfl
instance : TyZ Tryd.prog 22 [.nil] := ⟨by obtain ⟨i, h1, h2⟩ := info_z Tryd.z22; exact ⟨i, _, h1, h2, rfl⟩⟩
instance : TyE Tryd.prog 22 [.l []] := ⟨by obtain ⟨i, h1, h2⟩ := info_z Tryd.z22; exact ⟨i, _, h1, h2, rfl⟩⟩
instance : TySl Tryd.prog 22 133 3 24 := ⟨Tryd.underlying22, info_s (z := .agg #[.int .i64 0, .int .i64 0, .int .i64 0]) (by kernel_rfl) rfl, by decide⟩
-- 25: []impl.StatementLine
instance : TyN Tryd.prog 25 1 := ⟨info_n (by kernel_rfl)⟩
instance : TySc Tryd.prog 25 := ⟨fun w => by kernel_rfl, info_n (by kernel_rfl)⟩
theorem Tryd.z25 : (Tryd.prog.info? 25).map (·.zero) = some (some (.slice none 0 0)) := by kernel_rfl
instance : TyZ Tryd.prog 25 [.nil] := ⟨by obtain ⟨i, h1, h2⟩ := info_z Tryd.z25; exact ⟨i, _, h1, h2, rfl⟩⟩
instance : TyE Tryd.prog 25 [.l []] := ⟨by obtain ⟨i, h1, h2⟩ := info_z Tryd.z25; exact ⟨i, _, h1, h2, rfl⟩⟩
instance : TySl Tryd.prog 25 96 3 24 := ⟨Tryd.underlying25, info_s (z := .agg #[.int .i64 0, .int .i64 0, .int .i64 0]) (by kernel_rfl) rfl, by decide⟩
-- 29: []laws.Reservation
instance : TyN Tryd.prog 29 1 := ⟨info_n (by kernel_rfl)⟩
instance : TySc Tryd.prog 29 := ⟨fun w => by kernel_rfl, info_n (by kernel_rfl)⟩
theorem Tryd.z29 : (Tryd.prog.info? 29).map (·.zero) = some (some (.slice none 0 0)) := by kernel_rfl
instance : TyZ Tryd.prog 29 [.nil] := ⟨by obtain ⟨i, h1, h2⟩ := info_z Tryd.z29; exact ⟨i, _, h1, h2, rfl⟩⟩
instance : TyE Tryd.prog 29 [.l []] := ⟨by obtain ⟨i, h1, h2⟩ := info_z Tryd.z29; exact ⟨i, _, h1, h2, rfl⟩⟩
instance : TySl Tryd.prog 29 195 2 16 := ⟨Tryd.underlying29, info_s (z := .agg #[.int .i64 0, .int .i64 0]) (by kernel_rfl) rfl, by decide⟩
-- 31: laws.Account
instance : TyN Tryd.prog 31 4 := ⟨info_n (by kernel_rfl)⟩
instance : TyAg Tryd.prog 31 4 := ⟨fun w => by kernel_rfl, info_n (by kernel_rfl)⟩
theorem Tryd.z31 : (Tryd.prog.info? 31).map (·.zero) = some (some (.agg #[.int .i64 0, .int .i64 0, .int .i64 0, .slice none 0 0])) := by kernel_rfl
instance : TyZ Tryd.prog 31 [.d false (.i .i64 0), .d false (.i .i64 0), .d false (.i .i64 0), .nil] := ⟨by obtain ⟨i, h1, h2⟩ := info_z Tryd.z31; exact ⟨i, _, h1, h2, rfl⟩⟩
instance : TyE Tryd.prog 31 [.i .i64 0, .i .i64 0, .i .i64 0, .l []] := ⟨by obtain ⟨i, h1, h2⟩ := info_z Tryd.z31; exact ⟨i, _, h1, h2, rfl⟩⟩
instance : TyB Tryd.prog 31 [(0, 1), (1, 1), (2, 1), (3, 1)] := ⟨_, Tryd.underlying31, fun w => by kernel_rfl⟩
instance : TyF Tryd.prog 31 0 0 3 := ⟨_, _, Tryd.underlying31, rfl, rfl, rfl, info_f (n := 1) (by kernel_rfl) (by decide)⟩
instance : TyF Tryd.prog 31 1 1 3 := ⟨_, _, Tryd.underlying31, rfl, rfl, rfl, info_f (n := 1) (by kernel_rfl) (by decide)⟩
instance : TyF Tryd.prog 31 2 2 3 := ⟨_, _, Tryd.underlying31, rfl, rfl, rfl, info_f (n := 1) (by kernel_rfl) (by decide)⟩
instance : TyF Tryd.prog 31 3 3 29 := ⟨_, _, Tryd.underlying31, rfl, rfl, rfl, info_f (n := 1) (by kernel_rfl) (by decide)⟩
-- 34: []impl.Reservation
instance : TyN Tryd.prog 34 1 := ⟨info_n (by kernel_rfl)⟩
instance : TySc Tryd.prog 34 := ⟨fun w => by kernel_rfl, info_n (by kernel_rfl)⟩
theorem Tryd.z34 : (Tryd.prog.info? 34).map (·.zero) = some (some (.slice none 0 0)) := by kernel_rfl
instance : TyZ Tryd.prog 34 [.nil] := ⟨by obtain ⟨i, h1, h2⟩ := info_z Tryd.z34; exact ⟨i, _, h1, h2, rfl⟩⟩
instance : TyE Tryd.prog 34 [.l []] := ⟨by obtain ⟨i, h1, h2⟩ := info_z Tryd.z34; exact ⟨i, _, h1, h2, rfl⟩⟩
instance : TySl Tryd.prog 34 193 2 16 := ⟨Tryd.underlying34, info_s (z := .agg #[.int .i64 0, .int .i64 0]) (by kernel_rfl) rfl, by decide⟩
-- 36: impl.Account
instance : TyN Tryd.prog 36 4 := ⟨info_n (by kernel_rfl)⟩
instance : TyAg Tryd.prog 36 4 := ⟨fun w => by kernel_rfl, info_n (by kernel_rfl)⟩
theorem Tryd.z36 : (Tryd.prog.info? 36).map (·.zero) = some (some (.agg #[.int .i64 0, .int .i64 0, .int .i64 0, .slice none 0 0])) := by kernel_rfl
instance : TyZ Tryd.prog 36 [.d false (.i .i64 0), .d false (.i .i64 0), .d false (.i .i64 0), .nil] := ⟨by obtain ⟨i, h1, h2⟩ := info_z Tryd.z36; exact ⟨i, _, h1, h2, rfl⟩⟩
instance : TyE Tryd.prog 36 [.i .i64 0, .i .i64 0, .i .i64 0, .l []] := ⟨by obtain ⟨i, h1, h2⟩ := info_z Tryd.z36; exact ⟨i, _, h1, h2, rfl⟩⟩
instance : TyB Tryd.prog 36 [(0, 1), (1, 1), (2, 1), (3, 1)] := ⟨_, Tryd.underlying36, fun w => by kernel_rfl⟩
instance : TyF Tryd.prog 36 0 0 3 := ⟨_, _, Tryd.underlying36, rfl, rfl, rfl, info_f (n := 1) (by kernel_rfl) (by decide)⟩
instance : TyF Tryd.prog 36 1 1 3 := ⟨_, _, Tryd.underlying36, rfl, rfl, rfl, info_f (n := 1) (by kernel_rfl) (by decide)⟩
instance : TyF Tryd.prog 36 2 2 3 := ⟨_, _, Tryd.underlying36, rfl, rfl, rfl, info_f (n := 1) (by kernel_rfl) (by decide)⟩
instance : TyF Tryd.prog 36 3 3 34 := ⟨_, _, Tryd.underlying36, rfl, rfl, rfl, info_f (n := 1) (by kernel_rfl) (by decide)⟩
-- 41: laws.AuthVector
instance : TyN Tryd.prog 41 5 := ⟨info_n (by kernel_rfl)⟩
instance : TyAg Tryd.prog 41 5 := ⟨fun w => by kernel_rfl, info_n (by kernel_rfl)⟩
theorem Tryd.z41 : (Tryd.prog.info? 41).map (·.zero) = some (some (.agg #[.int .i64 0, .int .i64 0, .int .i64 0, .int .i64 0, .int .i64 0])) := by kernel_rfl
instance : TyZ Tryd.prog 41 [.d false (.i .i64 0), .d false (.i .i64 0), .d false (.i .i64 0), .d false (.i .i64 0), .d false (.i .i64 0)] := ⟨by obtain ⟨i, h1, h2⟩ := info_z Tryd.z41; exact ⟨i, _, h1, h2, rfl⟩⟩
instance : TyE Tryd.prog 41 [.i .i64 0, .i .i64 0, .i .i64 0, .i .i64 0, .i .i64 0] := ⟨by obtain ⟨i, h1, h2⟩ := info_z Tryd.z41; exact ⟨i, _, h1, h2, rfl⟩⟩
instance : TyB Tryd.prog 41 [(0, 1), (1, 1), (2, 1), (3, 1), (4, 1)] := ⟨_, Tryd.underlying41, fun w => by kernel_rfl⟩
instance : TyF Tryd.prog 41 0 0 3 := ⟨_, _, Tryd.underlying41, rfl, rfl, rfl, info_f (n := 1) (by kernel_rfl) (by decide)⟩
instance : TyF Tryd.prog 41 1 1 3 := ⟨_, _, Tryd.underlying41, rfl, rfl, rfl, info_f (n := 1) (by kernel_rfl) (by decide)⟩
instance : TyF Tryd.prog 41 2 2 3 := ⟨_, _, Tryd.underlying41, rfl, rfl, rfl, info_f (n := 1) (by kernel_rfl) (by decide)⟩
instance : TyF Tryd.prog 41 3 3 3 := ⟨_, _, Tryd.underlying41, rfl, rfl, rfl, info_f (n := 1) (by kernel_rfl) (by decide)⟩
instance : TyF Tryd.prog 41 4 4 3 := ⟨_, _, Tryd.underlying41, rfl, rfl, rfl, info_f (n := 1) (by kernel_rfl) (by decide)⟩
-- 43: laws.Signal
instance : TyN Tryd.prog 43 11 := ⟨info_n (by kernel_rfl)⟩
instance : TyAg Tryd.prog 43 11 := ⟨fun w => by kernel_rfl, info_n (by kernel_rfl)⟩
theorem Tryd.z43 : (Tryd.prog.info? 43).map (·.zero) = some (some (.agg #[.int .i64 0, .int .i64 0, .int .i64 0, .int .i64 0, .int .i64 0, .int .i64 0, .int .i64 0, .int .i64 0, .int .i64 0, .int .i64 0, .int .i64 0])) := by kernel_rfl
instance : TyZ Tryd.prog 43 [.d false (.i .i64 0), .d false (.i .i64 0), .d false (.i .i64 0), .d false (.i .i64 0), .d false (.i .i64 0), .d false (.i .i64 0), .d false (.i .i64 0), .d false (.i .i64 0), .d false (.i .i64 0), .d false (.i .i64 0), .d false (.i .i64 0)] := ⟨by obtain ⟨i, h1, h2⟩ := info_z Tryd.z43; exact ⟨i, _, h1, h2, rfl⟩⟩
instance : TyE Tryd.prog 43 [.i .i64 0, .i .i64 0, .i .i64 0, .i .i64 0, .i .i64 0, .i .i64 0, .i .i64 0, .i .i64 0, .i .i64 0, .i .i64 0, .i .i64 0] := ⟨by obtain ⟨i, h1, h2⟩ := info_z Tryd.z43; exact ⟨i, _, h1, h2, rfl⟩⟩
instance : TyB Tryd.prog 43 [(0, 1), (1, 1), (2, 1), (3, 1), (4, 1), (5, 5), (10, 1)] := ⟨_, Tryd.underlying43, fun w => by kernel_rfl⟩
instance : TyF Tryd.prog 43 0 0 3 := ⟨_, _, Tryd.underlying43, rfl, rfl, rfl, info_f (n := 1) (by kernel_rfl) (by decide)⟩
instance : TyF Tryd.prog 43 1 1 3 := ⟨_, _, Tryd.underlying43, rfl, rfl, rfl, info_f (n := 1) (by kernel_rfl) (by decide)⟩
instance : TyF Tryd.prog 43 2 2 3 := ⟨_, _, Tryd.underlying43, rfl, rfl, rfl, info_f (n := 1) (by kernel_rfl) (by decide)⟩
instance : TyF Tryd.prog 43 3 3 3 := ⟨_, _, Tryd.underlying43, rfl, rfl, rfl, info_f (n := 1) (by kernel_rfl) (by decide)⟩
instance : TyF Tryd.prog 43 4 4 3 := ⟨_, _, Tryd.underlying43, rfl, rfl, rfl, info_f (n := 1) (by kernel_rfl) (by decide)⟩
instance : TyF Tryd.prog 43 5 5 41 := ⟨_, _, Tryd.underlying43, rfl, rfl, rfl, info_f (n := 5) (by kernel_rfl) (by decide)⟩
instance : TyF Tryd.prog 43 6 10 3 := ⟨_, _, Tryd.underlying43, rfl, rfl, rfl, info_f (n := 1) (by kernel_rfl) (by decide)⟩
-- 44: []uint8
instance : TyN Tryd.prog 44 1 := ⟨info_n (by kernel_rfl)⟩
instance : TySc Tryd.prog 44 := ⟨fun w => by kernel_rfl, info_n (by kernel_rfl)⟩
theorem Tryd.z44 : (Tryd.prog.info? 44).map (·.zero) = some (some (.slice none 0 0)) := by kernel_rfl
instance : TyZ Tryd.prog 44 [.nil] := ⟨by obtain ⟨i, h1, h2⟩ := info_z Tryd.z44; exact ⟨i, _, h1, h2, rfl⟩⟩
instance : TyE Tryd.prog 44 [.l []] := ⟨by obtain ⟨i, h1, h2⟩ := info_z Tryd.z44; exact ⟨i, _, h1, h2, rfl⟩⟩
instance : TySl Tryd.prog 44 5 1 1 := ⟨Tryd.underlying44, info_s (z := .int .u8 0) (by kernel_rfl) rfl, by decide⟩
-- 46: laws.SecuredMessage
instance : TyN Tryd.prog 46 4 := ⟨info_n (by kernel_rfl)⟩
instance : TyAg Tryd.prog 46 4 := ⟨fun w => by kernel_rfl, info_n (by kernel_rfl)⟩
theorem Tryd.z46 : (Tryd.prog.info? 46).map (·.zero) = some (some (.agg #[.int .i64 0, .int .i64 0, .slice none 0 0, .int .i64 0])) := by kernel_rfl
instance : TyZ Tryd.prog 46 [.d false (.i .i64 0), .d false (.i .i64 0), .nil, .d false (.i .i64 0)] := ⟨by obtain ⟨i, h1, h2⟩ := info_z Tryd.z46; exact ⟨i, _, h1, h2, rfl⟩⟩
instance : TyE Tryd.prog 46 [.i .i64 0, .i .i64 0, .l [], .i .i64 0] := ⟨by obtain ⟨i, h1, h2⟩ := info_z Tryd.z46; exact ⟨i, _, h1, h2, rfl⟩⟩
instance : TyB Tryd.prog 46 [(0, 1), (1, 1), (2, 1), (3, 1)] := ⟨_, Tryd.underlying46, fun w => by kernel_rfl⟩
instance : TyF Tryd.prog 46 0 0 3 := ⟨_, _, Tryd.underlying46, rfl, rfl, rfl, info_f (n := 1) (by kernel_rfl) (by decide)⟩
instance : TyF Tryd.prog 46 1 1 3 := ⟨_, _, Tryd.underlying46, rfl, rfl, rfl, info_f (n := 1) (by kernel_rfl) (by decide)⟩
instance : TyF Tryd.prog 46 2 2 44 := ⟨_, _, Tryd.underlying46, rfl, rfl, rfl, info_f (n := 1) (by kernel_rfl) (by decide)⟩
instance : TyF Tryd.prog 46 3 3 3 := ⟨_, _, Tryd.underlying46, rfl, rfl, rfl, info_f (n := 1) (by kernel_rfl) (by decide)⟩
-- 48: laws.RadioPacket
instance : TyN Tryd.prog 48 6 := ⟨info_n (by kernel_rfl)⟩
instance : TyAg Tryd.prog 48 6 := ⟨fun w => by kernel_rfl, info_n (by kernel_rfl)⟩
theorem Tryd.z48 : (Tryd.prog.info? 48).map (·.zero) = some (some (.agg #[.int .i64 0, .int .i64 0, .int .i64 0, .int .i64 0, .slice none 0 0, .int .i64 0])) := by kernel_rfl
instance : TyZ Tryd.prog 48 [.d false (.i .i64 0), .d false (.i .i64 0), .d false (.i .i64 0), .d false (.i .i64 0), .nil, .d false (.i .i64 0)] := ⟨by obtain ⟨i, h1, h2⟩ := info_z Tryd.z48; exact ⟨i, _, h1, h2, rfl⟩⟩
instance : TyE Tryd.prog 48 [.i .i64 0, .i .i64 0, .i .i64 0, .i .i64 0, .l [], .i .i64 0] := ⟨by obtain ⟨i, h1, h2⟩ := info_z Tryd.z48; exact ⟨i, _, h1, h2, rfl⟩⟩
instance : TyB Tryd.prog 48 [(0, 1), (1, 1), (2, 4)] := ⟨_, Tryd.underlying48, fun w => by kernel_rfl⟩
instance : TyF Tryd.prog 48 0 0 3 := ⟨_, _, Tryd.underlying48, rfl, rfl, rfl, info_f (n := 1) (by kernel_rfl) (by decide)⟩
instance : TyF Tryd.prog 48 1 1 3 := ⟨_, _, Tryd.underlying48, rfl, rfl, rfl, info_f (n := 1) (by kernel_rfl) (by decide)⟩
instance : TyF Tryd.prog 48 2 2 46 := ⟨_, _, Tryd.underlying48, rfl, rfl, rfl, info_f (n := 4) (by kernel_rfl) (by decide)⟩
-- 50: laws.Flight
instance : TyN Tryd.prog 50 21 := ⟨info_n (by kernel_rfl)⟩
instance : TyAg Tryd.prog 50 21 := ⟨fun w => by kernel_rfl, info_n (by kernel_rfl)⟩
theorem Tryd.z50 : (Tryd.prog.info? 50).map (·.zero) = some (some (.agg #[.int .i64 0, .bool false, .bool false, .int .i64 0, .int .i64 0, .int .i64 0, .int .i64 0, .int .i64 0, .int .i64 0, .int .i64 0, .int .i64 0, .int .i64 0, .int .i64 0, .int .i64 0, .int .i64 0, .int .i64 0, .int .i64 0, .int .i64 0, .int .i64 0, .slice none 0 0, .int .i64 0])) := by kernel_rfl
instance : TyZ Tryd.prog 50 [.d false (.i .i64 0), .d false (.b false), .d false (.b false), .d false (.i .i64 0), .d false (.i .i64 0), .d false (.i .i64 0), .d false (.i .i64 0), .d false (.i .i64 0), .d false (.i .i64 0), .d false (.i .i64 0), .d false (.i .i64 0), .d false (.i .i64 0), .d false (.i .i64 0), .d false (.i .i64 0), .d false (.i .i64 0), .d false (.i .i64 0), .d false (.i .i64 0), .d false (.i .i64 0), .d false (.i .i64 0), .nil, .d false (.i .i64 0)] := ⟨by obtain ⟨i, h1, h2⟩ := info_z Tryd.z50; exact ⟨i, _, h1, h2, rfl⟩⟩
instance : TyE Tryd.prog 50 [.i .i64 0, .b false, .b false, .i .i64 0, .i .i64 0, .i .i64 0, .i .i64 0, .i .i64 0, .i .i64 0, .i .i64 0, .i .i64 0, .i .i64 0, .i .i64 0, .i .i64 0, .i .i64 0, .i .i64 0, .i .i64 0, .i .i64 0, .i .i64 0, .l [], .i .i64 0] := ⟨by obtain ⟨i, h1, h2⟩ := info_z Tryd.z50; exact ⟨i, _, h1, h2, rfl⟩⟩
instance : TyB Tryd.prog 50 [(0, 1), (1, 1), (2, 1), (3, 1), (4, 11), (15, 6)] := ⟨_, Tryd.underlying50, fun w => by kernel_rfl⟩
instance : TyF Tryd.prog 50 0 0 3 := ⟨_, _, Tryd.underlying50, rfl, rfl, rfl, info_f (n := 1) (by kernel_rfl) (by decide)⟩
instance : TyF Tryd.prog 50 1 1 4 := ⟨_, _, Tryd.underlying50, rfl, rfl, rfl, info_f (n := 1) (by kernel_rfl) (by decide)⟩
instance : TyF Tryd.prog 50 2 2 4 := ⟨_, _, Tryd.underlying50, rfl, rfl, rfl, info_f (n := 1) (by kernel_rfl) (by decide)⟩
instance : TyF Tryd.prog 50 3 3 3 := ⟨_, _, Tryd.underlying50, rfl, rfl, rfl, info_f (n := 1) (by kernel_rfl) (by decide)⟩
instance : TyF Tryd.prog 50 4 4 43 := ⟨_, _, Tryd.underlying50, rfl, rfl, rfl, info_f (n := 11) (by kernel_rfl) (by decide)⟩
instance : TyF Tryd.prog 50 5 15 48 := ⟨_, _, Tryd.underlying50, rfl, rfl, rfl, info_f (n := 6) (by kernel_rfl) (by decide)⟩
-- 53: impl.AuthVector
instance : TyN Tryd.prog 53 5 := ⟨info_n (by kernel_rfl)⟩
instance : TyAg Tryd.prog 53 5 := ⟨fun w => by kernel_rfl, info_n (by kernel_rfl)⟩
theorem Tryd.z53 : (Tryd.prog.info? 53).map (·.zero) = some (some (.agg #[.int .i64 0, .int .i64 0, .int .i64 0, .int .i64 0, .int .i64 0])) := by kernel_rfl
instance : TyZ Tryd.prog 53 [.d false (.i .i64 0), .d false (.i .i64 0), .d false (.i .i64 0), .d false (.i .i64 0), .d false (.i .i64 0)] := ⟨by obtain ⟨i, h1, h2⟩ := info_z Tryd.z53; exact ⟨i, _, h1, h2, rfl⟩⟩
instance : TyE Tryd.prog 53 [.i .i64 0, .i .i64 0, .i .i64 0, .i .i64 0, .i .i64 0] := ⟨by obtain ⟨i, h1, h2⟩ := info_z Tryd.z53; exact ⟨i, _, h1, h2, rfl⟩⟩
instance : TyB Tryd.prog 53 [(0, 1), (1, 1), (2, 1), (3, 1), (4, 1)] := ⟨_, Tryd.underlying53, fun w => by kernel_rfl⟩
instance : TyF Tryd.prog 53 0 0 3 := ⟨_, _, Tryd.underlying53, rfl, rfl, rfl, info_f (n := 1) (by kernel_rfl) (by decide)⟩
instance : TyF Tryd.prog 53 1 1 3 := ⟨_, _, Tryd.underlying53, rfl, rfl, rfl, info_f (n := 1) (by kernel_rfl) (by decide)⟩
instance : TyF Tryd.prog 53 2 2 3 := ⟨_, _, Tryd.underlying53, rfl, rfl, rfl, info_f (n := 1) (by kernel_rfl) (by decide)⟩
instance : TyF Tryd.prog 53 3 3 3 := ⟨_, _, Tryd.underlying53, rfl, rfl, rfl, info_f (n := 1) (by kernel_rfl) (by decide)⟩
instance : TyF Tryd.prog 53 4 4 3 := ⟨_, _, Tryd.underlying53, rfl, rfl, rfl, info_f (n := 1) (by kernel_rfl) (by decide)⟩
-- 55: impl.Signal
instance : TyN Tryd.prog 55 11 := ⟨info_n (by kernel_rfl)⟩
instance : TyAg Tryd.prog 55 11 := ⟨fun w => by kernel_rfl, info_n (by kernel_rfl)⟩
theorem Tryd.z55 : (Tryd.prog.info? 55).map (·.zero) = some (some (.agg #[.int .i64 0, .int .i64 0, .int .i64 0, .int .i64 0, .int .i64 0, .int .i64 0, .int .i64 0, .int .i64 0, .int .i64 0, .int .i64 0, .int .i64 0])) := by kernel_rfl
instance : TyZ Tryd.prog 55 [.d false (.i .i64 0), .d false (.i .i64 0), .d false (.i .i64 0), .d false (.i .i64 0), .d false (.i .i64 0), .d false (.i .i64 0), .d false (.i .i64 0), .d false (.i .i64 0), .d false (.i .i64 0), .d false (.i .i64 0), .d false (.i .i64 0)] := ⟨by obtain ⟨i, h1, h2⟩ := info_z Tryd.z55; exact ⟨i, _, h1, h2, rfl⟩⟩
instance : TyE Tryd.prog 55 [.i .i64 0, .i .i64 0, .i .i64 0, .i .i64 0, .i .i64 0, .i .i64 0, .i .i64 0, .i .i64 0, .i .i64 0, .i .i64 0, .i .i64 0] := ⟨by obtain ⟨i, h1, h2⟩ := info_z Tryd.z55; exact ⟨i, _, h1, h2, rfl⟩⟩
instance : TyB Tryd.prog 55 [(0, 1), (1, 1), (2, 1), (3, 1), (4, 1), (5, 5), (10, 1)] := ⟨_, Tryd.underlying55, fun w => by kernel_rfl⟩
instance : TyF Tryd.prog 55 0 0 3 := ⟨_, _, Tryd.underlying55, rfl, rfl, rfl, info_f (n := 1) (by kernel_rfl) (by decide)⟩
instance : TyF Tryd.prog 55 1 1 3 := ⟨_, _, Tryd.underlying55, rfl, rfl, rfl, info_f (n := 1) (by kernel_rfl) (by decide)⟩
instance : TyF Tryd.prog 55 2 2 3 := ⟨_, _, Tryd.underlying55, rfl, rfl, rfl, info_f (n := 1) (by kernel_rfl) (by decide)⟩
instance : TyF Tryd.prog 55 3 3 3 := ⟨_, _, Tryd.underlying55, rfl, rfl, rfl, info_f (n := 1) (by kernel_rfl) (by decide)⟩
instance : TyF Tryd.prog 55 4 4 3 := ⟨_, _, Tryd.underlying55, rfl, rfl, rfl, info_f (n := 1) (by kernel_rfl) (by decide)⟩
instance : TyF Tryd.prog 55 5 5 53 := ⟨_, _, Tryd.underlying55, rfl, rfl, rfl, info_f (n := 5) (by kernel_rfl) (by decide)⟩
instance : TyF Tryd.prog 55 6 10 3 := ⟨_, _, Tryd.underlying55, rfl, rfl, rfl, info_f (n := 1) (by kernel_rfl) (by decide)⟩
-- 56: impl.SecuredMessage
instance : TyN Tryd.prog 56 4 := ⟨info_n (by kernel_rfl)⟩
instance : TyAg Tryd.prog 56 4 := ⟨fun w => by kernel_rfl, info_n (by kernel_rfl)⟩
theorem Tryd.z56 : (Tryd.prog.info? 56).map (·.zero) = some (some (.agg #[.int .i64 0, .int .i64 0, .slice none 0 0, .int .i64 0])) := by kernel_rfl
instance : TyZ Tryd.prog 56 [.d false (.i .i64 0), .d false (.i .i64 0), .nil, .d false (.i .i64 0)] := ⟨by obtain ⟨i, h1, h2⟩ := info_z Tryd.z56; exact ⟨i, _, h1, h2, rfl⟩⟩
instance : TyE Tryd.prog 56 [.i .i64 0, .i .i64 0, .l [], .i .i64 0] := ⟨by obtain ⟨i, h1, h2⟩ := info_z Tryd.z56; exact ⟨i, _, h1, h2, rfl⟩⟩
instance : TyB Tryd.prog 56 [(0, 1), (1, 1), (2, 1), (3, 1)] := ⟨_, Tryd.underlying56, fun w => by kernel_rfl⟩
instance : TyF Tryd.prog 56 0 0 3 := ⟨_, _, Tryd.underlying56, rfl, rfl, rfl, info_f (n := 1) (by kernel_rfl) (by decide)⟩
instance : TyF Tryd.prog 56 1 1 3 := ⟨_, _, Tryd.underlying56, rfl, rfl, rfl, info_f (n := 1) (by kernel_rfl) (by decide)⟩
instance : TyF Tryd.prog 56 2 2 44 := ⟨_, _, Tryd.underlying56, rfl, rfl, rfl, info_f (n := 1) (by kernel_rfl) (by decide)⟩
instance : TyF Tryd.prog 56 3 3 3 := ⟨_, _, Tryd.underlying56, rfl, rfl, rfl, info_f (n := 1) (by kernel_rfl) (by decide)⟩
-- 58: impl.RadioPacket
instance : TyN Tryd.prog 58 6 := ⟨info_n (by kernel_rfl)⟩
instance : TyAg Tryd.prog 58 6 := ⟨fun w => by kernel_rfl, info_n (by kernel_rfl)⟩
theorem Tryd.z58 : (Tryd.prog.info? 58).map (·.zero) = some (some (.agg #[.int .i64 0, .int .i64 0, .int .i64 0, .int .i64 0, .slice none 0 0, .int .i64 0])) := by kernel_rfl
instance : TyZ Tryd.prog 58 [.d false (.i .i64 0), .d false (.i .i64 0), .d false (.i .i64 0), .d false (.i .i64 0), .nil, .d false (.i .i64 0)] := ⟨by obtain ⟨i, h1, h2⟩ := info_z Tryd.z58; exact ⟨i, _, h1, h2, rfl⟩⟩
instance : TyE Tryd.prog 58 [.i .i64 0, .i .i64 0, .i .i64 0, .i .i64 0, .l [], .i .i64 0] := ⟨by obtain ⟨i, h1, h2⟩ := info_z Tryd.z58; exact ⟨i, _, h1, h2, rfl⟩⟩
instance : TyB Tryd.prog 58 [(0, 1), (1, 1), (2, 4)] := ⟨_, Tryd.underlying58, fun w => by kernel_rfl⟩
instance : TyF Tryd.prog 58 0 0 3 := ⟨_, _, Tryd.underlying58, rfl, rfl, rfl, info_f (n := 1) (by kernel_rfl) (by decide)⟩
instance : TyF Tryd.prog 58 1 1 3 := ⟨_, _, Tryd.underlying58, rfl, rfl, rfl, info_f (n := 1) (by kernel_rfl) (by decide)⟩
instance : TyF Tryd.prog 58 2 2 56 := ⟨_, _, Tryd.underlying58, rfl, rfl, rfl, info_f (n := 4) (by kernel_rfl) (by decide)⟩
-- 60: impl.Flight
instance : TyN Tryd.prog 60 21 := ⟨info_n (by kernel_rfl)⟩
instance : TyAg Tryd.prog 60 21 := ⟨fun w => by kernel_rfl, info_n (by kernel_rfl)⟩
theorem Tryd.z60 : (Tryd.prog.info? 60).map (·.zero) = some (some (.agg #[.int .i64 0, .bool false, .bool false, .int .i64 0, .int .i64 0, .int .i64 0, .int .i64 0, .int .i64 0, .int .i64 0, .int .i64 0, .int .i64 0, .int .i64 0, .int .i64 0, .int .i64 0, .int .i64 0, .int .i64 0, .int .i64 0, .int .i64 0, .int .i64 0, .slice none 0 0, .int .i64 0])) := by kernel_rfl
instance : TyZ Tryd.prog 60 [.d false (.i .i64 0), .d false (.b false), .d false (.b false), .d false (.i .i64 0), .d false (.i .i64 0), .d false (.i .i64 0), .d false (.i .i64 0), .d false (.i .i64 0), .d false (.i .i64 0), .d false (.i .i64 0), .d false (.i .i64 0), .d false (.i .i64 0), .d false (.i .i64 0), .d false (.i .i64 0), .d false (.i .i64 0), .d false (.i .i64 0), .d false (.i .i64 0), .d false (.i .i64 0), .d false (.i .i64 0), .nil, .d false (.i .i64 0)] := ⟨by obtain ⟨i, h1, h2⟩ := info_z Tryd.z60; exact ⟨i, _, h1, h2, rfl⟩⟩
instance : TyE Tryd.prog 60 [.i .i64 0, .b false, .b false, .i .i64 0, .i .i64 0, .i .i64 0, .i .i64 0, .i .i64 0, .i .i64 0, .i .i64 0, .i .i64 0, .i .i64 0, .i .i64 0, .i .i64 0, .i .i64 0, .i .i64 0, .i .i64 0, .i .i64 0, .i .i64 0, .l [], .i .i64 0] := ⟨by obtain ⟨i, h1, h2⟩ := info_z Tryd.z60; exact ⟨i, _, h1, h2, rfl⟩⟩
instance : TyB Tryd.prog 60 [(0, 1), (1, 1), (2, 1), (3, 1), (4, 11), (15, 6)] := ⟨_, Tryd.underlying60, fun w => by kernel_rfl⟩
instance : TyF Tryd.prog 60 0 0 3 := ⟨_, _, Tryd.underlying60, rfl, rfl, rfl, info_f (n := 1) (by kernel_rfl) (by decide)⟩
instance : TyF Tryd.prog 60 1 1 4 := ⟨_, _, Tryd.underlying60, rfl, rfl, rfl, info_f (n := 1) (by kernel_rfl) (by decide)⟩
instance : TyF Tryd.prog 60 2 2 4 := ⟨_, _, Tryd.underlying60, rfl, rfl, rfl, info_f (n := 1) (by kernel_rfl) (by decide)⟩
instance : TyF Tryd.prog 60 3 3 3 := ⟨_, _, Tryd.underlying60, rfl, rfl, rfl, info_f (n := 1) (by kernel_rfl) (by decide)⟩
instance : TyF Tryd.prog 60 4 4 55 := ⟨_, _, Tryd.underlying60, rfl, rfl, rfl, info_f (n := 11) (by kernel_rfl) (by decide)⟩
instance : TyF Tryd.prog 60 5 15 58 := ⟨_, _, Tryd.underlying60, rfl, rfl, rfl, info_f (n := 6) (by kernel_rfl) (by decide)⟩
-- 65: laws.SubscriberID
instance : TyN Tryd.prog 65 2 := ⟨info_n (by kernel_rfl)⟩
instance : TyAg Tryd.prog 65 2 := ⟨fun w => by kernel_rfl, info_n (by kernel_rfl)⟩
theorem Tryd.z65 : (Tryd.prog.info? 65).map (·.zero) = some (some (.agg #[.int .i64 0, .int .i64 0])) := by kernel_rfl
instance : TyZ Tryd.prog 65 [.d false (.i .i64 0), .d false (.i .i64 0)] := ⟨by obtain ⟨i, h1, h2⟩ := info_z Tryd.z65; exact ⟨i, _, h1, h2, rfl⟩⟩
instance : TyE Tryd.prog 65 [.i .i64 0, .i .i64 0] := ⟨by obtain ⟨i, h1, h2⟩ := info_z Tryd.z65; exact ⟨i, _, h1, h2, rfl⟩⟩
instance : TyB Tryd.prog 65 [(0, 1), (1, 1)] := ⟨_, Tryd.underlying65, fun w => by kernel_rfl⟩
instance : TyF Tryd.prog 65 0 0 3 := ⟨_, _, Tryd.underlying65, rfl, rfl, rfl, info_f (n := 1) (by kernel_rfl) (by decide)⟩
instance : TyF Tryd.prog 65 1 1 3 := ⟨_, _, Tryd.underlying65, rfl, rfl, rfl, info_f (n := 1) (by kernel_rfl) (by decide)⟩
-- 67: laws.USIM
instance : TyN Tryd.prog 67 4 := ⟨info_n (by kernel_rfl)⟩
instance : TyAg Tryd.prog 67 4 := ⟨fun w => by kernel_rfl, info_n (by kernel_rfl)⟩
theorem Tryd.z67 : (Tryd.prog.info? 67).map (·.zero) = some (some (.agg #[.int .i64 0, .int .i64 0, .int .i64 0, .int .i64 0])) := by kernel_rfl
instance : TyZ Tryd.prog 67 [.d false (.i .i64 0), .d false (.i .i64 0), .d false (.i .i64 0), .d false (.i .i64 0)] := ⟨by obtain ⟨i, h1, h2⟩ := info_z Tryd.z67; exact ⟨i, _, h1, h2, rfl⟩⟩
instance : TyE Tryd.prog 67 [.i .i64 0, .i .i64 0, .i .i64 0, .i .i64 0] := ⟨by obtain ⟨i, h1, h2⟩ := info_z Tryd.z67; exact ⟨i, _, h1, h2, rfl⟩⟩
instance : TyB Tryd.prog 67 [(0, 2), (2, 1), (3, 1)] := ⟨_, Tryd.underlying67, fun w => by kernel_rfl⟩
instance : TyF Tryd.prog 67 0 0 65 := ⟨_, _, Tryd.underlying67, rfl, rfl, rfl, info_f (n := 2) (by kernel_rfl) (by decide)⟩
instance : TyF Tryd.prog 67 1 2 3 := ⟨_, _, Tryd.underlying67, rfl, rfl, rfl, info_f (n := 1) (by kernel_rfl) (by decide)⟩
instance : TyF Tryd.prog 67 2 3 3 := ⟨_, _, Tryd.underlying67, rfl, rfl, rfl, info_f (n := 1) (by kernel_rfl) (by decide)⟩
-- 68: []laws.NumberedPacket
instance : TyN Tryd.prog 68 1 := ⟨info_n (by kernel_rfl)⟩
instance : TySc Tryd.prog 68 := ⟨fun w => by kernel_rfl, info_n (by kernel_rfl)⟩
theorem Tryd.z68 : (Tryd.prog.info? 68).map (·.zero) = some (some (.slice none 0 0)) := by kernel_rfl
instance : TyZ Tryd.prog 68 [.nil] := ⟨by obtain ⟨i, h1, h2⟩ := info_z Tryd.z68; exact ⟨i, _, h1, h2, rfl⟩⟩
instance : TyE Tryd.prog 68 [.l []] := ⟨by obtain ⟨i, h1, h2⟩ := info_z Tryd.z68; exact ⟨i, _, h1, h2, rfl⟩⟩
instance : TySl Tryd.prog 68 231 2 32 := ⟨Tryd.underlying68, info_s (z := .agg #[.int .i64 0, .slice none 0 0]) (by kernel_rfl) rfl, by decide⟩
-- 69: []laws.Payload
instance : TyN Tryd.prog 69 1 := ⟨info_n (by kernel_rfl)⟩
instance : TySc Tryd.prog 69 := ⟨fun w => by kernel_rfl, info_n (by kernel_rfl)⟩
theorem Tryd.z69 : (Tryd.prog.info? 69).map (·.zero) = some (some (.slice none 0 0)) := by kernel_rfl
instance : TyZ Tryd.prog 69 [.nil] := ⟨by obtain ⟨i, h1, h2⟩ := info_z Tryd.z69; exact ⟨i, _, h1, h2, rfl⟩⟩
instance : TyE Tryd.prog 69 [.l []] := ⟨by obtain ⟨i, h1, h2⟩ := info_z Tryd.z69; exact ⟨i, _, h1, h2, rfl⟩⟩
instance : TySl Tryd.prog 69 219 1 24 := ⟨Tryd.underlying69, info_s (z := .agg #[.slice none 0 0]) (by kernel_rfl) rfl, by decide⟩
-- 71: laws.ReceiveWindow
instance : TyN Tryd.prog 71 3 := ⟨info_n (by kernel_rfl)⟩
instance : TyAg Tryd.prog 71 3 := ⟨fun w => by kernel_rfl, info_n (by kernel_rfl)⟩
theorem Tryd.z71 : (Tryd.prog.info? 71).map (·.zero) = some (some (.agg #[.int .i64 0, .slice none 0 0, .slice none 0 0])) := by kernel_rfl
instance : TyZ Tryd.prog 71 [.d false (.i .i64 0), .nil, .nil] := ⟨by obtain ⟨i, h1, h2⟩ := info_z Tryd.z71; exact ⟨i, _, h1, h2, rfl⟩⟩
instance : TyE Tryd.prog 71 [.i .i64 0, .l [], .l []] := ⟨by obtain ⟨i, h1, h2⟩ := info_z Tryd.z71; exact ⟨i, _, h1, h2, rfl⟩⟩
instance : TyB Tryd.prog 71 [(0, 1), (1, 1), (2, 1)] := ⟨_, Tryd.underlying71, fun w => by kernel_rfl⟩
instance : TyF Tryd.prog 71 0 0 3 := ⟨_, _, Tryd.underlying71, rfl, rfl, rfl, info_f (n := 1) (by kernel_rfl) (by decide)⟩
instance : TyF Tryd.prog 71 1 1 68 := ⟨_, _, Tryd.underlying71, rfl, rfl, rfl, info_f (n := 1) (by kernel_rfl) (by decide)⟩
instance : TyF Tryd.prog 71 2 2 69 := ⟨_, _, Tryd.underlying71, rfl, rfl, rfl, info_f (n := 1) (by kernel_rfl) (by decide)⟩
-- 73: laws.Device
instance : TyN Tryd.prog 73 14 := ⟨info_n (by kernel_rfl)⟩
instance : TyAg Tryd.prog 73 14 := ⟨fun w => by kernel_rfl, info_n (by kernel_rfl)⟩
theorem Tryd.z73 : (Tryd.prog.info? 73).map (·.zero) = some (some (.agg #[.int .i64 0, .int .i64 0, .int .i64 0, .int .i64 0, .int .i64 0, .int .i64 0, .int .i64 0, .int .i64 0, .int .i64 0, .bool false, .int .i64 0, .int .i64 0, .slice none 0 0, .slice none 0 0])) := by kernel_rfl
instance : TyZ Tryd.prog 73 [.d false (.i .i64 0), .d false (.i .i64 0), .d false (.i .i64 0), .d false (.i .i64 0), .d false (.i .i64 0), .d false (.i .i64 0), .d false (.i .i64 0), .d false (.i .i64 0), .d false (.i .i64 0), .d false (.b false), .d false (.i .i64 0), .d false (.i .i64 0), .nil, .nil] := ⟨by obtain ⟨i, h1, h2⟩ := info_z Tryd.z73; exact ⟨i, _, h1, h2, rfl⟩⟩
instance : TyE Tryd.prog 73 [.i .i64 0, .i .i64 0, .i .i64 0, .i .i64 0, .i .i64 0, .i .i64 0, .i .i64 0, .i .i64 0, .i .i64 0, .b false, .i .i64 0, .i .i64 0, .l [], .l []] := ⟨by obtain ⟨i, h1, h2⟩ := info_z Tryd.z73; exact ⟨i, _, h1, h2, rfl⟩⟩
instance : TyB Tryd.prog 73 [(0, 4), (4, 1), (5, 1), (6, 1), (7, 1), (8, 1), (9, 1), (10, 1), (11, 3)] := ⟨_, Tryd.underlying73, fun w => by kernel_rfl⟩
instance : TyF Tryd.prog 73 0 0 67 := ⟨_, _, Tryd.underlying73, rfl, rfl, rfl, info_f (n := 4) (by kernel_rfl) (by decide)⟩
instance : TyF Tryd.prog 73 1 4 3 := ⟨_, _, Tryd.underlying73, rfl, rfl, rfl, info_f (n := 1) (by kernel_rfl) (by decide)⟩
instance : TyF Tryd.prog 73 2 5 3 := ⟨_, _, Tryd.underlying73, rfl, rfl, rfl, info_f (n := 1) (by kernel_rfl) (by decide)⟩
instance : TyF Tryd.prog 73 3 6 3 := ⟨_, _, Tryd.underlying73, rfl, rfl, rfl, info_f (n := 1) (by kernel_rfl) (by decide)⟩
instance : TyF Tryd.prog 73 4 7 3 := ⟨_, _, Tryd.underlying73, rfl, rfl, rfl, info_f (n := 1) (by kernel_rfl) (by decide)⟩
instance : TyF Tryd.prog 73 5 8 3 := ⟨_, _, Tryd.underlying73, rfl, rfl, rfl, info_f (n := 1) (by kernel_rfl) (by decide)⟩
instance : TyF Tryd.prog 73 6 9 4 := ⟨_, _, Tryd.underlying73, rfl, rfl, rfl, info_f (n := 1) (by kernel_rfl) (by decide)⟩
instance : TyF Tryd.prog 73 7 10 3 := ⟨_, _, Tryd.underlying73, rfl, rfl, rfl, info_f (n := 1) (by kernel_rfl) (by decide)⟩
instance : TyF Tryd.prog 73 8 11 71 := ⟨_, _, Tryd.underlying73, rfl, rfl, rfl, info_f (n := 3) (by kernel_rfl) (by decide)⟩
-- 76: impl.SubscriberID
instance : TyN Tryd.prog 76 2 := ⟨info_n (by kernel_rfl)⟩
instance : TyAg Tryd.prog 76 2 := ⟨fun w => by kernel_rfl, info_n (by kernel_rfl)⟩
theorem Tryd.z76 : (Tryd.prog.info? 76).map (·.zero) = some (some (.agg #[.int .i64 0, .int .i64 0])) := by kernel_rfl
instance : TyZ Tryd.prog 76 [.d false (.i .i64 0), .d false (.i .i64 0)] := ⟨by obtain ⟨i, h1, h2⟩ := info_z Tryd.z76; exact ⟨i, _, h1, h2, rfl⟩⟩
instance : TyE Tryd.prog 76 [.i .i64 0, .i .i64 0] := ⟨by obtain ⟨i, h1, h2⟩ := info_z Tryd.z76; exact ⟨i, _, h1, h2, rfl⟩⟩
instance : TyB Tryd.prog 76 [(0, 1), (1, 1)] := ⟨_, Tryd.underlying76, fun w => by kernel_rfl⟩
instance : TyF Tryd.prog 76 0 0 3 := ⟨_, _, Tryd.underlying76, rfl, rfl, rfl, info_f (n := 1) (by kernel_rfl) (by decide)⟩
instance : TyF Tryd.prog 76 1 1 3 := ⟨_, _, Tryd.underlying76, rfl, rfl, rfl, info_f (n := 1) (by kernel_rfl) (by decide)⟩
-- 78: impl.USIM
instance : TyN Tryd.prog 78 4 := ⟨info_n (by kernel_rfl)⟩
instance : TyAg Tryd.prog 78 4 := ⟨fun w => by kernel_rfl, info_n (by kernel_rfl)⟩
theorem Tryd.z78 : (Tryd.prog.info? 78).map (·.zero) = some (some (.agg #[.int .i64 0, .int .i64 0, .int .i64 0, .int .i64 0])) := by kernel_rfl
instance : TyZ Tryd.prog 78 [.d false (.i .i64 0), .d false (.i .i64 0), .d false (.i .i64 0), .d false (.i .i64 0)] := ⟨by obtain ⟨i, h1, h2⟩ := info_z Tryd.z78; exact ⟨i, _, h1, h2, rfl⟩⟩
instance : TyE Tryd.prog 78 [.i .i64 0, .i .i64 0, .i .i64 0, .i .i64 0] := ⟨by obtain ⟨i, h1, h2⟩ := info_z Tryd.z78; exact ⟨i, _, h1, h2, rfl⟩⟩
instance : TyB Tryd.prog 78 [(0, 2), (2, 1), (3, 1)] := ⟨_, Tryd.underlying78, fun w => by kernel_rfl⟩
instance : TyF Tryd.prog 78 0 0 76 := ⟨_, _, Tryd.underlying78, rfl, rfl, rfl, info_f (n := 2) (by kernel_rfl) (by decide)⟩
instance : TyF Tryd.prog 78 1 2 3 := ⟨_, _, Tryd.underlying78, rfl, rfl, rfl, info_f (n := 1) (by kernel_rfl) (by decide)⟩
instance : TyF Tryd.prog 78 2 3 3 := ⟨_, _, Tryd.underlying78, rfl, rfl, rfl, info_f (n := 1) (by kernel_rfl) (by decide)⟩
-- 79: []impl.NumberedPacket
instance : TyN Tryd.prog 79 1 := ⟨info_n (by kernel_rfl)⟩
instance : TySc Tryd.prog 79 := ⟨fun w => by kernel_rfl, info_n (by kernel_rfl)⟩
theorem Tryd.z79 : (Tryd.prog.info? 79).map (·.zero) = some (some (.slice none 0 0)) := by kernel_rfl
instance : TyZ Tryd.prog 79 [.nil] := ⟨by obtain ⟨i, h1, h2⟩ := info_z Tryd.z79; exact ⟨i, _, h1, h2, rfl⟩⟩
instance : TyE Tryd.prog 79 [.l []] := ⟨by obtain ⟨i, h1, h2⟩ := info_z Tryd.z79; exact ⟨i, _, h1, h2, rfl⟩⟩
instance : TySl Tryd.prog 79 232 2 32 := ⟨Tryd.underlying79, info_s (z := .agg #[.int .i64 0, .slice none 0 0]) (by kernel_rfl) rfl, by decide⟩
-- 80: []impl.Payload
instance : TyN Tryd.prog 80 1 := ⟨info_n (by kernel_rfl)⟩
instance : TySc Tryd.prog 80 := ⟨fun w => by kernel_rfl, info_n (by kernel_rfl)⟩
theorem Tryd.z80 : (Tryd.prog.info? 80).map (·.zero) = some (some (.slice none 0 0)) := by kernel_rfl
instance : TyZ Tryd.prog 80 [.nil] := ⟨by obtain ⟨i, h1, h2⟩ := info_z Tryd.z80; exact ⟨i, _, h1, h2, rfl⟩⟩
instance : TyE Tryd.prog 80 [.l []] := ⟨by obtain ⟨i, h1, h2⟩ := info_z Tryd.z80; exact ⟨i, _, h1, h2, rfl⟩⟩
instance : TySl Tryd.prog 80 221 1 24 := ⟨Tryd.underlying80, info_s (z := .agg #[.slice none 0 0]) (by kernel_rfl) rfl, by decide⟩
-- 82: impl.ReceiveWindow
instance : TyN Tryd.prog 82 3 := ⟨info_n (by kernel_rfl)⟩
instance : TyAg Tryd.prog 82 3 := ⟨fun w => by kernel_rfl, info_n (by kernel_rfl)⟩
theorem Tryd.z82 : (Tryd.prog.info? 82).map (·.zero) = some (some (.agg #[.int .i64 0, .slice none 0 0, .slice none 0 0])) := by kernel_rfl
instance : TyZ Tryd.prog 82 [.d false (.i .i64 0), .nil, .nil] := ⟨by obtain ⟨i, h1, h2⟩ := info_z Tryd.z82; exact ⟨i, _, h1, h2, rfl⟩⟩
instance : TyE Tryd.prog 82 [.i .i64 0, .l [], .l []] := ⟨by obtain ⟨i, h1, h2⟩ := info_z Tryd.z82; exact ⟨i, _, h1, h2, rfl⟩⟩
instance : TyB Tryd.prog 82 [(0, 1), (1, 1), (2, 1)] := ⟨_, Tryd.underlying82, fun w => by kernel_rfl⟩
instance : TyF Tryd.prog 82 0 0 3 := ⟨_, _, Tryd.underlying82, rfl, rfl, rfl, info_f (n := 1) (by kernel_rfl) (by decide)⟩
instance : TyF Tryd.prog 82 1 1 79 := ⟨_, _, Tryd.underlying82, rfl, rfl, rfl, info_f (n := 1) (by kernel_rfl) (by decide)⟩
instance : TyF Tryd.prog 82 2 2 80 := ⟨_, _, Tryd.underlying82, rfl, rfl, rfl, info_f (n := 1) (by kernel_rfl) (by decide)⟩
-- 84: impl.Device
instance : TyN Tryd.prog 84 14 := ⟨info_n (by kernel_rfl)⟩
instance : TyAg Tryd.prog 84 14 := ⟨fun w => by kernel_rfl, info_n (by kernel_rfl)⟩
theorem Tryd.z84 : (Tryd.prog.info? 84).map (·.zero) = some (some (.agg #[.int .i64 0, .int .i64 0, .int .i64 0, .int .i64 0, .int .i64 0, .int .i64 0, .int .i64 0, .int .i64 0, .int .i64 0, .bool false, .int .i64 0, .int .i64 0, .slice none 0 0, .slice none 0 0])) := by kernel_rfl
instance : TyZ Tryd.prog 84 [.d false (.i .i64 0), .d false (.i .i64 0), .d false (.i .i64 0), .d false (.i .i64 0), .d false (.i .i64 0), .d false (.i .i64 0), .d false (.i .i64 0), .d false (.i .i64 0), .d false (.i .i64 0), .d false (.b false), .d false (.i .i64 0), .d false (.i .i64 0), .nil, .nil] := ⟨by obtain ⟨i, h1, h2⟩ := info_z Tryd.z84; exact ⟨i, _, h1, h2, rfl⟩⟩
instance : TyE Tryd.prog 84 [.i .i64 0, .i .i64 0, .i .i64 0, .i .i64 0, .i .i64 0, .i .i64 0, .i .i64 0, .i .i64 0, .i .i64 0, .b false, .i .i64 0, .i .i64 0, .l [], .l []] := ⟨by obtain ⟨i, h1, h2⟩ := info_z Tryd.z84; exact ⟨i, _, h1, h2, rfl⟩⟩
instance : TyB Tryd.prog 84 [(0, 4), (4, 1), (5, 1), (6, 1), (7, 1), (8, 1), (9, 1), (10, 1), (11, 3)] := ⟨_, Tryd.underlying84, fun w => by kernel_rfl⟩
instance : TyF Tryd.prog 84 0 0 78 := ⟨_, _, Tryd.underlying84, rfl, rfl, rfl, info_f (n := 4) (by kernel_rfl) (by decide)⟩
instance : TyF Tryd.prog 84 1 4 3 := ⟨_, _, Tryd.underlying84, rfl, rfl, rfl, info_f (n := 1) (by kernel_rfl) (by decide)⟩
instance : TyF Tryd.prog 84 2 5 3 := ⟨_, _, Tryd.underlying84, rfl, rfl, rfl, info_f (n := 1) (by kernel_rfl) (by decide)⟩
instance : TyF Tryd.prog 84 3 6 3 := ⟨_, _, Tryd.underlying84, rfl, rfl, rfl, info_f (n := 1) (by kernel_rfl) (by decide)⟩
instance : TyF Tryd.prog 84 4 7 3 := ⟨_, _, Tryd.underlying84, rfl, rfl, rfl, info_f (n := 1) (by kernel_rfl) (by decide)⟩
instance : TyF Tryd.prog 84 5 8 3 := ⟨_, _, Tryd.underlying84, rfl, rfl, rfl, info_f (n := 1) (by kernel_rfl) (by decide)⟩
instance : TyF Tryd.prog 84 6 9 4 := ⟨_, _, Tryd.underlying84, rfl, rfl, rfl, info_f (n := 1) (by kernel_rfl) (by decide)⟩
instance : TyF Tryd.prog 84 7 10 3 := ⟨_, _, Tryd.underlying84, rfl, rfl, rfl, info_f (n := 1) (by kernel_rfl) (by decide)⟩
instance : TyF Tryd.prog 84 8 11 82 := ⟨_, _, Tryd.underlying84, rfl, rfl, rfl, info_f (n := 3) (by kernel_rfl) (by decide)⟩
-- 89: []impl.OperatorBook
instance : TyN Tryd.prog 89 1 := ⟨info_n (by kernel_rfl)⟩
instance : TySc Tryd.prog 89 := ⟨fun w => by kernel_rfl, info_n (by kernel_rfl)⟩
theorem Tryd.z89 : (Tryd.prog.info? 89).map (·.zero) = some (some (.slice none 0 0)) := by kernel_rfl
instance : TyZ Tryd.prog 89 [.nil] := ⟨by obtain ⟨i, h1, h2⟩ := info_z Tryd.z89; exact ⟨i, _, h1, h2, rfl⟩⟩
instance : TyE Tryd.prog 89 [.l []] := ⟨by obtain ⟨i, h1, h2⟩ := info_z Tryd.z89; exact ⟨i, _, h1, h2, rfl⟩⟩
instance : TySl Tryd.prog 89 100 3 56 := ⟨Tryd.underlying89, info_s (z := .agg #[.int .i64 0, .slice none 0 0, .slice none 0 0]) (by kernel_rfl) rfl, by decide⟩
-- 90: []impl.RoamingAgreement
instance : TyN Tryd.prog 90 1 := ⟨info_n (by kernel_rfl)⟩
instance : TySc Tryd.prog 90 := ⟨fun w => by kernel_rfl, info_n (by kernel_rfl)⟩
theorem Tryd.z90 : (Tryd.prog.info? 90).map (·.zero) = some (some (.slice none 0 0)) := by kernel_rfl
instance : TyZ Tryd.prog 90 [.nil] := ⟨by obtain ⟨i, h1, h2⟩ := info_z Tryd.z90; exact ⟨i, _, h1, h2, rfl⟩⟩
instance : TyE Tryd.prog 90 [.l []] := ⟨by obtain ⟨i, h1, h2⟩ := info_z Tryd.z90; exact ⟨i, _, h1, h2, rfl⟩⟩
instance : TySl Tryd.prog 90 102 4 32 := ⟨Tryd.underlying90, info_s (z := .agg #[.int .i64 0, .int .i64 0, .int .i64 0, .int .i64 0]) (by kernel_rfl) rfl, by decide⟩
-- 96: impl.StatementLine
instance : TyN Tryd.prog 96 3 := ⟨info_n (by kernel_rfl)⟩
instance : TyAg Tryd.prog 96 3 := ⟨fun w => by kernel_rfl, info_n (by kernel_rfl)⟩
theorem Tryd.z96 : (Tryd.prog.info? 96).map (·.zero) = some (some (.agg #[.int .i64 0, .int .i64 0, .int .i64 0])) := by kernel_rfl
instance : TyZ Tryd.prog 96 [.d false (.i .i64 0), .d false (.i .i64 0), .d false (.i .i64 0)] := ⟨by obtain ⟨i, h1, h2⟩ := info_z Tryd.z96; exact ⟨i, _, h1, h2, rfl⟩⟩
instance : TyE Tryd.prog 96 [.i .i64 0, .i .i64 0, .i .i64 0] := ⟨by obtain ⟨i, h1, h2⟩ := info_z Tryd.z96; exact ⟨i, _, h1, h2, rfl⟩⟩
instance : TyB Tryd.prog 96 [(0, 1), (1, 1), (2, 1)] := ⟨_, Tryd.underlying96, fun w => by kernel_rfl⟩
instance : TyF Tryd.prog 96 0 0 3 := ⟨_, _, Tryd.underlying96, rfl, rfl, rfl, info_f (n := 1) (by kernel_rfl) (by decide)⟩
instance : TyF Tryd.prog 96 1 1 3 := ⟨_, _, Tryd.underlying96, rfl, rfl, rfl, info_f (n := 1) (by kernel_rfl) (by decide)⟩
instance : TyF Tryd.prog 96 2 2 3 := ⟨_, _, Tryd.underlying96, rfl, rfl, rfl, info_f (n := 1) (by kernel_rfl) (by decide)⟩
-- 98: []impl.UsageRecord
instance : TyN Tryd.prog 98 1 := ⟨info_n (by kernel_rfl)⟩
instance : TySc Tryd.prog 98 := ⟨fun w => by kernel_rfl, info_n (by kernel_rfl)⟩
theorem Tryd.z98 : (Tryd.prog.info? 98).map (·.zero) = some (some (.slice none 0 0)) := by kernel_rfl
instance : TyZ Tryd.prog 98 [.nil] := ⟨by obtain ⟨i, h1, h2⟩ := info_z Tryd.z98; exact ⟨i, _, h1, h2, rfl⟩⟩
instance : TyE Tryd.prog 98 [.l []] := ⟨by obtain ⟨i, h1, h2⟩ := info_z Tryd.z98; exact ⟨i, _, h1, h2, rfl⟩⟩
instance : TySl Tryd.prog 98 161 4 32 := ⟨Tryd.underlying98, info_s (z := .agg #[.int .i64 0, .int .i64 0, .int .i64 0, .int .i64 0]) (by kernel_rfl) rfl, by decide⟩
-- 100: impl.OperatorBook
instance : TyN Tryd.prog 100 3 := ⟨info_n (by kernel_rfl)⟩
instance : TyAg Tryd.prog 100 3 := ⟨fun w => by kernel_rfl, info_n (by kernel_rfl)⟩
theorem Tryd.z100 : (Tryd.prog.info? 100).map (·.zero) = some (some (.agg #[.int .i64 0, .slice none 0 0, .slice none 0 0])) := by kernel_rfl
instance : TyZ Tryd.prog 100 [.d false (.i .i64 0), .nil, .nil] := ⟨by obtain ⟨i, h1, h2⟩ := info_z Tryd.z100; exact ⟨i, _, h1, h2, rfl⟩⟩
instance : TyE Tryd.prog 100 [.i .i64 0, .l [], .l []] := ⟨by obtain ⟨i, h1, h2⟩ := info_z Tryd.z100; exact ⟨i, _, h1, h2, rfl⟩⟩
instance : TyB Tryd.prog 100 [(0, 1), (1, 1), (2, 1)] := ⟨_, Tryd.underlying100, fun w => by kernel_rfl⟩
instance : TyF Tryd.prog 100 0 0 3 := ⟨_, _, Tryd.underlying100, rfl, rfl, rfl, info_f (n := 1) (by kernel_rfl) (by decide)⟩
instance : TyF Tryd.prog 100 1 1 98 := ⟨_, _, Tryd.underlying100, rfl, rfl, rfl, info_f (n := 1) (by kernel_rfl) (by decide)⟩
instance : TyF Tryd.prog 100 2 2 98 := ⟨_, _, Tryd.underlying100, rfl, rfl, rfl, info_f (n := 1) (by kernel_rfl) (by decide)⟩
-- 102: impl.RoamingAgreement
instance : TyN Tryd.prog 102 4 := ⟨info_n (by kernel_rfl)⟩
instance : TyAg Tryd.prog 102 4 := ⟨fun w => by kernel_rfl, info_n (by kernel_rfl)⟩
theorem Tryd.z102 : (Tryd.prog.info? 102).map (·.zero) = some (some (.agg #[.int .i64 0, .int .i64 0, .int .i64 0, .int .i64 0])) := by kernel_rfl
instance : TyZ Tryd.prog 102 [.d false (.i .i64 0), .d false (.i .i64 0), .d false (.i .i64 0), .d false (.i .i64 0)] := ⟨by obtain ⟨i, h1, h2⟩ := info_z Tryd.z102; exact ⟨i, _, h1, h2, rfl⟩⟩
instance : TyE Tryd.prog 102 [.i .i64 0, .i .i64 0, .i .i64 0, .i .i64 0] := ⟨by obtain ⟨i, h1, h2⟩ := info_z Tryd.z102; exact ⟨i, _, h1, h2, rfl⟩⟩
instance : TyB Tryd.prog 102 [(0, 1), (1, 1), (2, 1), (3, 1)] := ⟨_, Tryd.underlying102, fun w => by kernel_rfl⟩
instance : TyF Tryd.prog 102 0 0 3 := ⟨_, _, Tryd.underlying102, rfl, rfl, rfl, info_f (n := 1) (by kernel_rfl) (by decide)⟩
instance : TyF Tryd.prog 102 1 1 3 := ⟨_, _, Tryd.underlying102, rfl, rfl, rfl, info_f (n := 1) (by kernel_rfl) (by decide)⟩
instance : TyF Tryd.prog 102 2 2 3 := ⟨_, _, Tryd.underlying102, rfl, rfl, rfl, info_f (n := 1) (by kernel_rfl) (by decide)⟩
instance : TyF Tryd.prog 102 3 3 3 := ⟨_, _, Tryd.underlying102, rfl, rfl, rfl, info_f (n := 1) (by kernel_rfl) (by decide)⟩
-- 105: laws.SubscriberRecord
instance : TyN Tryd.prog 105 4 := ⟨info_n (by kernel_rfl)⟩
instance : TyAg Tryd.prog 105 4 := ⟨fun w => by kernel_rfl, info_n (by kernel_rfl)⟩
theorem Tryd.z105 : (Tryd.prog.info? 105).map (·.zero) = some (some (.agg #[.int .i64 0, .int .i64 0, .int .i64 0, .int .i64 0])) := by kernel_rfl
instance : TyZ Tryd.prog 105 [.d false (.i .i64 0), .d false (.i .i64 0), .d false (.i .i64 0), .d false (.i .i64 0)] := ⟨by obtain ⟨i, h1, h2⟩ := info_z Tryd.z105; exact ⟨i, _, h1, h2, rfl⟩⟩
instance : TyE Tryd.prog 105 [.i .i64 0, .i .i64 0, .i .i64 0, .i .i64 0] := ⟨by obtain ⟨i, h1, h2⟩ := info_z Tryd.z105; exact ⟨i, _, h1, h2, rfl⟩⟩
instance : TyB Tryd.prog 105 [(0, 2), (2, 1), (3, 1)] := ⟨_, Tryd.underlying105, fun w => by kernel_rfl⟩
instance : TyF Tryd.prog 105 0 0 65 := ⟨_, _, Tryd.underlying105, rfl, rfl, rfl, info_f (n := 2) (by kernel_rfl) (by decide)⟩
instance : TyF Tryd.prog 105 1 2 3 := ⟨_, _, Tryd.underlying105, rfl, rfl, rfl, info_f (n := 1) (by kernel_rfl) (by decide)⟩
instance : TyF Tryd.prog 105 2 3 3 := ⟨_, _, Tryd.underlying105, rfl, rfl, rfl, info_f (n := 1) (by kernel_rfl) (by decide)⟩
-- 106: []int
instance : TyN Tryd.prog 106 1 := ⟨info_n (by kernel_rfl)⟩
instance : TySc Tryd.prog 106 := ⟨fun w => by kernel_rfl, info_n (by kernel_rfl)⟩
theorem Tryd.z106 : (Tryd.prog.info? 106).map (·.zero) = some (some (.slice none 0 0)) := by kernel_rfl
instance : TyZ Tryd.prog 106 [.nil] := ⟨by obtain ⟨i, h1, h2⟩ := info_z Tryd.z106; exact ⟨i, _, h1, h2, rfl⟩⟩
instance : TyE Tryd.prog 106 [.l []] := ⟨by obtain ⟨i, h1, h2⟩ := info_z Tryd.z106; exact ⟨i, _, h1, h2, rfl⟩⟩
instance : TySl Tryd.prog 106 3 1 8 := ⟨Tryd.underlying106, info_s (z := .int .i64 0) (by kernel_rfl) rfl, by decide⟩
-- 108: laws.Subscription
instance : TyN Tryd.prog 108 4 := ⟨info_n (by kernel_rfl)⟩
instance : TyAg Tryd.prog 108 4 := ⟨fun w => by kernel_rfl, info_n (by kernel_rfl)⟩
theorem Tryd.z108 : (Tryd.prog.info? 108).map (·.zero) = some (some (.agg #[.int .i64 0, .int .i64 0, .int .i64 0, .slice none 0 0])) := by kernel_rfl
instance : TyZ Tryd.prog 108 [.d false (.i .i64 0), .d false (.i .i64 0), .d false (.i .i64 0), .nil] := ⟨by obtain ⟨i, h1, h2⟩ := info_z Tryd.z108; exact ⟨i, _, h1, h2, rfl⟩⟩
instance : TyE Tryd.prog 108 [.i .i64 0, .i .i64 0, .i .i64 0, .l []] := ⟨by obtain ⟨i, h1, h2⟩ := info_z Tryd.z108; exact ⟨i, _, h1, h2, rfl⟩⟩
instance : TyB Tryd.prog 108 [(0, 1), (1, 1), (2, 1), (3, 1)] := ⟨_, Tryd.underlying108, fun w => by kernel_rfl⟩
instance : TyF Tryd.prog 108 0 0 3 := ⟨_, _, Tryd.underlying108, rfl, rfl, rfl, info_f (n := 1) (by kernel_rfl) (by decide)⟩
instance : TyF Tryd.prog 108 1 1 3 := ⟨_, _, Tryd.underlying108, rfl, rfl, rfl, info_f (n := 1) (by kernel_rfl) (by decide)⟩
instance : TyF Tryd.prog 108 2 2 3 := ⟨_, _, Tryd.underlying108, rfl, rfl, rfl, info_f (n := 1) (by kernel_rfl) (by decide)⟩
instance : TyF Tryd.prog 108 3 3 106 := ⟨_, _, Tryd.underlying108, rfl, rfl, rfl, info_f (n := 1) (by kernel_rfl) (by decide)⟩
-- 110: laws.PagingState
instance : TyN Tryd.prog 110 3 := ⟨info_n (by kernel_rfl)⟩
instance : TyAg Tryd.prog 110 3 := ⟨fun w => by kernel_rfl, info_n (by kernel_rfl)⟩
theorem Tryd.z110 : (Tryd.prog.info? 110).map (·.zero) = some (some (.agg #[.int .i64 0, .int .i64 0, .int .i64 0])) := by kernel_rfl
instance : TyZ Tryd.prog 110 [.d false (.i .i64 0), .d false (.i .i64 0), .d false (.i .i64 0)] := ⟨by obtain ⟨i, h1, h2⟩ := info_z Tryd.z110; exact ⟨i, _, h1, h2, rfl⟩⟩
instance : TyE Tryd.prog 110 [.i .i64 0, .i .i64 0, .i .i64 0] := ⟨by obtain ⟨i, h1, h2⟩ := info_z Tryd.z110; exact ⟨i, _, h1, h2, rfl⟩⟩
instance : TyB Tryd.prog 110 [(0, 1), (1, 1), (2, 1)] := ⟨_, Tryd.underlying110, fun w => by kernel_rfl⟩
instance : TyF Tryd.prog 110 0 0 3 := ⟨_, _, Tryd.underlying110, rfl, rfl, rfl, info_f (n := 1) (by kernel_rfl) (by decide)⟩
instance : TyF Tryd.prog 110 1 1 3 := ⟨_, _, Tryd.underlying110, rfl, rfl, rfl, info_f (n := 1) (by kernel_rfl) (by decide)⟩
instance : TyF Tryd.prog 110 2 2 3 := ⟨_, _, Tryd.underlying110, rfl, rfl, rfl, info_f (n := 1) (by kernel_rfl) (by decide)⟩
-- 112: laws.SendWindow
instance : TyN Tryd.prog 112 2 := ⟨info_n (by kernel_rfl)⟩
instance : TyAg Tryd.prog 112 2 := ⟨fun w => by kernel_rfl, info_n (by kernel_rfl)⟩
theorem Tryd.z112 : (Tryd.prog.info? 112).map (·.zero) = some (some (.agg #[.int .i64 0, .slice none 0 0])) := by kernel_rfl
instance : TyZ Tryd.prog 112 [.d false (.i .i64 0), .nil] := ⟨by obtain ⟨i, h1, h2⟩ := info_z Tryd.z112; exact ⟨i, _, h1, h2, rfl⟩⟩
instance : TyE Tryd.prog 112 [.i .i64 0, .l []] := ⟨by obtain ⟨i, h1, h2⟩ := info_z Tryd.z112; exact ⟨i, _, h1, h2, rfl⟩⟩
instance : TyB Tryd.prog 112 [(0, 1), (1, 1)] := ⟨_, Tryd.underlying112, fun w => by kernel_rfl⟩
instance : TyF Tryd.prog 112 0 0 3 := ⟨_, _, Tryd.underlying112, rfl, rfl, rfl, info_f (n := 1) (by kernel_rfl) (by decide)⟩
instance : TyF Tryd.prog 112 1 1 68 := ⟨_, _, Tryd.underlying112, rfl, rfl, rfl, info_f (n := 1) (by kernel_rfl) (by decide)⟩
-- 114: laws.Quota
instance : TyN Tryd.prog 114 3 := ⟨info_n (by kernel_rfl)⟩
instance : TyAg Tryd.prog 114 3 := ⟨fun w => by kernel_rfl, info_n (by kernel_rfl)⟩
theorem Tryd.z114 : (Tryd.prog.info? 114).map (·.zero) = some (some (.agg #[.int .i64 0, .int .i64 0, .int .i64 0])) := by kernel_rfl
instance : TyZ Tryd.prog 114 [.d false (.i .i64 0), .d false (.i .i64 0), .d false (.i .i64 0)] := ⟨by obtain ⟨i, h1, h2⟩ := info_z Tryd.z114; exact ⟨i, _, h1, h2, rfl⟩⟩
instance : TyE Tryd.prog 114 [.i .i64 0, .i .i64 0, .i .i64 0] := ⟨by obtain ⟨i, h1, h2⟩ := info_z Tryd.z114; exact ⟨i, _, h1, h2, rfl⟩⟩
instance : TyB Tryd.prog 114 [(0, 1), (1, 1), (2, 1)] := ⟨_, Tryd.underlying114, fun w => by kernel_rfl⟩
instance : TyF Tryd.prog 114 0 0 3 := ⟨_, _, Tryd.underlying114, rfl, rfl, rfl, info_f (n := 1) (by kernel_rfl) (by decide)⟩
instance : TyF Tryd.prog 114 1 1 3 := ⟨_, _, Tryd.underlying114, rfl, rfl, rfl, info_f (n := 1) (by kernel_rfl) (by decide)⟩
instance : TyF Tryd.prog 114 2 2 3 := ⟨_, _, Tryd.underlying114, rfl, rfl, rfl, info_f (n := 1) (by kernel_rfl) (by decide)⟩
-- 116: laws.Session
instance : TyN Tryd.prog 116 30 := ⟨info_n (by kernel_rfl)⟩
instance : TyAg Tryd.prog 116 30 := ⟨fun w => by kernel_rfl, info_n (by kernel_rfl)⟩
theorem Tryd.z116 : (Tryd.prog.info? 116).map (·.zero) = some (some (.agg #[.int .i64 0, .int .i64 0, .int .i64 0, .int .i64 0, .int .i64 0, .int .i64 0, .int .i64 0, .slice none 0 0, .int .i64 0, .int .i64 0, .int .i64 0, .int .i64 0, .int .i64 0, .int .i64 0, .int .i64 0, .int .i64 0, .int .i64 0, .int .i64 0, .int .i64 0, .int .i64 0, .int .i64 0, .int .i64 0, .int .i64 0, .slice none 0 0, .int .i64 0, .slice none 0 0, .int .i64 0, .int .i64 0, .int .i64 0, .int .i64 0])) := by kernel_rfl
instance : TyZ Tryd.prog 116 [.d false (.i .i64 0), .d false (.i .i64 0), .d false (.i .i64 0), .d false (.i .i64 0), .d false (.i .i64 0), .d false (.i .i64 0), .d false (.i .i64 0), .nil, .d false (.i .i64 0), .d false (.i .i64 0), .d false (.i .i64 0), .d false (.i .i64 0), .d false (.i .i64 0), .d false (.i .i64 0), .d false (.i .i64 0), .d false (.i .i64 0), .d false (.i .i64 0), .d false (.i .i64 0), .d false (.i .i64 0), .d false (.i .i64 0), .d false (.i .i64 0), .d false (.i .i64 0), .d false (.i .i64 0), .nil, .d false (.i .i64 0), .nil, .d false (.i .i64 0), .d false (.i .i64 0), .d false (.i .i64 0), .d false (.i .i64 0)] := ⟨by obtain ⟨i, h1, h2⟩ := info_z Tryd.z116; exact ⟨i, _, h1, h2, rfl⟩⟩
instance : TyE Tryd.prog 116 [.i .i64 0, .i .i64 0, .i .i64 0, .i .i64 0, .i .i64 0, .i .i64 0, .i .i64 0, .l [], .i .i64 0, .i .i64 0, .i .i64 0, .i .i64 0, .i .i64 0, .i .i64 0, .i .i64 0, .i .i64 0, .i .i64 0, .i .i64 0, .i .i64 0, .i .i64 0, .i .i64 0, .i .i64 0, .i .i64 0, .l [], .i .i64 0, .l [], .i .i64 0, .i .i64 0, .i .i64 0, .i .i64 0] := ⟨by obtain ⟨i, h1, h2⟩ := info_z Tryd.z116; exact ⟨i, _, h1, h2, rfl⟩⟩
instance : TyB Tryd.prog 116 [(0, 4), (4, 4), (8, 1), (9, 5), (14, 1), (15, 1), (16, 1), (17, 1), (18, 1), (19, 1), (20, 3), (23, 1), (24, 2), (26, 1), (27, 3)] := ⟨_, Tryd.underlying116, fun w => by kernel_rfl⟩
instance : TyF Tryd.prog 116 0 0 105 := ⟨_, _, Tryd.underlying116, rfl, rfl, rfl, info_f (n := 4) (by kernel_rfl) (by decide)⟩
instance : TyF Tryd.prog 116 1 4 108 := ⟨_, _, Tryd.underlying116, rfl, rfl, rfl, info_f (n := 4) (by kernel_rfl) (by decide)⟩
instance : TyF Tryd.prog 116 2 8 3 := ⟨_, _, Tryd.underlying116, rfl, rfl, rfl, info_f (n := 1) (by kernel_rfl) (by decide)⟩
instance : TyF Tryd.prog 116 3 9 41 := ⟨_, _, Tryd.underlying116, rfl, rfl, rfl, info_f (n := 5) (by kernel_rfl) (by decide)⟩
instance : TyF Tryd.prog 116 4 14 3 := ⟨_, _, Tryd.underlying116, rfl, rfl, rfl, info_f (n := 1) (by kernel_rfl) (by decide)⟩
instance : TyF Tryd.prog 116 5 15 3 := ⟨_, _, Tryd.underlying116, rfl, rfl, rfl, info_f (n := 1) (by kernel_rfl) (by decide)⟩
instance : TyF Tryd.prog 116 6 16 3 := ⟨_, _, Tryd.underlying116, rfl, rfl, rfl, info_f (n := 1) (by kernel_rfl) (by decide)⟩
instance : TyF Tryd.prog 116 7 17 3 := ⟨_, _, Tryd.underlying116, rfl, rfl, rfl, info_f (n := 1) (by kernel_rfl) (by decide)⟩
instance : TyF Tryd.prog 116 8 18 3 := ⟨_, _, Tryd.underlying116, rfl, rfl, rfl, info_f (n := 1) (by kernel_rfl) (by decide)⟩
instance : TyF Tryd.prog 116 9 19 3 := ⟨_, _, Tryd.underlying116, rfl, rfl, rfl, info_f (n := 1) (by kernel_rfl) (by decide)⟩
instance : TyF Tryd.prog 116 10 20 110 := ⟨_, _, Tryd.underlying116, rfl, rfl, rfl, info_f (n := 3) (by kernel_rfl) (by decide)⟩
instance : TyF Tryd.prog 116 11 23 69 := ⟨_, _, Tryd.underlying116, rfl, rfl, rfl, info_f (n := 1) (by kernel_rfl) (by decide)⟩
instance : TyF Tryd.prog 116 12 24 112 := ⟨_, _, Tryd.underlying116, rfl, rfl, rfl, info_f (n := 2) (by kernel_rfl) (by decide)⟩
instance : TyF Tryd.prog 116 13 26 3 := ⟨_, _, Tryd.underlying116, rfl, rfl, rfl, info_f (n := 1) (by kernel_rfl) (by decide)⟩
instance : TyF Tryd.prog 116 14 27 114 := ⟨_, _, Tryd.underlying116, rfl, rfl, rfl, info_f (n := 3) (by kernel_rfl) (by decide)⟩
-- 120: impl.SubscriberRecord
instance : TyN Tryd.prog 120 4 := ⟨info_n (by kernel_rfl)⟩
instance : TyAg Tryd.prog 120 4 := ⟨fun w => by kernel_rfl, info_n (by kernel_rfl)⟩
theorem Tryd.z120 : (Tryd.prog.info? 120).map (·.zero) = some (some (.agg #[.int .i64 0, .int .i64 0, .int .i64 0, .int .i64 0])) := by kernel_rfl
instance : TyZ Tryd.prog 120 [.d false (.i .i64 0), .d false (.i .i64 0), .d false (.i .i64 0), .d false (.i .i64 0)] := ⟨by obtain ⟨i, h1, h2⟩ := info_z Tryd.z120; exact ⟨i, _, h1, h2, rfl⟩⟩
instance : TyE Tryd.prog 120 [.i .i64 0, .i .i64 0, .i .i64 0, .i .i64 0] := ⟨by obtain ⟨i, h1, h2⟩ := info_z Tryd.z120; exact ⟨i, _, h1, h2, rfl⟩⟩
instance : TyB Tryd.prog 120 [(0, 2), (2, 1), (3, 1)] := ⟨_, Tryd.underlying120, fun w => by kernel_rfl⟩
instance : TyF Tryd.prog 120 0 0 76 := ⟨_, _, Tryd.underlying120, rfl, rfl, rfl, info_f (n := 2) (by kernel_rfl) (by decide)⟩
instance : TyF Tryd.prog 120 1 2 3 := ⟨_, _, Tryd.underlying120, rfl, rfl, rfl, info_f (n := 1) (by kernel_rfl) (by decide)⟩
instance : TyF Tryd.prog 120 2 3 3 := ⟨_, _, Tryd.underlying120, rfl, rfl, rfl, info_f (n := 1) (by kernel_rfl) (by decide)⟩
-- 121: impl.Subscription
instance : TyN Tryd.prog 121 4 := ⟨info_n (by kernel_rfl)⟩
instance : TyAg Tryd.prog 121 4 := ⟨fun w => by kernel_rfl, info_n (by kernel_rfl)⟩
theorem Tryd.z121 : (Tryd.prog.info? 121).map (·.zero) = some (some (.agg #[.int .i64 0, .int .i64 0, .int .i64 0, .slice none 0 0])) := by kernel_rfl
instance : TyZ Tryd.prog 121 [.d false (.i .i64 0), .d false (.i .i64 0), .d false (.i .i64 0), .nil] := ⟨by obtain ⟨i, h1, h2⟩ := info_z Tryd.z121; exact ⟨i, _, h1, h2, rfl⟩⟩
instance : TyE Tryd.prog 121 [.i .i64 0, .i .i64 0, .i .i64 0, .l []] := ⟨by obtain ⟨i, h1, h2⟩ := info_z Tryd.z121; exact ⟨i, _, h1, h2, rfl⟩⟩
instance : TyB Tryd.prog 121 [(0, 1), (1, 1), (2, 1), (3, 1)] := ⟨_, Tryd.underlying121, fun w => by kernel_rfl⟩
instance : TyF Tryd.prog 121 0 0 3 := ⟨_, _, Tryd.underlying121, rfl, rfl, rfl, info_f (n := 1) (by kernel_rfl) (by decide)⟩
instance : TyF Tryd.prog 121 1 1 3 := ⟨_, _, Tryd.underlying121, rfl, rfl, rfl, info_f (n := 1) (by kernel_rfl) (by decide)⟩
instance : TyF Tryd.prog 121 2 2 3 := ⟨_, _, Tryd.underlying121, rfl, rfl, rfl, info_f (n := 1) (by kernel_rfl) (by decide)⟩
instance : TyF Tryd.prog 121 3 3 106 := ⟨_, _, Tryd.underlying121, rfl, rfl, rfl, info_f (n := 1) (by kernel_rfl) (by decide)⟩
-- 122: impl.PagingState
instance : TyN Tryd.prog 122 3 := ⟨info_n (by kernel_rfl)⟩
instance : TyAg Tryd.prog 122 3 := ⟨fun w => by kernel_rfl, info_n (by kernel_rfl)⟩
theorem Tryd.z122 : (Tryd.prog.info? 122).map (·.zero) = some (some (.agg #[.int .i64 0, .int .i64 0, .int .i64 0])) := by kernel_rfl
instance : TyZ Tryd.prog 122 [.d false (.i .i64 0), .d false (.i .i64 0), .d false (.i .i64 0)] := ⟨by obtain ⟨i, h1, h2⟩ := info_z Tryd.z122; exact ⟨i, _, h1, h2, rfl⟩⟩
instance : TyE Tryd.prog 122 [.i .i64 0, .i .i64 0, .i .i64 0] := ⟨by obtain ⟨i, h1, h2⟩ := info_z Tryd.z122; exact ⟨i, _, h1, h2, rfl⟩⟩
instance : TyB Tryd.prog 122 [(0, 1), (1, 1), (2, 1)] := ⟨_, Tryd.underlying122, fun w => by kernel_rfl⟩
instance : TyF Tryd.prog 122 0 0 3 := ⟨_, _, Tryd.underlying122, rfl, rfl, rfl, info_f (n := 1) (by kernel_rfl) (by decide)⟩
instance : TyF Tryd.prog 122 1 1 3 := ⟨_, _, Tryd.underlying122, rfl, rfl, rfl, info_f (n := 1) (by kernel_rfl) (by decide)⟩
instance : TyF Tryd.prog 122 2 2 3 := ⟨_, _, Tryd.underlying122, rfl, rfl, rfl, info_f (n := 1) (by kernel_rfl) (by decide)⟩
-- 124: impl.SendWindow
instance : TyN Tryd.prog 124 2 := ⟨info_n (by kernel_rfl)⟩
instance : TyAg Tryd.prog 124 2 := ⟨fun w => by kernel_rfl, info_n (by kernel_rfl)⟩
theorem Tryd.z124 : (Tryd.prog.info? 124).map (·.zero) = some (some (.agg #[.int .i64 0, .slice none 0 0])) := by kernel_rfl
instance : TyZ Tryd.prog 124 [.d false (.i .i64 0), .nil] := ⟨by obtain ⟨i, h1, h2⟩ := info_z Tryd.z124; exact ⟨i, _, h1, h2, rfl⟩⟩
instance : TyE Tryd.prog 124 [.i .i64 0, .l []] := ⟨by obtain ⟨i, h1, h2⟩ := info_z Tryd.z124; exact ⟨i, _, h1, h2, rfl⟩⟩
instance : TyB Tryd.prog 124 [(0, 1), (1, 1)] := ⟨_, Tryd.underlying124, fun w => by kernel_rfl⟩
instance : TyF Tryd.prog 124 0 0 3 := ⟨_, _, Tryd.underlying124, rfl, rfl, rfl, info_f (n := 1) (by kernel_rfl) (by decide)⟩
instance : TyF Tryd.prog 124 1 1 79 := ⟨_, _, Tryd.underlying124, rfl, rfl, rfl, info_f (n := 1) (by kernel_rfl) (by decide)⟩
-- 125: impl.Quota
instance : TyN Tryd.prog 125 3 := ⟨info_n (by kernel_rfl)⟩
instance : TyAg Tryd.prog 125 3 := ⟨fun w => by kernel_rfl, info_n (by kernel_rfl)⟩
theorem Tryd.z125 : (Tryd.prog.info? 125).map (·.zero) = some (some (.agg #[.int .i64 0, .int .i64 0, .int .i64 0])) := by kernel_rfl
instance : TyZ Tryd.prog 125 [.d false (.i .i64 0), .d false (.i .i64 0), .d false (.i .i64 0)] := ⟨by obtain ⟨i, h1, h2⟩ := info_z Tryd.z125; exact ⟨i, _, h1, h2, rfl⟩⟩
instance : TyE Tryd.prog 125 [.i .i64 0, .i .i64 0, .i .i64 0] := ⟨by obtain ⟨i, h1, h2⟩ := info_z Tryd.z125; exact ⟨i, _, h1, h2, rfl⟩⟩
instance : TyB Tryd.prog 125 [(0, 1), (1, 1), (2, 1)] := ⟨_, Tryd.underlying125, fun w => by kernel_rfl⟩
instance : TyF Tryd.prog 125 0 0 3 := ⟨_, _, Tryd.underlying125, rfl, rfl, rfl, info_f (n := 1) (by kernel_rfl) (by decide)⟩
instance : TyF Tryd.prog 125 1 1 3 := ⟨_, _, Tryd.underlying125, rfl, rfl, rfl, info_f (n := 1) (by kernel_rfl) (by decide)⟩
instance : TyF Tryd.prog 125 2 2 3 := ⟨_, _, Tryd.underlying125, rfl, rfl, rfl, info_f (n := 1) (by kernel_rfl) (by decide)⟩
-- 127: impl.Session
instance : TyN Tryd.prog 127 30 := ⟨info_n (by kernel_rfl)⟩
instance : TyAg Tryd.prog 127 30 := ⟨fun w => by kernel_rfl, info_n (by kernel_rfl)⟩
theorem Tryd.z127 : (Tryd.prog.info? 127).map (·.zero) = some (some (.agg #[.int .i64 0, .int .i64 0, .int .i64 0, .int .i64 0, .int .i64 0, .int .i64 0, .int .i64 0, .slice none 0 0, .int .i64 0, .int .i64 0, .int .i64 0, .int .i64 0, .int .i64 0, .int .i64 0, .int .i64 0, .int .i64 0, .int .i64 0, .int .i64 0, .int .i64 0, .int .i64 0, .int .i64 0, .int .i64 0, .int .i64 0, .slice none 0 0, .int .i64 0, .slice none 0 0, .int .i64 0, .int .i64 0, .int .i64 0, .int .i64 0])) := by kernel_rfl
instance : TyZ Tryd.prog 127 [.d false (.i .i64 0), .d false (.i .i64 0), .d false (.i .i64 0), .d false (.i .i64 0), .d false (.i .i64 0), .d false (.i .i64 0), .d false (.i .i64 0), .nil, .d false (.i .i64 0), .d false (.i .i64 0), .d false (.i .i64 0), .d false (.i .i64 0), .d false (.i .i64 0), .d false (.i .i64 0), .d false (.i .i64 0), .d false (.i .i64 0), .d false (.i .i64 0), .d false (.i .i64 0), .d false (.i .i64 0), .d false (.i .i64 0), .d false (.i .i64 0), .d false (.i .i64 0), .d false (.i .i64 0), .nil, .d false (.i .i64 0), .nil, .d false (.i .i64 0), .d false (.i .i64 0), .d false (.i .i64 0), .d false (.i .i64 0)] := ⟨by obtain ⟨i, h1, h2⟩ := info_z Tryd.z127; exact ⟨i, _, h1, h2, rfl⟩⟩
instance : TyE Tryd.prog 127 [.i .i64 0, .i .i64 0, .i .i64 0, .i .i64 0, .i .i64 0, .i .i64 0, .i .i64 0, .l [], .i .i64 0, .i .i64 0, .i .i64 0, .i .i64 0, .i .i64 0, .i .i64 0, .i .i64 0, .i .i64 0, .i .i64 0, .i .i64 0, .i .i64 0, .i .i64 0, .i .i64 0, .i .i64 0, .i .i64 0, .l [], .i .i64 0, .l [], .i .i64 0, .i .i64 0, .i .i64 0, .i .i64 0] := ⟨by obtain ⟨i, h1, h2⟩ := info_z Tryd.z127; exact ⟨i, _, h1, h2, rfl⟩⟩
instance : TyB Tryd.prog 127 [(0, 4), (4, 4), (8, 1), (9, 5), (14, 1), (15, 1), (16, 1), (17, 1), (18, 1), (19, 1), (20, 3), (23, 1), (24, 2), (26, 1), (27, 3)] := ⟨_, Tryd.underlying127, fun w => by kernel_rfl⟩
instance : TyF Tryd.prog 127 0 0 120 := ⟨_, _, Tryd.underlying127, rfl, rfl, rfl, info_f (n := 4) (by kernel_rfl) (by decide)⟩
instance : TyF Tryd.prog 127 1 4 121 := ⟨_, _, Tryd.underlying127, rfl, rfl, rfl, info_f (n := 4) (by kernel_rfl) (by decide)⟩
instance : TyF Tryd.prog 127 2 8 3 := ⟨_, _, Tryd.underlying127, rfl, rfl, rfl, info_f (n := 1) (by kernel_rfl) (by decide)⟩
instance : TyF Tryd.prog 127 3 9 53 := ⟨_, _, Tryd.underlying127, rfl, rfl, rfl, info_f (n := 5) (by kernel_rfl) (by decide)⟩
instance : TyF Tryd.prog 127 4 14 3 := ⟨_, _, Tryd.underlying127, rfl, rfl, rfl, info_f (n := 1) (by kernel_rfl) (by decide)⟩
instance : TyF Tryd.prog 127 5 15 3 := ⟨_, _, Tryd.underlying127, rfl, rfl, rfl, info_f (n := 1) (by kernel_rfl) (by decide)⟩
instance : TyF Tryd.prog 127 6 16 3 := ⟨_, _, Tryd.underlying127, rfl, rfl, rfl, info_f (n := 1) (by kernel_rfl) (by decide)⟩
instance : TyF Tryd.prog 127 7 17 3 := ⟨_, _, Tryd.underlying127, rfl, rfl, rfl, info_f (n := 1) (by kernel_rfl) (by decide)⟩
instance : TyF Tryd.prog 127 8 18 3 := ⟨_, _, Tryd.underlying127, rfl, rfl, rfl, info_f (n := 1) (by kernel_rfl) (by decide)⟩
instance : TyF Tryd.prog 127 9 19 3 := ⟨_, _, Tryd.underlying127, rfl, rfl, rfl, info_f (n := 1) (by kernel_rfl) (by decide)⟩
instance : TyF Tryd.prog 127 10 20 122 := ⟨_, _, Tryd.underlying127, rfl, rfl, rfl, info_f (n := 3) (by kernel_rfl) (by decide)⟩
instance : TyF Tryd.prog 127 11 23 80 := ⟨_, _, Tryd.underlying127, rfl, rfl, rfl, info_f (n := 1) (by kernel_rfl) (by decide)⟩
instance : TyF Tryd.prog 127 12 24 124 := ⟨_, _, Tryd.underlying127, rfl, rfl, rfl, info_f (n := 2) (by kernel_rfl) (by decide)⟩
instance : TyF Tryd.prog 127 13 26 3 := ⟨_, _, Tryd.underlying127, rfl, rfl, rfl, info_f (n := 1) (by kernel_rfl) (by decide)⟩
instance : TyF Tryd.prog 127 14 27 125 := ⟨_, _, Tryd.underlying127, rfl, rfl, rfl, info_f (n := 3) (by kernel_rfl) (by decide)⟩
-- 133: laws.StatementLine
instance : TyN Tryd.prog 133 3 := ⟨info_n (by kernel_rfl)⟩
instance : TyAg Tryd.prog 133 3 := ⟨fun w => by kernel_rfl, info_n (by kernel_rfl)⟩
theorem Tryd.z133 : (Tryd.prog.info? 133).map (·.zero) = some (some (.agg #[.int .i64 0, .int .i64 0, .int .i64 0])) := by kernel_rfl
instance : TyZ Tryd.prog 133 [.d false (.i .i64 0), .d false (.i .i64 0), .d false (.i .i64 0)] := ⟨by obtain ⟨i, h1, h2⟩ := info_z Tryd.z133; exact ⟨i, _, h1, h2, rfl⟩⟩
instance : TyE Tryd.prog 133 [.i .i64 0, .i .i64 0, .i .i64 0] := ⟨by obtain ⟨i, h1, h2⟩ := info_z Tryd.z133; exact ⟨i, _, h1, h2, rfl⟩⟩
instance : TyB Tryd.prog 133 [(0, 1), (1, 1), (2, 1)] := ⟨_, Tryd.underlying133, fun w => by kernel_rfl⟩
instance : TyF Tryd.prog 133 0 0 3 := ⟨_, _, Tryd.underlying133, rfl, rfl, rfl, info_f (n := 1) (by kernel_rfl) (by decide)⟩
instance : TyF Tryd.prog 133 1 1 3 := ⟨_, _, Tryd.underlying133, rfl, rfl, rfl, info_f (n := 1) (by kernel_rfl) (by decide)⟩
instance : TyF Tryd.prog 133 2 2 3 := ⟨_, _, Tryd.underlying133, rfl, rfl, rfl, info_f (n := 1) (by kernel_rfl) (by decide)⟩
-- 134: []string
instance : TyN Tryd.prog 134 1 := ⟨info_n (by kernel_rfl)⟩
instance : TySc Tryd.prog 134 := ⟨fun w => by kernel_rfl, info_n (by kernel_rfl)⟩
theorem Tryd.z134 : (Tryd.prog.info? 134).map (·.zero) = some (some (.slice none 0 0)) := by kernel_rfl
instance : TyZ Tryd.prog 134 [.nil] := ⟨by obtain ⟨i, h1, h2⟩ := info_z Tryd.z134; exact ⟨i, _, h1, h2, rfl⟩⟩
instance : TyE Tryd.prog 134 [.l []] := ⟨by obtain ⟨i, h1, h2⟩ := info_z Tryd.z134; exact ⟨i, _, h1, h2, rfl⟩⟩
instance : TySl Tryd.prog 134 9 1 16 := ⟨Tryd.underlying134, info_s (z := .string ⟨#[]⟩) (by kernel_rfl) rfl, by decide⟩
-- 161: impl.UsageRecord
instance : TyN Tryd.prog 161 4 := ⟨info_n (by kernel_rfl)⟩
instance : TyAg Tryd.prog 161 4 := ⟨fun w => by kernel_rfl, info_n (by kernel_rfl)⟩
theorem Tryd.z161 : (Tryd.prog.info? 161).map (·.zero) = some (some (.agg #[.int .i64 0, .int .i64 0, .int .i64 0, .int .i64 0])) := by kernel_rfl
instance : TyZ Tryd.prog 161 [.d false (.i .i64 0), .d false (.i .i64 0), .d false (.i .i64 0), .d false (.i .i64 0)] := ⟨by obtain ⟨i, h1, h2⟩ := info_z Tryd.z161; exact ⟨i, _, h1, h2, rfl⟩⟩
instance : TyE Tryd.prog 161 [.i .i64 0, .i .i64 0, .i .i64 0, .i .i64 0] := ⟨by obtain ⟨i, h1, h2⟩ := info_z Tryd.z161; exact ⟨i, _, h1, h2, rfl⟩⟩
instance : TyB Tryd.prog 161 [(0, 1), (1, 1), (2, 1), (3, 1)] := ⟨_, Tryd.underlying161, fun w => by kernel_rfl⟩
instance : TyF Tryd.prog 161 0 0 3 := ⟨_, _, Tryd.underlying161, rfl, rfl, rfl, info_f (n := 1) (by kernel_rfl) (by decide)⟩
instance : TyF Tryd.prog 161 1 1 3 := ⟨_, _, Tryd.underlying161, rfl, rfl, rfl, info_f (n := 1) (by kernel_rfl) (by decide)⟩
instance : TyF Tryd.prog 161 2 2 3 := ⟨_, _, Tryd.underlying161, rfl, rfl, rfl, info_f (n := 1) (by kernel_rfl) (by decide)⟩
instance : TyF Tryd.prog 161 3 3 3 := ⟨_, _, Tryd.underlying161, rfl, rfl, rfl, info_f (n := 1) (by kernel_rfl) (by decide)⟩
-- 193: impl.Reservation
instance : TyN Tryd.prog 193 2 := ⟨info_n (by kernel_rfl)⟩
instance : TyAg Tryd.prog 193 2 := ⟨fun w => by kernel_rfl, info_n (by kernel_rfl)⟩
theorem Tryd.z193 : (Tryd.prog.info? 193).map (·.zero) = some (some (.agg #[.int .i64 0, .int .i64 0])) := by kernel_rfl
instance : TyZ Tryd.prog 193 [.d false (.i .i64 0), .d false (.i .i64 0)] := ⟨by obtain ⟨i, h1, h2⟩ := info_z Tryd.z193; exact ⟨i, _, h1, h2, rfl⟩⟩
instance : TyE Tryd.prog 193 [.i .i64 0, .i .i64 0] := ⟨by obtain ⟨i, h1, h2⟩ := info_z Tryd.z193; exact ⟨i, _, h1, h2, rfl⟩⟩
instance : TyB Tryd.prog 193 [(0, 1), (1, 1)] := ⟨_, Tryd.underlying193, fun w => by kernel_rfl⟩
instance : TyF Tryd.prog 193 0 0 3 := ⟨_, _, Tryd.underlying193, rfl, rfl, rfl, info_f (n := 1) (by kernel_rfl) (by decide)⟩
instance : TyF Tryd.prog 193 1 1 3 := ⟨_, _, Tryd.underlying193, rfl, rfl, rfl, info_f (n := 1) (by kernel_rfl) (by decide)⟩
-- 195: laws.Reservation
instance : TyN Tryd.prog 195 2 := ⟨info_n (by kernel_rfl)⟩
instance : TyAg Tryd.prog 195 2 := ⟨fun w => by kernel_rfl, info_n (by kernel_rfl)⟩
theorem Tryd.z195 : (Tryd.prog.info? 195).map (·.zero) = some (some (.agg #[.int .i64 0, .int .i64 0])) := by kernel_rfl
instance : TyZ Tryd.prog 195 [.d false (.i .i64 0), .d false (.i .i64 0)] := ⟨by obtain ⟨i, h1, h2⟩ := info_z Tryd.z195; exact ⟨i, _, h1, h2, rfl⟩⟩
instance : TyE Tryd.prog 195 [.i .i64 0, .i .i64 0] := ⟨by obtain ⟨i, h1, h2⟩ := info_z Tryd.z195; exact ⟨i, _, h1, h2, rfl⟩⟩
instance : TyB Tryd.prog 195 [(0, 1), (1, 1)] := ⟨_, Tryd.underlying195, fun w => by kernel_rfl⟩
instance : TyF Tryd.prog 195 0 0 3 := ⟨_, _, Tryd.underlying195, rfl, rfl, rfl, info_f (n := 1) (by kernel_rfl) (by decide)⟩
instance : TyF Tryd.prog 195 1 1 3 := ⟨_, _, Tryd.underlying195, rfl, rfl, rfl, info_f (n := 1) (by kernel_rfl) (by decide)⟩
-- 207: spec.l1Cur
instance : TyN Tryd.prog 207 3 := ⟨info_n (by kernel_rfl)⟩
instance : TyAg Tryd.prog 207 3 := ⟨fun w => by kernel_rfl, info_n (by kernel_rfl)⟩
theorem Tryd.z207 : (Tryd.prog.info? 207).map (·.zero) = some (some (.agg #[.slice none 0 0, .int .i64 0, .int .i64 0])) := by kernel_rfl
instance : TyZ Tryd.prog 207 [.nil, .d false (.i .i64 0), .d false (.i .i64 0)] := ⟨by obtain ⟨i, h1, h2⟩ := info_z Tryd.z207; exact ⟨i, _, h1, h2, rfl⟩⟩
instance : TyE Tryd.prog 207 [.l [], .i .i64 0, .i .i64 0] := ⟨by obtain ⟨i, h1, h2⟩ := info_z Tryd.z207; exact ⟨i, _, h1, h2, rfl⟩⟩
instance : TyB Tryd.prog 207 [(0, 1), (1, 1), (2, 1)] := ⟨_, Tryd.underlying207, fun w => by kernel_rfl⟩
instance : TyF Tryd.prog 207 0 0 44 := ⟨_, _, Tryd.underlying207, rfl, rfl, rfl, info_f (n := 1) (by kernel_rfl) (by decide)⟩
instance : TyF Tryd.prog 207 1 1 3 := ⟨_, _, Tryd.underlying207, rfl, rfl, rfl, info_f (n := 1) (by kernel_rfl) (by decide)⟩
instance : TyF Tryd.prog 207 2 2 3 := ⟨_, _, Tryd.underlying207, rfl, rfl, rfl, info_f (n := 1) (by kernel_rfl) (by decide)⟩
-- 219: laws.Payload
instance : TyN Tryd.prog 219 1 := ⟨info_n (by kernel_rfl)⟩
instance : TyAg Tryd.prog 219 1 := ⟨fun w => by kernel_rfl, info_n (by kernel_rfl)⟩
theorem Tryd.z219 : (Tryd.prog.info? 219).map (·.zero) = some (some (.agg #[.slice none 0 0])) := by kernel_rfl
instance : TyZ Tryd.prog 219 [.nil] := ⟨by obtain ⟨i, h1, h2⟩ := info_z Tryd.z219; exact ⟨i, _, h1, h2, rfl⟩⟩
instance : TyE Tryd.prog 219 [.l []] := ⟨by obtain ⟨i, h1, h2⟩ := info_z Tryd.z219; exact ⟨i, _, h1, h2, rfl⟩⟩
instance : TyB Tryd.prog 219 [(0, 1)] := ⟨_, Tryd.underlying219, fun w => by kernel_rfl⟩
instance : TyF Tryd.prog 219 0 0 44 := ⟨_, _, Tryd.underlying219, rfl, rfl, rfl, info_f (n := 1) (by kernel_rfl) (by decide)⟩
-- 221: impl.Payload
instance : TyN Tryd.prog 221 1 := ⟨info_n (by kernel_rfl)⟩
instance : TyAg Tryd.prog 221 1 := ⟨fun w => by kernel_rfl, info_n (by kernel_rfl)⟩
theorem Tryd.z221 : (Tryd.prog.info? 221).map (·.zero) = some (some (.agg #[.slice none 0 0])) := by kernel_rfl
instance : TyZ Tryd.prog 221 [.nil] := ⟨by obtain ⟨i, h1, h2⟩ := info_z Tryd.z221; exact ⟨i, _, h1, h2, rfl⟩⟩
instance : TyE Tryd.prog 221 [.l []] := ⟨by obtain ⟨i, h1, h2⟩ := info_z Tryd.z221; exact ⟨i, _, h1, h2, rfl⟩⟩
instance : TyB Tryd.prog 221 [(0, 1)] := ⟨_, Tryd.underlying221, fun w => by kernel_rfl⟩
instance : TyF Tryd.prog 221 0 0 44 := ⟨_, _, Tryd.underlying221, rfl, rfl, rfl, info_f (n := 1) (by kernel_rfl) (by decide)⟩
-- 231: laws.NumberedPacket
instance : TyN Tryd.prog 231 2 := ⟨info_n (by kernel_rfl)⟩
instance : TyAg Tryd.prog 231 2 := ⟨fun w => by kernel_rfl, info_n (by kernel_rfl)⟩
theorem Tryd.z231 : (Tryd.prog.info? 231).map (·.zero) = some (some (.agg #[.int .i64 0, .slice none 0 0])) := by kernel_rfl
instance : TyZ Tryd.prog 231 [.d false (.i .i64 0), .nil] := ⟨by obtain ⟨i, h1, h2⟩ := info_z Tryd.z231; exact ⟨i, _, h1, h2, rfl⟩⟩
instance : TyE Tryd.prog 231 [.i .i64 0, .l []] := ⟨by obtain ⟨i, h1, h2⟩ := info_z Tryd.z231; exact ⟨i, _, h1, h2, rfl⟩⟩
instance : TyB Tryd.prog 231 [(0, 1), (1, 1)] := ⟨_, Tryd.underlying231, fun w => by kernel_rfl⟩
instance : TyF Tryd.prog 231 0 0 3 := ⟨_, _, Tryd.underlying231, rfl, rfl, rfl, info_f (n := 1) (by kernel_rfl) (by decide)⟩
instance : TyF Tryd.prog 231 1 1 44 := ⟨_, _, Tryd.underlying231, rfl, rfl, rfl, info_f (n := 1) (by kernel_rfl) (by decide)⟩
-- 232: impl.NumberedPacket
instance : TyN Tryd.prog 232 2 := ⟨info_n (by kernel_rfl)⟩
instance : TyAg Tryd.prog 232 2 := ⟨fun w => by kernel_rfl, info_n (by kernel_rfl)⟩
theorem Tryd.z232 : (Tryd.prog.info? 232).map (·.zero) = some (some (.agg #[.int .i64 0, .slice none 0 0])) := by kernel_rfl
instance : TyZ Tryd.prog 232 [.d false (.i .i64 0), .nil] := ⟨by obtain ⟨i, h1, h2⟩ := info_z Tryd.z232; exact ⟨i, _, h1, h2, rfl⟩⟩
instance : TyE Tryd.prog 232 [.i .i64 0, .l []] := ⟨by obtain ⟨i, h1, h2⟩ := info_z Tryd.z232; exact ⟨i, _, h1, h2, rfl⟩⟩
instance : TyB Tryd.prog 232 [(0, 1), (1, 1)] := ⟨_, Tryd.underlying232, fun w => by kernel_rfl⟩
instance : TyF Tryd.prog 232 0 0 3 := ⟨_, _, Tryd.underlying232, rfl, rfl, rfl, info_f (n := 1) (by kernel_rfl) (by decide)⟩
instance : TyF Tryd.prog 232 1 1 44 := ⟨_, _, Tryd.underlying232, rfl, rfl, rfl, info_f (n := 1) (by kernel_rfl) (by decide)⟩
theorem Tryd.sh3 : HasSh Tryd.prog 3 [.i .i64] := .int Tryd.underlying3
theorem Tryd.sh4 : HasSh Tryd.prog 4 [.b] := .bool Tryd.underlying4
theorem Tryd.sh5 : HasSh Tryd.prog 5 [.i .u8] := .int Tryd.underlying5
theorem Tryd.sh9 : HasSh Tryd.prog 9 [.str] := .string Tryd.underlying9
theorem Tryd.sh133 : HasSh Tryd.prog 133 [.i .i64, .i .i64, .i .i64] := .struct (ss := [.i .i64, .i .i64, .i .i64]) Tryd.underlying133 (HasFs.cons (s1 := [.i .i64]) (s2 := [.i .i64, .i .i64]) rfl Tryd.sh3 (by kernel_rfl) (HasFs.cons (s1 := [.i .i64]) (s2 := [.i .i64]) rfl Tryd.sh3 (by kernel_rfl) (HasFs.cons (s1 := [.i .i64]) (s2 := []) rfl Tryd.sh3 (by kernel_rfl) (HasFs.nil)))) (by kernel_rfl)
theorem Tryd.sh22 : HasSh Tryd.prog 22 [.l [.i .i64, .i .i64, .i .i64]] := .slice Tryd.underlying22 Tryd.sh133 (by kernel_rfl) (by decide)
theorem Tryd.sh96 : HasSh Tryd.prog 96 [.i .i64, .i .i64, .i .i64] := .struct (ss := [.i .i64, .i .i64, .i .i64]) Tryd.underlying96 (HasFs.cons (s1 := [.i .i64]) (s2 := [.i .i64, .i .i64]) rfl Tryd.sh3 (by kernel_rfl) (HasFs.cons (s1 := [.i .i64]) (s2 := [.i .i64]) rfl Tryd.sh3 (by kernel_rfl) (HasFs.cons (s1 := [.i .i64]) (s2 := []) rfl Tryd.sh3 (by kernel_rfl) (HasFs.nil)))) (by kernel_rfl)
theorem Tryd.sh25 : HasSh Tryd.prog 25 [.l [.i .i64, .i .i64, .i .i64]] := .slice Tryd.underlying25 Tryd.sh96 (by kernel_rfl) (by decide)
theorem Tryd.sh195 : HasSh Tryd.prog 195 [.i .i64, .i .i64] := .struct (ss := [.i .i64, .i .i64]) Tryd.underlying195 (HasFs.cons (s1 := [.i .i64]) (s2 := [.i .i64]) rfl Tryd.sh3 (by kernel_rfl) (HasFs.cons (s1 := [.i .i64]) (s2 := []) rfl Tryd.sh3 (by kernel_rfl) (HasFs.nil))) (by kernel_rfl)
theorem Tryd.sh29 : HasSh Tryd.prog 29 [.l [.i .i64, .i .i64]] := .slice Tryd.underlying29 Tryd.sh195 (by kernel_rfl) (by decide)
theorem Tryd.sh31 : HasSh Tryd.prog 31 [.i .i64, .i .i64, .i .i64, .l [.i .i64, .i .i64]] := .struct (ss := [.i .i64, .i .i64, .i .i64, .l [.i .i64, .i .i64]]) Tryd.underlying31 (HasFs.cons (s1 := [.i .i64]) (s2 := [.i .i64, .i .i64, .l [.i .i64, .i .i64]]) rfl Tryd.sh3 (by kernel_rfl) (HasFs.cons (s1 := [.i .i64]) (s2 := [.i .i64, .l [.i .i64, .i .i64]]) rfl Tryd.sh3 (by kernel_rfl) (HasFs.cons (s1 := [.i .i64]) (s2 := [.l [.i .i64, .i .i64]]) rfl Tryd.sh3 (by kernel_rfl) (HasFs.cons (s1 := [.l [.i .i64, .i .i64]]) (s2 := []) rfl Tryd.sh29 (by kernel_rfl) (HasFs.nil))))) (by kernel_rfl)
theorem Tryd.sh193 : HasSh Tryd.prog 193 [.i .i64, .i .i64] := .struct (ss := [.i .i64, .i .i64]) Tryd.underlying193 (HasFs.cons (s1 := [.i .i64]) (s2 := [.i .i64]) rfl Tryd.sh3 (by kernel_rfl) (HasFs.cons (s1 := [.i .i64]) (s2 := []) rfl Tryd.sh3 (by kernel_rfl) (HasFs.nil))) (by kernel_rfl)
theorem Tryd.sh34 : HasSh Tryd.prog 34 [.l [.i .i64, .i .i64]] := .slice Tryd.underlying34 Tryd.sh193 (by kernel_rfl) (by decide)
theorem Tryd.sh36 : HasSh Tryd.prog 36 [.i .i64, .i .i64, .i .i64, .l [.i .i64, .i .i64]] := .struct (ss := [.i .i64, .i .i64, .i .i64, .l [.i .i64, .i .i64]]) Tryd.underlying36 (HasFs.cons (s1 := [.i .i64]) (s2 := [.i .i64, .i .i64, .l [.i .i64, .i .i64]]) rfl Tryd.sh3 (by kernel_rfl) (HasFs.cons (s1 := [.i .i64]) (s2 := [.i .i64, .l [.i .i64, .i .i64]]) rfl Tryd.sh3 (by kernel_rfl) (HasFs.cons (s1 := [.i .i64]) (s2 := [.l [.i .i64, .i .i64]]) rfl Tryd.sh3 (by kernel_rfl) (HasFs.cons (s1 := [.l [.i .i64, .i .i64]]) (s2 := []) rfl Tryd.sh34 (by kernel_rfl) (HasFs.nil))))) (by kernel_rfl)
theorem Tryd.sh41 : HasSh Tryd.prog 41 [.i .i64, .i .i64, .i .i64, .i .i64, .i .i64] := .struct (ss := [.i .i64, .i .i64, .i .i64, .i .i64, .i .i64]) Tryd.underlying41 (HasFs.cons (s1 := [.i .i64]) (s2 := [.i .i64, .i .i64, .i .i64, .i .i64]) rfl Tryd.sh3 (by kernel_rfl) (HasFs.cons (s1 := [.i .i64]) (s2 := [.i .i64, .i .i64, .i .i64]) rfl Tryd.sh3 (by kernel_rfl) (HasFs.cons (s1 := [.i .i64]) (s2 := [.i .i64, .i .i64]) rfl Tryd.sh3 (by kernel_rfl) (HasFs.cons (s1 := [.i .i64]) (s2 := [.i .i64]) rfl Tryd.sh3 (by kernel_rfl) (HasFs.cons (s1 := [.i .i64]) (s2 := []) rfl Tryd.sh3 (by kernel_rfl) (HasFs.nil)))))) (by kernel_rfl)
theorem Tryd.sh43 : HasSh Tryd.prog 43 [.i .i64, .i .i64, .i .i64, .i .i64, .i .i64, .i .i64, .i .i64, .i .i64, .i .i64, .i .i64, .i .i64] := .struct (ss := [.i .i64, .i .i64, .i .i64, .i .i64, .i .i64, .i .i64, .i .i64, .i .i64, .i .i64, .i .i64, .i .i64]) Tryd.underlying43 (HasFs.cons (s1 := [.i .i64]) (s2 := [.i .i64, .i .i64, .i .i64, .i .i64, .i .i64, .i .i64, .i .i64, .i .i64, .i .i64, .i .i64]) rfl Tryd.sh3 (by kernel_rfl) (HasFs.cons (s1 := [.i .i64]) (s2 := [.i .i64, .i .i64, .i .i64, .i .i64, .i .i64, .i .i64, .i .i64, .i .i64, .i .i64]) rfl Tryd.sh3 (by kernel_rfl) (HasFs.cons (s1 := [.i .i64]) (s2 := [.i .i64, .i .i64, .i .i64, .i .i64, .i .i64, .i .i64, .i .i64, .i .i64]) rfl Tryd.sh3 (by kernel_rfl) (HasFs.cons (s1 := [.i .i64]) (s2 := [.i .i64, .i .i64, .i .i64, .i .i64, .i .i64, .i .i64, .i .i64]) rfl Tryd.sh3 (by kernel_rfl) (HasFs.cons (s1 := [.i .i64]) (s2 := [.i .i64, .i .i64, .i .i64, .i .i64, .i .i64, .i .i64]) rfl Tryd.sh3 (by kernel_rfl) (HasFs.cons (s1 := [.i .i64, .i .i64, .i .i64, .i .i64, .i .i64]) (s2 := [.i .i64]) rfl Tryd.sh41 (by kernel_rfl) (HasFs.cons (s1 := [.i .i64]) (s2 := []) rfl Tryd.sh3 (by kernel_rfl) (HasFs.nil)))))))) (by kernel_rfl)
theorem Tryd.sh44 : HasSh Tryd.prog 44 [.l [.i .u8]] := .slice Tryd.underlying44 Tryd.sh5 (by kernel_rfl) (by decide)
theorem Tryd.sh46 : HasSh Tryd.prog 46 [.i .i64, .i .i64, .l [.i .u8], .i .i64] := .struct (ss := [.i .i64, .i .i64, .l [.i .u8], .i .i64]) Tryd.underlying46 (HasFs.cons (s1 := [.i .i64]) (s2 := [.i .i64, .l [.i .u8], .i .i64]) rfl Tryd.sh3 (by kernel_rfl) (HasFs.cons (s1 := [.i .i64]) (s2 := [.l [.i .u8], .i .i64]) rfl Tryd.sh3 (by kernel_rfl) (HasFs.cons (s1 := [.l [.i .u8]]) (s2 := [.i .i64]) rfl Tryd.sh44 (by kernel_rfl) (HasFs.cons (s1 := [.i .i64]) (s2 := []) rfl Tryd.sh3 (by kernel_rfl) (HasFs.nil))))) (by kernel_rfl)
theorem Tryd.sh48 : HasSh Tryd.prog 48 [.i .i64, .i .i64, .i .i64, .i .i64, .l [.i .u8], .i .i64] := .struct (ss := [.i .i64, .i .i64, .i .i64, .i .i64, .l [.i .u8], .i .i64]) Tryd.underlying48 (HasFs.cons (s1 := [.i .i64]) (s2 := [.i .i64, .i .i64, .i .i64, .l [.i .u8], .i .i64]) rfl Tryd.sh3 (by kernel_rfl) (HasFs.cons (s1 := [.i .i64]) (s2 := [.i .i64, .i .i64, .l [.i .u8], .i .i64]) rfl Tryd.sh3 (by kernel_rfl) (HasFs.cons (s1 := [.i .i64, .i .i64, .l [.i .u8], .i .i64]) (s2 := []) rfl Tryd.sh46 (by kernel_rfl) (HasFs.nil)))) (by kernel_rfl)
theorem Tryd.sh50 : HasSh Tryd.prog 50 [.i .i64, .b, .b, .i .i64, .i .i64, .i .i64, .i .i64, .i .i64, .i .i64, .i .i64, .i .i64, .i .i64, .i .i64, .i .i64, .i .i64, .i .i64, .i .i64, .i .i64, .i .i64, .l [.i .u8], .i .i64] := .struct (ss := [.i .i64, .b, .b, .i .i64, .i .i64, .i .i64, .i .i64, .i .i64, .i .i64, .i .i64, .i .i64, .i .i64, .i .i64, .i .i64, .i .i64, .i .i64, .i .i64, .i .i64, .i .i64, .l [.i .u8], .i .i64]) Tryd.underlying50 (HasFs.cons (s1 := [.i .i64]) (s2 := [.b, .b, .i .i64, .i .i64, .i .i64, .i .i64, .i .i64, .i .i64, .i .i64, .i .i64, .i .i64, .i .i64, .i .i64, .i .i64, .i .i64, .i .i64, .i .i64, .i .i64, .l [.i .u8], .i .i64]) rfl Tryd.sh3 (by kernel_rfl) (HasFs.cons (s1 := [.b]) (s2 := [.b, .i .i64, .i .i64, .i .i64, .i .i64, .i .i64, .i .i64, .i .i64, .i .i64, .i .i64, .i .i64, .i .i64, .i .i64, .i .i64, .i .i64, .i .i64, .i .i64, .l [.i .u8], .i .i64]) rfl Tryd.sh4 (by kernel_rfl) (HasFs.cons (s1 := [.b]) (s2 := [.i .i64, .i .i64, .i .i64, .i .i64, .i .i64, .i .i64, .i .i64, .i .i64, .i .i64, .i .i64, .i .i64, .i .i64, .i .i64, .i .i64, .i .i64, .i .i64, .l [.i .u8], .i .i64]) rfl Tryd.sh4 (by kernel_rfl) (HasFs.cons (s1 := [.i .i64]) (s2 := [.i .i64, .i .i64, .i .i64, .i .i64, .i .i64, .i .i64, .i .i64, .i .i64, .i .i64, .i .i64, .i .i64, .i .i64, .i .i64, .i .i64, .i .i64, .l [.i .u8], .i .i64]) rfl Tryd.sh3 (by kernel_rfl) (HasFs.cons (s1 := [.i .i64, .i .i64, .i .i64, .i .i64, .i .i64, .i .i64, .i .i64, .i .i64, .i .i64, .i .i64, .i .i64]) (s2 := [.i .i64, .i .i64, .i .i64, .i .i64, .l [.i .u8], .i .i64]) rfl Tryd.sh43 (by kernel_rfl) (HasFs.cons (s1 := [.i .i64, .i .i64, .i .i64, .i .i64, .l [.i .u8], .i .i64]) (s2 := []) rfl Tryd.sh48 (by kernel_rfl) (HasFs.nil))))))) (by kernel_rfl)
theorem Tryd.sh53 : HasSh Tryd.prog 53 [.i .i64, .i .i64, .i .i64, .i .i64, .i .i64] := .struct (ss := [.i .i64, .i .i64, .i .i64, .i .i64, .i .i64]) Tryd.underlying53 (HasFs.cons (s1 := [.i .i64]) (s2 := [.i .i64, .i .i64, .i .i64, .i .i64]) rfl Tryd.sh3 (by kernel_rfl) (HasFs.cons (s1 := [.i .i64]) (s2 := [.i .i64, .i .i64, .i .i64]) rfl Tryd.sh3 (by kernel_rfl) (HasFs.cons (s1 := [.i .i64]) (s2 := [.i .i64, .i .i64]) rfl Tryd.sh3 (by kernel_rfl) (HasFs.cons (s1 := [.i .i64]) (s2 := [.i .i64]) rfl Tryd.sh3 (by kernel_rfl) (HasFs.cons (s1 := [.i .i64]) (s2 := []) rfl Tryd.sh3 (by kernel_rfl) (HasFs.nil)))))) (by kernel_rfl)
theorem Tryd.sh55 : HasSh Tryd.prog 55 [.i .i64, .i .i64, .i .i64, .i .i64, .i .i64, .i .i64, .i .i64, .i .i64, .i .i64, .i .i64, .i .i64] := .struct (ss := [.i .i64, .i .i64, .i .i64, .i .i64, .i .i64, .i .i64, .i .i64, .i .i64, .i .i64, .i .i64, .i .i64]) Tryd.underlying55 (HasFs.cons (s1 := [.i .i64]) (s2 := [.i .i64, .i .i64, .i .i64, .i .i64, .i .i64, .i .i64, .i .i64, .i .i64, .i .i64, .i .i64]) rfl Tryd.sh3 (by kernel_rfl) (HasFs.cons (s1 := [.i .i64]) (s2 := [.i .i64, .i .i64, .i .i64, .i .i64, .i .i64, .i .i64, .i .i64, .i .i64, .i .i64]) rfl Tryd.sh3 (by kernel_rfl) (HasFs.cons (s1 := [.i .i64]) (s2 := [.i .i64, .i .i64, .i .i64, .i .i64, .i .i64, .i .i64, .i .i64, .i .i64]) rfl Tryd.sh3 (by kernel_rfl) (HasFs.cons (s1 := [.i .i64]) (s2 := [.i .i64, .i .i64, .i .i64, .i .i64, .i .i64, .i .i64, .i .i64]) rfl Tryd.sh3 (by kernel_rfl) (HasFs.cons (s1 := [.i .i64]) (s2 := [.i .i64, .i .i64, .i .i64, .i .i64, .i .i64, .i .i64]) rfl Tryd.sh3 (by kernel_rfl) (HasFs.cons (s1 := [.i .i64, .i .i64, .i .i64, .i .i64, .i .i64]) (s2 := [.i .i64]) rfl Tryd.sh53 (by kernel_rfl) (HasFs.cons (s1 := [.i .i64]) (s2 := []) rfl Tryd.sh3 (by kernel_rfl) (HasFs.nil)))))))) (by kernel_rfl)
theorem Tryd.sh56 : HasSh Tryd.prog 56 [.i .i64, .i .i64, .l [.i .u8], .i .i64] := .struct (ss := [.i .i64, .i .i64, .l [.i .u8], .i .i64]) Tryd.underlying56 (HasFs.cons (s1 := [.i .i64]) (s2 := [.i .i64, .l [.i .u8], .i .i64]) rfl Tryd.sh3 (by kernel_rfl) (HasFs.cons (s1 := [.i .i64]) (s2 := [.l [.i .u8], .i .i64]) rfl Tryd.sh3 (by kernel_rfl) (HasFs.cons (s1 := [.l [.i .u8]]) (s2 := [.i .i64]) rfl Tryd.sh44 (by kernel_rfl) (HasFs.cons (s1 := [.i .i64]) (s2 := []) rfl Tryd.sh3 (by kernel_rfl) (HasFs.nil))))) (by kernel_rfl)
theorem Tryd.sh58 : HasSh Tryd.prog 58 [.i .i64, .i .i64, .i .i64, .i .i64, .l [.i .u8], .i .i64] := .struct (ss := [.i .i64, .i .i64, .i .i64, .i .i64, .l [.i .u8], .i .i64]) Tryd.underlying58 (HasFs.cons (s1 := [.i .i64]) (s2 := [.i .i64, .i .i64, .i .i64, .l [.i .u8], .i .i64]) rfl Tryd.sh3 (by kernel_rfl) (HasFs.cons (s1 := [.i .i64]) (s2 := [.i .i64, .i .i64, .l [.i .u8], .i .i64]) rfl Tryd.sh3 (by kernel_rfl) (HasFs.cons (s1 := [.i .i64, .i .i64, .l [.i .u8], .i .i64]) (s2 := []) rfl Tryd.sh56 (by kernel_rfl) (HasFs.nil)))) (by kernel_rfl)
theorem Tryd.sh60 : HasSh Tryd.prog 60 [.i .i64, .b, .b, .i .i64, .i .i64, .i .i64, .i .i64, .i .i64, .i .i64, .i .i64, .i .i64, .i .i64, .i .i64, .i .i64, .i .i64, .i .i64, .i .i64, .i .i64, .i .i64, .l [.i .u8], .i .i64] := .struct (ss := [.i .i64, .b, .b, .i .i64, .i .i64, .i .i64, .i .i64, .i .i64, .i .i64, .i .i64, .i .i64, .i .i64, .i .i64, .i .i64, .i .i64, .i .i64, .i .i64, .i .i64, .i .i64, .l [.i .u8], .i .i64]) Tryd.underlying60 (HasFs.cons (s1 := [.i .i64]) (s2 := [.b, .b, .i .i64, .i .i64, .i .i64, .i .i64, .i .i64, .i .i64, .i .i64, .i .i64, .i .i64, .i .i64, .i .i64, .i .i64, .i .i64, .i .i64, .i .i64, .i .i64, .l [.i .u8], .i .i64]) rfl Tryd.sh3 (by kernel_rfl) (HasFs.cons (s1 := [.b]) (s2 := [.b, .i .i64, .i .i64, .i .i64, .i .i64, .i .i64, .i .i64, .i .i64, .i .i64, .i .i64, .i .i64, .i .i64, .i .i64, .i .i64, .i .i64, .i .i64, .i .i64, .l [.i .u8], .i .i64]) rfl Tryd.sh4 (by kernel_rfl) (HasFs.cons (s1 := [.b]) (s2 := [.i .i64, .i .i64, .i .i64, .i .i64, .i .i64, .i .i64, .i .i64, .i .i64, .i .i64, .i .i64, .i .i64, .i .i64, .i .i64, .i .i64, .i .i64, .i .i64, .l [.i .u8], .i .i64]) rfl Tryd.sh4 (by kernel_rfl) (HasFs.cons (s1 := [.i .i64]) (s2 := [.i .i64, .i .i64, .i .i64, .i .i64, .i .i64, .i .i64, .i .i64, .i .i64, .i .i64, .i .i64, .i .i64, .i .i64, .i .i64, .i .i64, .i .i64, .l [.i .u8], .i .i64]) rfl Tryd.sh3 (by kernel_rfl) (HasFs.cons (s1 := [.i .i64, .i .i64, .i .i64, .i .i64, .i .i64, .i .i64, .i .i64, .i .i64, .i .i64, .i .i64, .i .i64]) (s2 := [.i .i64, .i .i64, .i .i64, .i .i64, .l [.i .u8], .i .i64]) rfl Tryd.sh55 (by kernel_rfl) (HasFs.cons (s1 := [.i .i64, .i .i64, .i .i64, .i .i64, .l [.i .u8], .i .i64]) (s2 := []) rfl Tryd.sh58 (by kernel_rfl) (HasFs.nil))))))) (by kernel_rfl)
theorem Tryd.sh65 : HasSh Tryd.prog 65 [.i .i64, .i .i64] := .struct (ss := [.i .i64, .i .i64]) Tryd.underlying65 (HasFs.cons (s1 := [.i .i64]) (s2 := [.i .i64]) rfl Tryd.sh3 (by kernel_rfl) (HasFs.cons (s1 := [.i .i64]) (s2 := []) rfl Tryd.sh3 (by kernel_rfl) (HasFs.nil))) (by kernel_rfl)
theorem Tryd.sh67 : HasSh Tryd.prog 67 [.i .i64, .i .i64, .i .i64, .i .i64] := .struct (ss := [.i .i64, .i .i64, .i .i64, .i .i64]) Tryd.underlying67 (HasFs.cons (s1 := [.i .i64, .i .i64]) (s2 := [.i .i64, .i .i64]) rfl Tryd.sh65 (by kernel_rfl) (HasFs.cons (s1 := [.i .i64]) (s2 := [.i .i64]) rfl Tryd.sh3 (by kernel_rfl) (HasFs.cons (s1 := [.i .i64]) (s2 := []) rfl Tryd.sh3 (by kernel_rfl) (HasFs.nil)))) (by kernel_rfl)
theorem Tryd.sh231 : HasSh Tryd.prog 231 [.i .i64, .l [.i .u8]] := .struct (ss := [.i .i64, .l [.i .u8]]) Tryd.underlying231 (HasFs.cons (s1 := [.i .i64]) (s2 := [.l [.i .u8]]) rfl Tryd.sh3 (by kernel_rfl) (HasFs.cons (s1 := [.l [.i .u8]]) (s2 := []) rfl Tryd.sh44 (by kernel_rfl) (HasFs.nil))) (by kernel_rfl)
theorem Tryd.sh68 : HasSh Tryd.prog 68 [.l [.i .i64, .l [.i .u8]]] := .slice Tryd.underlying68 Tryd.sh231 (by kernel_rfl) (by decide)
theorem Tryd.sh219 : HasSh Tryd.prog 219 [.l [.i .u8]] := .struct (ss := [.l [.i .u8]]) Tryd.underlying219 (HasFs.cons (s1 := [.l [.i .u8]]) (s2 := []) rfl Tryd.sh44 (by kernel_rfl) (HasFs.nil)) (by kernel_rfl)
theorem Tryd.sh69 : HasSh Tryd.prog 69 [.l [.l [.i .u8]]] := .slice Tryd.underlying69 Tryd.sh219 (by kernel_rfl) (by decide)
theorem Tryd.sh71 : HasSh Tryd.prog 71 [.i .i64, .l [.i .i64, .l [.i .u8]], .l [.l [.i .u8]]] := .struct (ss := [.i .i64, .l [.i .i64, .l [.i .u8]], .l [.l [.i .u8]]]) Tryd.underlying71 (HasFs.cons (s1 := [.i .i64]) (s2 := [.l [.i .i64, .l [.i .u8]], .l [.l [.i .u8]]]) rfl Tryd.sh3 (by kernel_rfl) (HasFs.cons (s1 := [.l [.i .i64, .l [.i .u8]]]) (s2 := [.l [.l [.i .u8]]]) rfl Tryd.sh68 (by kernel_rfl) (HasFs.cons (s1 := [.l [.l [.i .u8]]]) (s2 := []) rfl Tryd.sh69 (by kernel_rfl) (HasFs.nil)))) (by kernel_rfl)
theorem Tryd.sh73 : HasSh Tryd.prog 73 [.i .i64, .i .i64, .i .i64, .i .i64, .i .i64, .i .i64, .i .i64, .i .i64, .i .i64, .b, .i .i64, .i .i64, .l [.i .i64, .l [.i .u8]], .l [.l [.i .u8]]] := .struct (ss := [.i .i64, .i .i64, .i .i64, .i .i64, .i .i64, .i .i64, .i .i64, .i .i64, .i .i64, .b, .i .i64, .i .i64, .l [.i .i64, .l [.i .u8]], .l [.l [.i .u8]]]) Tryd.underlying73 (HasFs.cons (s1 := [.i .i64, .i .i64, .i .i64, .i .i64]) (s2 := [.i .i64, .i .i64, .i .i64, .i .i64, .i .i64, .b, .i .i64, .i .i64, .l [.i .i64, .l [.i .u8]], .l [.l [.i .u8]]]) rfl Tryd.sh67 (by kernel_rfl) (HasFs.cons (s1 := [.i .i64]) (s2 := [.i .i64, .i .i64, .i .i64, .i .i64, .b, .i .i64, .i .i64, .l [.i .i64, .l [.i .u8]], .l [.l [.i .u8]]]) rfl Tryd.sh3 (by kernel_rfl) (HasFs.cons (s1 := [.i .i64]) (s2 := [.i .i64, .i .i64, .i .i64, .b, .i .i64, .i .i64, .l [.i .i64, .l [.i .u8]], .l [.l [.i .u8]]]) rfl Tryd.sh3 (by kernel_rfl) (HasFs.cons (s1 := [.i .i64]) (s2 := [.i .i64, .i .i64, .b, .i .i64, .i .i64, .l [.i .i64, .l [.i .u8]], .l [.l [.i .u8]]]) rfl Tryd.sh3 (by kernel_rfl) (HasFs.cons (s1 := [.i .i64]) (s2 := [.i .i64, .b, .i .i64, .i .i64, .l [.i .i64, .l [.i .u8]], .l [.l [.i .u8]]]) rfl Tryd.sh3 (by kernel_rfl) (HasFs.cons (s1 := [.i .i64]) (s2 := [.b, .i .i64, .i .i64, .l [.i .i64, .l [.i .u8]], .l [.l [.i .u8]]]) rfl Tryd.sh3 (by kernel_rfl) (HasFs.cons (s1 := [.b]) (s2 := [.i .i64, .i .i64, .l [.i .i64, .l [.i .u8]], .l [.l [.i .u8]]]) rfl Tryd.sh4 (by kernel_rfl) (HasFs.cons (s1 := [.i .i64]) (s2 := [.i .i64, .l [.i .i64, .l [.i .u8]], .l [.l [.i .u8]]]) rfl Tryd.sh3 (by kernel_rfl) (HasFs.cons (s1 := [.i .i64, .l [.i .i64, .l [.i .u8]], .l [.l [.i .u8]]]) (s2 := []) rfl Tryd.sh71 (by kernel_rfl) (HasFs.nil)))))))))) (by kernel_rfl)
theorem Tryd.sh76 : HasSh Tryd.prog 76 [.i .i64, .i .i64] := .struct (ss := [.i .i64, .i .i64]) Tryd.underlying76 (HasFs.cons (s1 := [.i .i64]) (s2 := [.i .i64]) rfl Tryd.sh3 (by kernel_rfl) (HasFs.cons (s1 := [.i .i64]) (s2 := []) rfl Tryd.sh3 (by kernel_rfl) (HasFs.nil))) (by kernel_rfl)
theorem Tryd.sh78 : HasSh Tryd.prog 78 [.i .i64, .i .i64, .i .i64, .i .i64] := .struct (ss := [.i .i64, .i .i64, .i .i64, .i .i64]) Tryd.underlying78 (HasFs.cons (s1 := [.i .i64, .i .i64]) (s2 := [.i .i64, .i .i64]) rfl Tryd.sh76 (by kernel_rfl) (HasFs.cons (s1 := [.i .i64]) (s2 := [.i .i64]) rfl Tryd.sh3 (by kernel_rfl) (HasFs.cons (s1 := [.i .i64]) (s2 := []) rfl Tryd.sh3 (by kernel_rfl) (HasFs.nil)))) (by kernel_rfl)
theorem Tryd.sh232 : HasSh Tryd.prog 232 [.i .i64, .l [.i .u8]] := .struct (ss := [.i .i64, .l [.i .u8]]) Tryd.underlying232 (HasFs.cons (s1 := [.i .i64]) (s2 := [.l [.i .u8]]) rfl Tryd.sh3 (by kernel_rfl) (HasFs.cons (s1 := [.l [.i .u8]]) (s2 := []) rfl Tryd.sh44 (by kernel_rfl) (HasFs.nil))) (by kernel_rfl)
theorem Tryd.sh79 : HasSh Tryd.prog 79 [.l [.i .i64, .l [.i .u8]]] := .slice Tryd.underlying79 Tryd.sh232 (by kernel_rfl) (by decide)
theorem Tryd.sh221 : HasSh Tryd.prog 221 [.l [.i .u8]] := .struct (ss := [.l [.i .u8]]) Tryd.underlying221 (HasFs.cons (s1 := [.l [.i .u8]]) (s2 := []) rfl Tryd.sh44 (by kernel_rfl) (HasFs.nil)) (by kernel_rfl)
theorem Tryd.sh80 : HasSh Tryd.prog 80 [.l [.l [.i .u8]]] := .slice Tryd.underlying80 Tryd.sh221 (by kernel_rfl) (by decide)
theorem Tryd.sh82 : HasSh Tryd.prog 82 [.i .i64, .l [.i .i64, .l [.i .u8]], .l [.l [.i .u8]]] := .struct (ss := [.i .i64, .l [.i .i64, .l [.i .u8]], .l [.l [.i .u8]]]) Tryd.underlying82 (HasFs.cons (s1 := [.i .i64]) (s2 := [.l [.i .i64, .l [.i .u8]], .l [.l [.i .u8]]]) rfl Tryd.sh3 (by kernel_rfl) (HasFs.cons (s1 := [.l [.i .i64, .l [.i .u8]]]) (s2 := [.l [.l [.i .u8]]]) rfl Tryd.sh79 (by kernel_rfl) (HasFs.cons (s1 := [.l [.l [.i .u8]]]) (s2 := []) rfl Tryd.sh80 (by kernel_rfl) (HasFs.nil)))) (by kernel_rfl)
theorem Tryd.sh84 : HasSh Tryd.prog 84 [.i .i64, .i .i64, .i .i64, .i .i64, .i .i64, .i .i64, .i .i64, .i .i64, .i .i64, .b, .i .i64, .i .i64, .l [.i .i64, .l [.i .u8]], .l [.l [.i .u8]]] := .struct (ss := [.i .i64, .i .i64, .i .i64, .i .i64, .i .i64, .i .i64, .i .i64, .i .i64, .i .i64, .b, .i .i64, .i .i64, .l [.i .i64, .l [.i .u8]], .l [.l [.i .u8]]]) Tryd.underlying84 (HasFs.cons (s1 := [.i .i64, .i .i64, .i .i64, .i .i64]) (s2 := [.i .i64, .i .i64, .i .i64, .i .i64, .i .i64, .b, .i .i64, .i .i64, .l [.i .i64, .l [.i .u8]], .l [.l [.i .u8]]]) rfl Tryd.sh78 (by kernel_rfl) (HasFs.cons (s1 := [.i .i64]) (s2 := [.i .i64, .i .i64, .i .i64, .i .i64, .b, .i .i64, .i .i64, .l [.i .i64, .l [.i .u8]], .l [.l [.i .u8]]]) rfl Tryd.sh3 (by kernel_rfl) (HasFs.cons (s1 := [.i .i64]) (s2 := [.i .i64, .i .i64, .i .i64, .b, .i .i64, .i .i64, .l [.i .i64, .l [.i .u8]], .l [.l [.i .u8]]]) rfl Tryd.sh3 (by kernel_rfl) (HasFs.cons (s1 := [.i .i64]) (s2 := [.i .i64, .i .i64, .b, .i .i64, .i .i64, .l [.i .i64, .l [.i .u8]], .l [.l [.i .u8]]]) rfl Tryd.sh3 (by kernel_rfl) (HasFs.cons (s1 := [.i .i64]) (s2 := [.i .i64, .b, .i .i64, .i .i64, .l [.i .i64, .l [.i .u8]], .l [.l [.i .u8]]]) rfl Tryd.sh3 (by kernel_rfl) (HasFs.cons (s1 := [.i .i64]) (s2 := [.b, .i .i64, .i .i64, .l [.i .i64, .l [.i .u8]], .l [.l [.i .u8]]]) rfl Tryd.sh3 (by kernel_rfl) (HasFs.cons (s1 := [.b]) (s2 := [.i .i64, .i .i64, .l [.i .i64, .l [.i .u8]], .l [.l [.i .u8]]]) rfl Tryd.sh4 (by kernel_rfl) (HasFs.cons (s1 := [.i .i64]) (s2 := [.i .i64, .l [.i .i64, .l [.i .u8]], .l [.l [.i .u8]]]) rfl Tryd.sh3 (by kernel_rfl) (HasFs.cons (s1 := [.i .i64, .l [.i .i64, .l [.i .u8]], .l [.l [.i .u8]]]) (s2 := []) rfl Tryd.sh82 (by kernel_rfl) (HasFs.nil)))))))))) (by kernel_rfl)
theorem Tryd.sh161 : HasSh Tryd.prog 161 [.i .i64, .i .i64, .i .i64, .i .i64] := .struct (ss := [.i .i64, .i .i64, .i .i64, .i .i64]) Tryd.underlying161 (HasFs.cons (s1 := [.i .i64]) (s2 := [.i .i64, .i .i64, .i .i64]) rfl Tryd.sh3 (by kernel_rfl) (HasFs.cons (s1 := [.i .i64]) (s2 := [.i .i64, .i .i64]) rfl Tryd.sh3 (by kernel_rfl) (HasFs.cons (s1 := [.i .i64]) (s2 := [.i .i64]) rfl Tryd.sh3 (by kernel_rfl) (HasFs.cons (s1 := [.i .i64]) (s2 := []) rfl Tryd.sh3 (by kernel_rfl) (HasFs.nil))))) (by kernel_rfl)
theorem Tryd.sh98 : HasSh Tryd.prog 98 [.l [.i .i64, .i .i64, .i .i64, .i .i64]] := .slice Tryd.underlying98 Tryd.sh161 (by kernel_rfl) (by decide)
theorem Tryd.sh100 : HasSh Tryd.prog 100 [.i .i64, .l [.i .i64, .i .i64, .i .i64, .i .i64], .l [.i .i64, .i .i64, .i .i64, .i .i64]] := .struct (ss := [.i .i64, .l [.i .i64, .i .i64, .i .i64, .i .i64], .l [.i .i64, .i .i64, .i .i64, .i .i64]]) Tryd.underlying100 (HasFs.cons (s1 := [.i .i64]) (s2 := [.l [.i .i64, .i .i64, .i .i64, .i .i64], .l [.i .i64, .i .i64, .i .i64, .i .i64]]) rfl Tryd.sh3 (by kernel_rfl) (HasFs.cons (s1 := [.l [.i .i64, .i .i64, .i .i64, .i .i64]]) (s2 := [.l [.i .i64, .i .i64, .i .i64, .i .i64]]) rfl Tryd.sh98 (by kernel_rfl) (HasFs.cons (s1 := [.l [.i .i64, .i .i64, .i .i64, .i .i64]]) (s2 := []) rfl Tryd.sh98 (by kernel_rfl) (HasFs.nil)))) (by kernel_rfl)
theorem Tryd.sh89 : HasSh Tryd.prog 89 [.l [.i .i64, .l [.i .i64, .i .i64, .i .i64, .i .i64], .l [.i .i64, .i .i64, .i .i64, .i .i64]]] := .slice Tryd.underlying89 Tryd.sh100 (by kernel_rfl) (by decide)
theorem Tryd.sh102 : HasSh Tryd.prog 102 [.i .i64, .i .i64, .i .i64, .i .i64] := .struct (ss := [.i .i64, .i .i64, .i .i64, .i .i64]) Tryd.underlying102 (HasFs.cons (s1 := [.i .i64]) (s2 := [.i .i64, .i .i64, .i .i64]) rfl Tryd.sh3 (by kernel_rfl) (HasFs.cons (s1 := [.i .i64]) (s2 := [.i .i64, .i .i64]) rfl Tryd.sh3 (by kernel_rfl) (HasFs.cons (s1 := [.i .i64]) (s2 := [.i .i64]) rfl Tryd.sh3 (by kernel_rfl) (HasFs.cons (s1 := [.i .i64]) (s2 := []) rfl Tryd.sh3 (by kernel_rfl) (HasFs.nil))))) (by kernel_rfl)
theorem Tryd.sh90 : HasSh Tryd.prog 90 [.l [.i .i64, .i .i64, .i .i64, .i .i64]] := .slice Tryd.underlying90 Tryd.sh102 (by kernel_rfl) (by decide)
theorem Tryd.sh105 : HasSh Tryd.prog 105 [.i .i64, .i .i64, .i .i64, .i .i64] := .struct (ss := [.i .i64, .i .i64, .i .i64, .i .i64]) Tryd.underlying105 (HasFs.cons (s1 := [.i .i64, .i .i64]) (s2 := [.i .i64, .i .i64]) rfl Tryd.sh65 (by kernel_rfl) (HasFs.cons (s1 := [.i .i64]) (s2 := [.i .i64]) rfl Tryd.sh3 (by kernel_rfl) (HasFs.cons (s1 := [.i .i64]) (s2 := []) rfl Tryd.sh3 (by kernel_rfl) (HasFs.nil)))) (by kernel_rfl)
theorem Tryd.sh106 : HasSh Tryd.prog 106 [.l [.i .i64]] := .slice Tryd.underlying106 Tryd.sh3 (by kernel_rfl) (by decide)
theorem Tryd.sh108 : HasSh Tryd.prog 108 [.i .i64, .i .i64, .i .i64, .l [.i .i64]] := .struct (ss := [.i .i64, .i .i64, .i .i64, .l [.i .i64]]) Tryd.underlying108 (HasFs.cons (s1 := [.i .i64]) (s2 := [.i .i64, .i .i64, .l [.i .i64]]) rfl Tryd.sh3 (by kernel_rfl) (HasFs.cons (s1 := [.i .i64]) (s2 := [.i .i64, .l [.i .i64]]) rfl Tryd.sh3 (by kernel_rfl) (HasFs.cons (s1 := [.i .i64]) (s2 := [.l [.i .i64]]) rfl Tryd.sh3 (by kernel_rfl) (HasFs.cons (s1 := [.l [.i .i64]]) (s2 := []) rfl Tryd.sh106 (by kernel_rfl) (HasFs.nil))))) (by kernel_rfl)
theorem Tryd.sh110 : HasSh Tryd.prog 110 [.i .i64, .i .i64, .i .i64] := .struct (ss := [.i .i64, .i .i64, .i .i64]) Tryd.underlying110 (HasFs.cons (s1 := [.i .i64]) (s2 := [.i .i64, .i .i64]) rfl Tryd.sh3 (by kernel_rfl) (HasFs.cons (s1 := [.i .i64]) (s2 := [.i .i64]) rfl Tryd.sh3 (by kernel_rfl) (HasFs.cons (s1 := [.i .i64]) (s2 := []) rfl Tryd.sh3 (by kernel_rfl) (HasFs.nil)))) (by kernel_rfl)
theorem Tryd.sh112 : HasSh Tryd.prog 112 [.i .i64, .l [.i .i64, .l [.i .u8]]] := .struct (ss := [.i .i64, .l [.i .i64, .l [.i .u8]]]) Tryd.underlying112 (HasFs.cons (s1 := [.i .i64]) (s2 := [.l [.i .i64, .l [.i .u8]]]) rfl Tryd.sh3 (by kernel_rfl) (HasFs.cons (s1 := [.l [.i .i64, .l [.i .u8]]]) (s2 := []) rfl Tryd.sh68 (by kernel_rfl) (HasFs.nil))) (by kernel_rfl)
theorem Tryd.sh114 : HasSh Tryd.prog 114 [.i .i64, .i .i64, .i .i64] := .struct (ss := [.i .i64, .i .i64, .i .i64]) Tryd.underlying114 (HasFs.cons (s1 := [.i .i64]) (s2 := [.i .i64, .i .i64]) rfl Tryd.sh3 (by kernel_rfl) (HasFs.cons (s1 := [.i .i64]) (s2 := [.i .i64]) rfl Tryd.sh3 (by kernel_rfl) (HasFs.cons (s1 := [.i .i64]) (s2 := []) rfl Tryd.sh3 (by kernel_rfl) (HasFs.nil)))) (by kernel_rfl)
theorem Tryd.sh116 : HasSh Tryd.prog 116 [.i .i64, .i .i64, .i .i64, .i .i64, .i .i64, .i .i64, .i .i64, .l [.i .i64], .i .i64, .i .i64, .i .i64, .i .i64, .i .i64, .i .i64, .i .i64, .i .i64, .i .i64, .i .i64, .i .i64, .i .i64, .i .i64, .i .i64, .i .i64, .l [.l [.i .u8]], .i .i64, .l [.i .i64, .l [.i .u8]], .i .i64, .i .i64, .i .i64, .i .i64] := .struct (ss := [.i .i64, .i .i64, .i .i64, .i .i64, .i .i64, .i .i64, .i .i64, .l [.i .i64], .i .i64, .i .i64, .i .i64, .i .i64, .i .i64, .i .i64, .i .i64, .i .i64, .i .i64, .i .i64, .i .i64, .i .i64, .i .i64, .i .i64, .i .i64, .l [.l [.i .u8]], .i .i64, .l [.i .i64, .l [.i .u8]], .i .i64, .i .i64, .i .i64, .i .i64]) Tryd.underlying116 (HasFs.cons (s1 := [.i .i64, .i .i64, .i .i64, .i .i64]) (s2 := [.i .i64, .i .i64, .i .i64, .l [.i .i64], .i .i64, .i .i64, .i .i64, .i .i64, .i .i64, .i .i64, .i .i64, .i .i64, .i .i64, .i .i64, .i .i64, .i .i64, .i .i64, .i .i64, .i .i64, .l [.l [.i .u8]], .i .i64, .l [.i .i64, .l [.i .u8]], .i .i64, .i .i64, .i .i64, .i .i64]) rfl Tryd.sh105 (by kernel_rfl) (HasFs.cons (s1 := [.i .i64, .i .i64, .i .i64, .l [.i .i64]]) (s2 := [.i .i64, .i .i64, .i .i64, .i .i64, .i .i64, .i .i64, .i .i64, .i .i64, .i .i64, .i .i64, .i .i64, .i .i64, .i .i64, .i .i64, .i .i64, .l [.l [.i .u8]], .i .i64, .l [.i .i64, .l [.i .u8]], .i .i64, .i .i64, .i .i64, .i .i64]) rfl Tryd.sh108 (by kernel_rfl) (HasFs.cons (s1 := [.i .i64]) (s2 := [.i .i64, .i .i64, .i .i64, .i .i64, .i .i64, .i .i64, .i .i64, .i .i64, .i .i64, .i .i64, .i .i64, .i .i64, .i .i64, .i .i64, .l [.l [.i .u8]], .i .i64, .l [.i .i64, .l [.i .u8]], .i .i64, .i .i64, .i .i64, .i .i64]) rfl Tryd.sh3 (by kernel_rfl) (HasFs.cons (s1 := [.i .i64, .i .i64, .i .i64, .i .i64, .i .i64]) (s2 := [.i .i64, .i .i64, .i .i64, .i .i64, .i .i64, .i .i64, .i .i64, .i .i64, .i .i64, .l [.l [.i .u8]], .i .i64, .l [.i .i64, .l [.i .u8]], .i .i64, .i .i64, .i .i64, .i .i64]) rfl Tryd.sh41 (by kernel_rfl) (HasFs.cons (s1 := [.i .i64]) (s2 := [.i .i64, .i .i64, .i .i64, .i .i64, .i .i64, .i .i64, .i .i64, .i .i64, .l [.l [.i .u8]], .i .i64, .l [.i .i64, .l [.i .u8]], .i .i64, .i .i64, .i .i64, .i .i64]) rfl Tryd.sh3 (by kernel_rfl) (HasFs.cons (s1 := [.i .i64]) (s2 := [.i .i64, .i .i64, .i .i64, .i .i64, .i .i64, .i .i64, .i .i64, .l [.l [.i .u8]], .i .i64, .l [.i .i64, .l [.i .u8]], .i .i64, .i .i64, .i .i64, .i .i64]) rfl Tryd.sh3 (by kernel_rfl) (HasFs.cons (s1 := [.i .i64]) (s2 := [.i .i64, .i .i64, .i .i64, .i .i64, .i .i64, .i .i64, .l [.l [.i .u8]], .i .i64, .l [.i .i64, .l [.i .u8]], .i .i64, .i .i64, .i .i64, .i .i64]) rfl Tryd.sh3 (by kernel_rfl) (HasFs.cons (s1 := [.i .i64]) (s2 := [.i .i64, .i .i64, .i .i64, .i .i64, .i .i64, .l [.l [.i .u8]], .i .i64, .l [.i .i64, .l [.i .u8]], .i .i64, .i .i64, .i .i64, .i .i64]) rfl Tryd.sh3 (by kernel_rfl) (HasFs.cons (s1 := [.i .i64]) (s2 := [.i .i64, .i .i64, .i .i64, .i .i64, .l [.l [.i .u8]], .i .i64, .l [.i .i64, .l [.i .u8]], .i .i64, .i .i64, .i .i64, .i .i64]) rfl Tryd.sh3 (by kernel_rfl) (HasFs.cons (s1 := [.i .i64]) (s2 := [.i .i64, .i .i64, .i .i64, .l [.l [.i .u8]], .i .i64, .l [.i .i64, .l [.i .u8]], .i .i64, .i .i64, .i .i64, .i .i64]) rfl Tryd.sh3 (by kernel_rfl) (HasFs.cons (s1 := [.i .i64, .i .i64, .i .i64]) (s2 := [.l [.l [.i .u8]], .i .i64, .l [.i .i64, .l [.i .u8]], .i .i64, .i .i64, .i .i64, .i .i64]) rfl Tryd.sh110 (by kernel_rfl) (HasFs.cons (s1 := [.l [.l [.i .u8]]]) (s2 := [.i .i64, .l [.i .i64, .l [.i .u8]], .i .i64, .i .i64, .i .i64, .i .i64]) rfl Tryd.sh69 (by kernel_rfl) (HasFs.cons (s1 := [.i .i64, .l [.i .i64, .l [.i .u8]]]) (s2 := [.i .i64, .i .i64, .i .i64, .i .i64]) rfl Tryd.sh112 (by kernel_rfl) (HasFs.cons (s1 := [.i .i64]) (s2 := [.i .i64, .i .i64, .i .i64]) rfl Tryd.sh3 (by kernel_rfl) (HasFs.cons (s1 := [.i .i64, .i .i64, .i .i64]) (s2 := []) rfl Tryd.sh114 (by kernel_rfl) (HasFs.nil)))))))))))))))) (by kernel_rfl)
theorem Tryd.sh120 : HasSh Tryd.prog 120 [.i .i64, .i .i64, .i .i64, .i .i64] := .struct (ss := [.i .i64, .i .i64, .i .i64, .i .i64]) Tryd.underlying120 (HasFs.cons (s1 := [.i .i64, .i .i64]) (s2 := [.i .i64, .i .i64]) rfl Tryd.sh76 (by kernel_rfl) (HasFs.cons (s1 := [.i .i64]) (s2 := [.i .i64]) rfl Tryd.sh3 (by kernel_rfl) (HasFs.cons (s1 := [.i .i64]) (s2 := []) rfl Tryd.sh3 (by kernel_rfl) (HasFs.nil)))) (by kernel_rfl)
theorem Tryd.sh121 : HasSh Tryd.prog 121 [.i .i64, .i .i64, .i .i64, .l [.i .i64]] := .struct (ss := [.i .i64, .i .i64, .i .i64, .l [.i .i64]]) Tryd.underlying121 (HasFs.cons (s1 := [.i .i64]) (s2 := [.i .i64, .i .i64, .l [.i .i64]]) rfl Tryd.sh3 (by kernel_rfl) (HasFs.cons (s1 := [.i .i64]) (s2 := [.i .i64, .l [.i .i64]]) rfl Tryd.sh3 (by kernel_rfl) (HasFs.cons (s1 := [.i .i64]) (s2 := [.l [.i .i64]]) rfl Tryd.sh3 (by kernel_rfl) (HasFs.cons (s1 := [.l [.i .i64]]) (s2 := []) rfl Tryd.sh106 (by kernel_rfl) (HasFs.nil))))) (by kernel_rfl)
theorem Tryd.sh122 : HasSh Tryd.prog 122 [.i .i64, .i .i64, .i .i64] := .struct (ss := [.i .i64, .i .i64, .i .i64]) Tryd.underlying122 (HasFs.cons (s1 := [.i .i64]) (s2 := [.i .i64, .i .i64]) rfl Tryd.sh3 (by kernel_rfl) (HasFs.cons (s1 := [.i .i64]) (s2 := [.i .i64]) rfl Tryd.sh3 (by kernel_rfl) (HasFs.cons (s1 := [.i .i64]) (s2 := []) rfl Tryd.sh3 (by kernel_rfl) (HasFs.nil)))) (by kernel_rfl)
theorem Tryd.sh124 : HasSh Tryd.prog 124 [.i .i64, .l [.i .i64, .l [.i .u8]]] := .struct (ss := [.i .i64, .l [.i .i64, .l [.i .u8]]]) Tryd.underlying124 (HasFs.cons (s1 := [.i .i64]) (s2 := [.l [.i .i64, .l [.i .u8]]]) rfl Tryd.sh3 (by kernel_rfl) (HasFs.cons (s1 := [.l [.i .i64, .l [.i .u8]]]) (s2 := []) rfl Tryd.sh79 (by kernel_rfl) (HasFs.nil))) (by kernel_rfl)
theorem Tryd.sh125 : HasSh Tryd.prog 125 [.i .i64, .i .i64, .i .i64] := .struct (ss := [.i .i64, .i .i64, .i .i64]) Tryd.underlying125 (HasFs.cons (s1 := [.i .i64]) (s2 := [.i .i64, .i .i64]) rfl Tryd.sh3 (by kernel_rfl) (HasFs.cons (s1 := [.i .i64]) (s2 := [.i .i64]) rfl Tryd.sh3 (by kernel_rfl) (HasFs.cons (s1 := [.i .i64]) (s2 := []) rfl Tryd.sh3 (by kernel_rfl) (HasFs.nil)))) (by kernel_rfl)
theorem Tryd.sh127 : HasSh Tryd.prog 127 [.i .i64, .i .i64, .i .i64, .i .i64, .i .i64, .i .i64, .i .i64, .l [.i .i64], .i .i64, .i .i64, .i .i64, .i .i64, .i .i64, .i .i64, .i .i64, .i .i64, .i .i64, .i .i64, .i .i64, .i .i64, .i .i64, .i .i64, .i .i64, .l [.l [.i .u8]], .i .i64, .l [.i .i64, .l [.i .u8]], .i .i64, .i .i64, .i .i64, .i .i64] := .struct (ss := [.i .i64, .i .i64, .i .i64, .i .i64, .i .i64, .i .i64, .i .i64, .l [.i .i64], .i .i64, .i .i64, .i .i64, .i .i64, .i .i64, .i .i64, .i .i64, .i .i64, .i .i64, .i .i64, .i .i64, .i .i64, .i .i64, .i .i64, .i .i64, .l [.l [.i .u8]], .i .i64, .l [.i .i64, .l [.i .u8]], .i .i64, .i .i64, .i .i64, .i .i64]) Tryd.underlying127 (HasFs.cons (s1 := [.i .i64, .i .i64, .i .i64, .i .i64]) (s2 := [.i .i64, .i .i64, .i .i64, .l [.i .i64], .i .i64, .i .i64, .i .i64, .i .i64, .i .i64, .i .i64, .i .i64, .i .i64, .i .i64, .i .i64, .i .i64, .i .i64, .i .i64, .i .i64, .i .i64, .l [.l [.i .u8]], .i .i64, .l [.i .i64, .l [.i .u8]], .i .i64, .i .i64, .i .i64, .i .i64]) rfl Tryd.sh120 (by kernel_rfl) (HasFs.cons (s1 := [.i .i64, .i .i64, .i .i64, .l [.i .i64]]) (s2 := [.i .i64, .i .i64, .i .i64, .i .i64, .i .i64, .i .i64, .i .i64, .i .i64, .i .i64, .i .i64, .i .i64, .i .i64, .i .i64, .i .i64, .i .i64, .l [.l [.i .u8]], .i .i64, .l [.i .i64, .l [.i .u8]], .i .i64, .i .i64, .i .i64, .i .i64]) rfl Tryd.sh121 (by kernel_rfl) (HasFs.cons (s1 := [.i .i64]) (s2 := [.i .i64, .i .i64, .i .i64, .i .i64, .i .i64, .i .i64, .i .i64, .i .i64, .i .i64, .i .i64, .i .i64, .i .i64, .i .i64, .i .i64, .l [.l [.i .u8]], .i .i64, .l [.i .i64, .l [.i .u8]], .i .i64, .i .i64, .i .i64, .i .i64]) rfl Tryd.sh3 (by kernel_rfl) (HasFs.cons (s1 := [.i .i64, .i .i64, .i .i64, .i .i64, .i .i64]) (s2 := [.i .i64, .i .i64, .i .i64, .i .i64, .i .i64, .i .i64, .i .i64, .i .i64, .i .i64, .l [.l [.i .u8]], .i .i64, .l [.i .i64, .l [.i .u8]], .i .i64, .i .i64, .i .i64, .i .i64]) rfl Tryd.sh53 (by kernel_rfl) (HasFs.cons (s1 := [.i .i64]) (s2 := [.i .i64, .i .i64, .i .i64, .i .i64, .i .i64, .i .i64, .i .i64, .i .i64, .l [.l [.i .u8]], .i .i64, .l [.i .i64, .l [.i .u8]], .i .i64, .i .i64, .i .i64, .i .i64]) rfl Tryd.sh3 (by kernel_rfl) (HasFs.cons (s1 := [.i .i64]) (s2 := [.i .i64, .i .i64, .i .i64, .i .i64, .i .i64, .i .i64, .i .i64, .l [.l [.i .u8]], .i .i64, .l [.i .i64, .l [.i .u8]], .i .i64, .i .i64, .i .i64, .i .i64]) rfl Tryd.sh3 (by kernel_rfl) (HasFs.cons (s1 := [.i .i64]) (s2 := [.i .i64, .i .i64, .i .i64, .i .i64, .i .i64, .i .i64, .l [.l [.i .u8]], .i .i64, .l [.i .i64, .l [.i .u8]], .i .i64, .i .i64, .i .i64, .i .i64]) rfl Tryd.sh3 (by kernel_rfl) (HasFs.cons (s1 := [.i .i64]) (s2 := [.i .i64, .i .i64, .i .i64, .i .i64, .i .i64, .l [.l [.i .u8]], .i .i64, .l [.i .i64, .l [.i .u8]], .i .i64, .i .i64, .i .i64, .i .i64]) rfl Tryd.sh3 (by kernel_rfl) (HasFs.cons (s1 := [.i .i64]) (s2 := [.i .i64, .i .i64, .i .i64, .i .i64, .l [.l [.i .u8]], .i .i64, .l [.i .i64, .l [.i .u8]], .i .i64, .i .i64, .i .i64, .i .i64]) rfl Tryd.sh3 (by kernel_rfl) (HasFs.cons (s1 := [.i .i64]) (s2 := [.i .i64, .i .i64, .i .i64, .l [.l [.i .u8]], .i .i64, .l [.i .i64, .l [.i .u8]], .i .i64, .i .i64, .i .i64, .i .i64]) rfl Tryd.sh3 (by kernel_rfl) (HasFs.cons (s1 := [.i .i64, .i .i64, .i .i64]) (s2 := [.l [.l [.i .u8]], .i .i64, .l [.i .i64, .l [.i .u8]], .i .i64, .i .i64, .i .i64, .i .i64]) rfl Tryd.sh122 (by kernel_rfl) (HasFs.cons (s1 := [.l [.l [.i .u8]]]) (s2 := [.i .i64, .l [.i .i64, .l [.i .u8]], .i .i64, .i .i64, .i .i64, .i .i64]) rfl Tryd.sh80 (by kernel_rfl) (HasFs.cons (s1 := [.i .i64, .l [.i .i64, .l [.i .u8]]]) (s2 := [.i .i64, .i .i64, .i .i64, .i .i64]) rfl Tryd.sh124 (by kernel_rfl) (HasFs.cons (s1 := [.i .i64]) (s2 := [.i .i64, .i .i64, .i .i64]) rfl Tryd.sh3 (by kernel_rfl) (HasFs.cons (s1 := [.i .i64, .i .i64, .i .i64]) (s2 := []) rfl Tryd.sh125 (by kernel_rfl) (HasFs.nil)))))))))))))))) (by kernel_rfl)
theorem Tryd.sh134 : HasSh Tryd.prog 134 [.l [.str]] := .slice Tryd.underlying134 Tryd.sh9 (by kernel_rfl) (by decide)
theorem Tryd.sh207 : HasSh Tryd.prog 207 [.l [.i .u8], .i .i64, .i .i64] := .struct (ss := [.l [.i .u8], .i .i64, .i .i64]) Tryd.underlying207 (HasFs.cons (s1 := [.l [.i .u8]]) (s2 := [.i .i64, .i .i64]) rfl Tryd.sh44 (by kernel_rfl) (HasFs.cons (s1 := [.i .i64]) (s2 := [.i .i64]) rfl Tryd.sh3 (by kernel_rfl) (HasFs.cons (s1 := [.i .i64]) (s2 := []) rfl Tryd.sh3 (by kernel_rfl) (HasFs.nil)))) (by kernel_rfl)
theorem Tryd.eqa41 : EqA Tryd.prog 2 41 [.i .i64, .i .i64, .i .i64, .i .i64, .i .i64] := eqA_struct (k := 1) Tryd.underlying41 (by kernel_rfl) (eqF_s rfl (by decide) inferInstance (eqS_int Tryd.underlying3) (eqF_s rfl (by decide) inferInstance (eqS_int Tryd.underlying3) (eqF_s rfl (by decide) inferInstance (eqS_int Tryd.underlying3) (eqF_s rfl (by decide) inferInstance (eqS_int Tryd.underlying3) (eqF_s rfl (by decide) inferInstance (eqS_int Tryd.underlying3) (eqF_nil))))))
instance : TyEq Tryd.prog 41 [.i .i64, .i .i64, .i .i64, .i .i64, .i .i64] := ⟨⟨2, by decide, Tryd.eqa41⟩, by kernel_rfl⟩
theorem Tryd.eqa43 : EqA Tryd.prog 3 43 [.i .i64, .i .i64, .i .i64, .i .i64, .i .i64, .i .i64, .i .i64, .i .i64, .i .i64, .i .i64, .i .i64] := eqA_struct (k := 2) Tryd.underlying43 (by kernel_rfl) (eqF_s rfl (by decide) inferInstance (eqS_int Tryd.underlying3) (eqF_s rfl (by decide) inferInstance (eqS_int Tryd.underlying3) (eqF_s rfl (by decide) inferInstance (eqS_int Tryd.underlying3) (eqF_s rfl (by decide) inferInstance (eqS_int Tryd.underlying3) (eqF_s rfl (by decide) inferInstance (eqS_int Tryd.underlying3) (eqF_a (n := 5) (s1 := [.i .i64, .i .i64, .i .i64, .i .i64, .i .i64]) rfl (by decide) inferInstance rfl (by decide) Tryd.eqa41 (eqF_s rfl (by decide) inferInstance (eqS_int Tryd.underlying3) (eqF_nil))))))))
instance : TyEq Tryd.prog 43 [.i .i64, .i .i64, .i .i64, .i .i64, .i .i64, .i .i64, .i .i64, .i .i64, .i .i64, .i .i64, .i .i64] := ⟨⟨3, by decide, Tryd.eqa43⟩, by kernel_rfl⟩
theorem Tryd.eqa53 : EqA Tryd.prog 2 53 [.i .i64, .i .i64, .i .i64, .i .i64, .i .i64] := eqA_struct (k := 1) Tryd.underlying53 (by kernel_rfl) (eqF_s rfl (by decide) inferInstance (eqS_int Tryd.underlying3) (eqF_s rfl (by decide) inferInstance (eqS_int Tryd.underlying3) (eqF_s rfl (by decide) inferInstance (eqS_int Tryd.underlying3) (eqF_s rfl (by decide) inferInstance (eqS_int Tryd.underlying3) (eqF_s rfl (by decide) inferInstance (eqS_int Tryd.underlying3) (eqF_nil))))))
instance : TyEq Tryd.prog 53 [.i .i64, .i .i64, .i .i64, .i .i64, .i .i64] := ⟨⟨2, by decide, Tryd.eqa53⟩, by kernel_rfl⟩
theorem Tryd.eqa55 : EqA Tryd.prog 3 55 [.i .i64, .i .i64, .i .i64, .i .i64, .i .i64, .i .i64, .i .i64, .i .i64, .i .i64, .i .i64, .i .i64] := eqA_struct (k := 2) Tryd.underlying55 (by kernel_rfl) (eqF_s rfl (by decide) inferInstance (eqS_int Tryd.underlying3) (eqF_s rfl (by decide) inferInstance (eqS_int Tryd.underlying3) (eqF_s rfl (by decide) inferInstance (eqS_int Tryd.underlying3) (eqF_s rfl (by decide) inferInstance (eqS_int Tryd.underlying3) (eqF_s rfl (by decide) inferInstance (eqS_int Tryd.underlying3) (eqF_a (n := 5) (s1 := [.i .i64, .i .i64, .i .i64, .i .i64, .i .i64]) rfl (by decide) inferInstance rfl (by decide) Tryd.eqa53 (eqF_s rfl (by decide) inferInstance (eqS_int Tryd.underlying3) (eqF_nil))))))))
instance : TyEq Tryd.prog 55 [.i .i64, .i .i64, .i .i64, .i .i64, .i .i64, .i .i64, .i .i64, .i .i64, .i .i64, .i .i64, .i .i64] := ⟨⟨3, by decide, Tryd.eqa55⟩, by kernel_rfl⟩
theorem Tryd.eqa65 : EqA Tryd.prog 2 65 [.i .i64, .i .i64] := eqA_struct (k := 1) Tryd.underlying65 (by kernel_rfl) (eqF_s rfl (by decide) inferInstance (eqS_int Tryd.underlying3) (eqF_s rfl (by decide) inferInstance (eqS_int Tryd.underlying3) (eqF_nil)))
instance : TyEq Tryd.prog 65 [.i .i64, .i .i64] := ⟨⟨2, by decide, Tryd.eqa65⟩, by kernel_rfl⟩
theorem Tryd.eqa67 : EqA Tryd.prog 3 67 [.i .i64, .i .i64, .i .i64, .i .i64] := eqA_struct (k := 2) Tryd.underlying67 (by kernel_rfl) (eqF_a (n := 2) (s1 := [.i .i64, .i .i64]) rfl (by decide) inferInstance rfl (by decide) Tryd.eqa65 (eqF_s rfl (by decide) inferInstance (eqS_int Tryd.underlying3) (eqF_s rfl (by decide) inferInstance (eqS_int Tryd.underlying3) (eqF_nil))))
instance : TyEq Tryd.prog 67 [.i .i64, .i .i64, .i .i64, .i .i64] := ⟨⟨3, by decide, Tryd.eqa67⟩, by kernel_rfl⟩
theorem Tryd.eqa76 : EqA Tryd.prog 2 76 [.i .i64, .i .i64] := eqA_struct (k := 1) Tryd.underlying76 (by kernel_rfl) (eqF_s rfl (by decide) inferInstance (eqS_int Tryd.underlying3) (eqF_s rfl (by decide) inferInstance (eqS_int Tryd.underlying3) (eqF_nil)))
instance : TyEq Tryd.prog 76 [.i .i64, .i .i64] := ⟨⟨2, by decide, Tryd.eqa76⟩, by kernel_rfl⟩
theorem Tryd.eqa78 : EqA Tryd.prog 3 78 [.i .i64, .i .i64, .i .i64, .i .i64] := eqA_struct (k := 2) Tryd.underlying78 (by kernel_rfl) (eqF_a (n := 2) (s1 := [.i .i64, .i .i64]) rfl (by decide) inferInstance rfl (by decide) Tryd.eqa76 (eqF_s rfl (by decide) inferInstance (eqS_int Tryd.underlying3) (eqF_s rfl (by decide) inferInstance (eqS_int Tryd.underlying3) (eqF_nil))))
instance : TyEq Tryd.prog 78 [.i .i64, .i .i64, .i .i64, .i .i64] := ⟨⟨3, by decide, Tryd.eqa78⟩, by kernel_rfl⟩
theorem Tryd.eqa96 : EqA Tryd.prog 2 96 [.i .i64, .i .i64, .i .i64] := eqA_struct (k := 1) Tryd.underlying96 (by kernel_rfl) (eqF_s rfl (by decide) inferInstance (eqS_int Tryd.underlying3) (eqF_s rfl (by decide) inferInstance (eqS_int Tryd.underlying3) (eqF_s rfl (by decide) inferInstance (eqS_int Tryd.underlying3) (eqF_nil))))
instance : TyEq Tryd.prog 96 [.i .i64, .i .i64, .i .i64] := ⟨⟨2, by decide, Tryd.eqa96⟩, by kernel_rfl⟩
theorem Tryd.eqa102 : EqA Tryd.prog 2 102 [.i .i64, .i .i64, .i .i64, .i .i64] := eqA_struct (k := 1) Tryd.underlying102 (by kernel_rfl) (eqF_s rfl (by decide) inferInstance (eqS_int Tryd.underlying3) (eqF_s rfl (by decide) inferInstance (eqS_int Tryd.underlying3) (eqF_s rfl (by decide) inferInstance (eqS_int Tryd.underlying3) (eqF_s rfl (by decide) inferInstance (eqS_int Tryd.underlying3) (eqF_nil)))))
instance : TyEq Tryd.prog 102 [.i .i64, .i .i64, .i .i64, .i .i64] := ⟨⟨2, by decide, Tryd.eqa102⟩, by kernel_rfl⟩
theorem Tryd.eqa105 : EqA Tryd.prog 3 105 [.i .i64, .i .i64, .i .i64, .i .i64] := eqA_struct (k := 2) Tryd.underlying105 (by kernel_rfl) (eqF_a (n := 2) (s1 := [.i .i64, .i .i64]) rfl (by decide) inferInstance rfl (by decide) Tryd.eqa65 (eqF_s rfl (by decide) inferInstance (eqS_int Tryd.underlying3) (eqF_s rfl (by decide) inferInstance (eqS_int Tryd.underlying3) (eqF_nil))))
instance : TyEq Tryd.prog 105 [.i .i64, .i .i64, .i .i64, .i .i64] := ⟨⟨3, by decide, Tryd.eqa105⟩, by kernel_rfl⟩
theorem Tryd.eqa110 : EqA Tryd.prog 2 110 [.i .i64, .i .i64, .i .i64] := eqA_struct (k := 1) Tryd.underlying110 (by kernel_rfl) (eqF_s rfl (by decide) inferInstance (eqS_int Tryd.underlying3) (eqF_s rfl (by decide) inferInstance (eqS_int Tryd.underlying3) (eqF_s rfl (by decide) inferInstance (eqS_int Tryd.underlying3) (eqF_nil))))
instance : TyEq Tryd.prog 110 [.i .i64, .i .i64, .i .i64] := ⟨⟨2, by decide, Tryd.eqa110⟩, by kernel_rfl⟩
theorem Tryd.eqa114 : EqA Tryd.prog 2 114 [.i .i64, .i .i64, .i .i64] := eqA_struct (k := 1) Tryd.underlying114 (by kernel_rfl) (eqF_s rfl (by decide) inferInstance (eqS_int Tryd.underlying3) (eqF_s rfl (by decide) inferInstance (eqS_int Tryd.underlying3) (eqF_s rfl (by decide) inferInstance (eqS_int Tryd.underlying3) (eqF_nil))))
instance : TyEq Tryd.prog 114 [.i .i64, .i .i64, .i .i64] := ⟨⟨2, by decide, Tryd.eqa114⟩, by kernel_rfl⟩
theorem Tryd.eqa120 : EqA Tryd.prog 3 120 [.i .i64, .i .i64, .i .i64, .i .i64] := eqA_struct (k := 2) Tryd.underlying120 (by kernel_rfl) (eqF_a (n := 2) (s1 := [.i .i64, .i .i64]) rfl (by decide) inferInstance rfl (by decide) Tryd.eqa76 (eqF_s rfl (by decide) inferInstance (eqS_int Tryd.underlying3) (eqF_s rfl (by decide) inferInstance (eqS_int Tryd.underlying3) (eqF_nil))))
instance : TyEq Tryd.prog 120 [.i .i64, .i .i64, .i .i64, .i .i64] := ⟨⟨3, by decide, Tryd.eqa120⟩, by kernel_rfl⟩
theorem Tryd.eqa122 : EqA Tryd.prog 2 122 [.i .i64, .i .i64, .i .i64] := eqA_struct (k := 1) Tryd.underlying122 (by kernel_rfl) (eqF_s rfl (by decide) inferInstance (eqS_int Tryd.underlying3) (eqF_s rfl (by decide) inferInstance (eqS_int Tryd.underlying3) (eqF_s rfl (by decide) inferInstance (eqS_int Tryd.underlying3) (eqF_nil))))
instance : TyEq Tryd.prog 122 [.i .i64, .i .i64, .i .i64] := ⟨⟨2, by decide, Tryd.eqa122⟩, by kernel_rfl⟩
theorem Tryd.eqa125 : EqA Tryd.prog 2 125 [.i .i64, .i .i64, .i .i64] := eqA_struct (k := 1) Tryd.underlying125 (by kernel_rfl) (eqF_s rfl (by decide) inferInstance (eqS_int Tryd.underlying3) (eqF_s rfl (by decide) inferInstance (eqS_int Tryd.underlying3) (eqF_s rfl (by decide) inferInstance (eqS_int Tryd.underlying3) (eqF_nil))))
instance : TyEq Tryd.prog 125 [.i .i64, .i .i64, .i .i64] := ⟨⟨2, by decide, Tryd.eqa125⟩, by kernel_rfl⟩
theorem Tryd.eqa133 : EqA Tryd.prog 2 133 [.i .i64, .i .i64, .i .i64] := eqA_struct (k := 1) Tryd.underlying133 (by kernel_rfl) (eqF_s rfl (by decide) inferInstance (eqS_int Tryd.underlying3) (eqF_s rfl (by decide) inferInstance (eqS_int Tryd.underlying3) (eqF_s rfl (by decide) inferInstance (eqS_int Tryd.underlying3) (eqF_nil))))
instance : TyEq Tryd.prog 133 [.i .i64, .i .i64, .i .i64] := ⟨⟨2, by decide, Tryd.eqa133⟩, by kernel_rfl⟩
theorem Tryd.eqa161 : EqA Tryd.prog 2 161 [.i .i64, .i .i64, .i .i64, .i .i64] := eqA_struct (k := 1) Tryd.underlying161 (by kernel_rfl) (eqF_s rfl (by decide) inferInstance (eqS_int Tryd.underlying3) (eqF_s rfl (by decide) inferInstance (eqS_int Tryd.underlying3) (eqF_s rfl (by decide) inferInstance (eqS_int Tryd.underlying3) (eqF_s rfl (by decide) inferInstance (eqS_int Tryd.underlying3) (eqF_nil)))))
instance : TyEq Tryd.prog 161 [.i .i64, .i .i64, .i .i64, .i .i64] := ⟨⟨2, by decide, Tryd.eqa161⟩, by kernel_rfl⟩
theorem Tryd.eqa193 : EqA Tryd.prog 2 193 [.i .i64, .i .i64] := eqA_struct (k := 1) Tryd.underlying193 (by kernel_rfl) (eqF_s rfl (by decide) inferInstance (eqS_int Tryd.underlying3) (eqF_s rfl (by decide) inferInstance (eqS_int Tryd.underlying3) (eqF_nil)))
instance : TyEq Tryd.prog 193 [.i .i64, .i .i64] := ⟨⟨2, by decide, Tryd.eqa193⟩, by kernel_rfl⟩
theorem Tryd.eqa195 : EqA Tryd.prog 2 195 [.i .i64, .i .i64] := eqA_struct (k := 1) Tryd.underlying195 (by kernel_rfl) (eqF_s rfl (by decide) inferInstance (eqS_int Tryd.underlying3) (eqF_s rfl (by decide) inferInstance (eqS_int Tryd.underlying3) (eqF_nil)))
instance : TyEq Tryd.prog 195 [.i .i64, .i .i64] := ⟨⟨2, by decide, Tryd.eqa195⟩, by kernel_rfl⟩
theorem Tryd.follows : Tryd.prog.follows .mixedOrders = true := by kernel_rfl
structure TReservation where
  SessionID : Int
  Amount : Int
  deriving DecidableEq, Inhabited
def eTReservation (a : TReservation) : List D := [.i .i64 a.SessionID, .i .i64 a.Amount]
structure TAccount where
  Total : Int
  Available : Int
  Spent : Int
  Reservations : List TReservation
  deriving DecidableEq, Inhabited
def eTAccount (a : TAccount) : List D := [.i .i64 a.Total, .i .i64 a.Available, .i .i64 a.Spent, .l (a.Reservations.map eTReservation)]
structure TAuthVector where
  Rand : Int
  Autn : Int
  MAC : Int
  Res : Int
  Key : Int
  deriving DecidableEq, Inhabited
def eTAuthVector (a : TAuthVector) : List D := [.i .i64 a.Rand, .i .i64 a.Autn, .i .i64 a.MAC, .i .i64 a.Res, .i .i64 a.Key]
structure TSignal where
  Kind : Int
  Cell : Int
  Generation : Int
  Epoch : Int
  Number : Int
  Vector : TAuthVector
  MAC : Int
  deriving DecidableEq, Inhabited
def eTSignal (a : TSignal) : List D := [.i .i64 a.Kind, .i .i64 a.Cell, .i .i64 a.Generation, .i .i64 a.Epoch, .i .i64 a.Number, .i .i64 a.Vector.Rand, .i .i64 a.Vector.Autn, .i .i64 a.Vector.MAC, .i .i64 a.Vector.Res, .i .i64 a.Vector.Key, .i .i64 a.MAC]
structure TSecuredMessage where
  Direction : Int
  Count : Int
  Data : List Int
  MAC : Int
  deriving DecidableEq, Inhabited
def eTSecuredMessage (a : TSecuredMessage) : List D := [.i .i64 a.Direction, .i .i64 a.Count, .l (a.Data.map eU8), .i .i64 a.MAC]
structure TRadioPacket where
  Generation : Int
  Epoch : Int
  Message : TSecuredMessage
  deriving DecidableEq, Inhabited
def eTRadioPacket (a : TRadioPacket) : List D := [.i .i64 a.Generation, .i .i64 a.Epoch, .i .i64 a.Message.Direction, .i .i64 a.Message.Count, .l (a.Message.Data.map eU8), .i .i64 a.Message.MAC]
structure TFlight where
  Device : Int
  Uplink : Bool
  IsRadio : Bool
  Cell : Int
  Signal : TSignal
  Radio : TRadioPacket
  deriving DecidableEq, Inhabited
def eTFlight (a : TFlight) : List D := [.i .i64 a.Device, .b a.Uplink, .b a.IsRadio, .i .i64 a.Cell, .i .i64 a.Signal.Kind, .i .i64 a.Signal.Cell, .i .i64 a.Signal.Generation, .i .i64 a.Signal.Epoch, .i .i64 a.Signal.Number, .i .i64 a.Signal.Vector.Rand, .i .i64 a.Signal.Vector.Autn, .i .i64 a.Signal.Vector.MAC, .i .i64 a.Signal.Vector.Res, .i .i64 a.Signal.Vector.Key, .i .i64 a.Signal.MAC, .i .i64 a.Radio.Generation, .i .i64 a.Radio.Epoch, .i .i64 a.Radio.Message.Direction, .i .i64 a.Radio.Message.Count, .l (a.Radio.Message.Data.map eU8), .i .i64 a.Radio.Message.MAC]
structure TSubscriberID where
  Network : Int
  Number : Int
  deriving DecidableEq, Inhabited
def eTSubscriberID (a : TSubscriberID) : List D := [.i .i64 a.Network, .i .i64 a.Number]
structure TUSIM where
  ID : TSubscriberID
  Key : Int
  LastSeq : Int
  deriving DecidableEq, Inhabited
def eTUSIM (a : TUSIM) : List D := [.i .i64 a.ID.Network, .i .i64 a.ID.Number, .i .i64 a.Key, .i .i64 a.LastSeq]
structure TNumberedPacket where
  Seq : Int
  Data : List Int
  deriving DecidableEq, Inhabited
def eTNumberedPacket (a : TNumberedPacket) : List D := [.i .i64 a.Seq, .l (a.Data.map eU8)]
structure TPayload where
  Data : List Int
  deriving DecidableEq, Inhabited
def eTPayload (a : TPayload) : List D := [.l (a.Data.map eU8)]
structure TReceiveWindow where
  Next : Int
  Pending : List TNumberedPacket
  Delivered : List TPayload
  deriving DecidableEq, Inhabited
def eTReceiveWindow (a : TReceiveWindow) : List D := [.i .i64 a.Next, .l (a.Pending.map eTNumberedPacket), .l (a.Delivered.map eTPayload)]
structure TDevice where
  Card : TUSIM
  State : Int
  Cell : Int
  Generation : Int
  RootKey : Int
  Epoch : Int
  PathConfirmed : Bool
  Wait : Int
  Receiver : TReceiveWindow
  deriving DecidableEq, Inhabited
def eTDevice (a : TDevice) : List D := [.i .i64 a.Card.ID.Network, .i .i64 a.Card.ID.Number, .i .i64 a.Card.Key, .i .i64 a.Card.LastSeq, .i .i64 a.State, .i .i64 a.Cell, .i .i64 a.Generation, .i .i64 a.RootKey, .i .i64 a.Epoch, .b a.PathConfirmed, .i .i64 a.Wait, .i .i64 a.Receiver.Next, .l (a.Receiver.Pending.map eTNumberedPacket), .l (a.Receiver.Delivered.map eTPayload)]
structure TStatementLine where
  Payer : Int
  Payee : Int
  Amount : Int
  deriving DecidableEq, Inhabited
def eTStatementLine (a : TStatementLine) : List D := [.i .i64 a.Payer, .i .i64 a.Payee, .i .i64 a.Amount]
structure TUsageRecord where
  Network : Int
  SessionID : Int
  Seq : Int
  Bytes : Int
  deriving DecidableEq, Inhabited
def eTUsageRecord (a : TUsageRecord) : List D := [.i .i64 a.Network, .i .i64 a.SessionID, .i .i64 a.Seq, .i .i64 a.Bytes]
structure TOperatorBook where
  Network : Int
  Own : List TUsageRecord
  Claims : List TUsageRecord
  deriving DecidableEq, Inhabited
def eTOperatorBook (a : TOperatorBook) : List D := [.i .i64 a.Network, .l (a.Own.map eTUsageRecord), .l (a.Claims.map eTUsageRecord)]
structure TRoamingAgreement where
  Home : Int
  Visited : Int
  Price : Int
  Cap : Int
  deriving DecidableEq, Inhabited
def eTRoamingAgreement (a : TRoamingAgreement) : List D := [.i .i64 a.Home, .i .i64 a.Visited, .i .i64 a.Price, .i .i64 a.Cap]
structure TSubscriberRecord where
  ID : TSubscriberID
  Key : Int
  Seq : Int
  deriving DecidableEq, Inhabited
def eTSubscriberRecord (a : TSubscriberRecord) : List D := [.i .i64 a.ID.Network, .i .i64 a.ID.Number, .i .i64 a.Key, .i .i64 a.Seq]
structure TSubscription where
  RateLimit : Int
  BestClass : Int
  GrantSize : Int
  RoamingNetworks : List Int
  deriving DecidableEq, Inhabited
def eTSubscription (a : TSubscription) : List D := [.i .i64 a.RateLimit, .i .i64 a.BestClass, .i .i64 a.GrantSize, .l (a.RoamingNetworks.map eI)]
structure TPagingState where
  Area : Int
  Attempt : Int
  Wait : Int
  deriving DecidableEq, Inhabited
def eTPagingState (a : TPagingState) : List D := [.i .i64 a.Area, .i .i64 a.Attempt, .i .i64 a.Wait]
structure TSendWindow where
  Next : Int
  Unacked : List TNumberedPacket
  deriving DecidableEq, Inhabited
def eTSendWindow (a : TSendWindow) : List D := [.i .i64 a.Next, .l (a.Unacked.map eTNumberedPacket)]
structure TQuota where
  SessionID : Int
  Granted : Int
  Used : Int
  deriving DecidableEq, Inhabited
def eTQuota (a : TQuota) : List D := [.i .i64 a.SessionID, .i .i64 a.Granted, .i .i64 a.Used]
structure TSession where
  Record : TSubscriberRecord
  Plan : TSubscription
  State : Int
  Pending : TAuthVector
  PendingSeq : Int
  Generation : Int
  RootKey : Int
  Epoch : Int
  Cell : Int
  Quiet : Int
  Page : TPagingState
  Submitted : List TPayload
  Window : TSendWindow
  Retry : Int
  Usage : TQuota
  deriving DecidableEq, Inhabited
def eTSession (a : TSession) : List D := [.i .i64 a.Record.ID.Network, .i .i64 a.Record.ID.Number, .i .i64 a.Record.Key, .i .i64 a.Record.Seq, .i .i64 a.Plan.RateLimit, .i .i64 a.Plan.BestClass, .i .i64 a.Plan.GrantSize, .l (a.Plan.RoamingNetworks.map eI), .i .i64 a.State, .i .i64 a.Pending.Rand, .i .i64 a.Pending.Autn, .i .i64 a.Pending.MAC, .i .i64 a.Pending.Res, .i .i64 a.Pending.Key, .i .i64 a.PendingSeq, .i .i64 a.Generation, .i .i64 a.RootKey, .i .i64 a.Epoch, .i .i64 a.Cell, .i .i64 a.Quiet, .i .i64 a.Page.Area, .i .i64 a.Page.Attempt, .i .i64 a.Page.Wait, .l (a.Submitted.map eTPayload), .i .i64 a.Window.Next, .l (a.Window.Unacked.map eTNumberedPacket), .i .i64 a.Retry, .i .i64 a.Usage.SessionID, .i .i64 a.Usage.Granted, .i .i64 a.Usage.Used]
structure Tl1Cur where
  fb : List Int
  fi : Int
  fh : Int
  deriving DecidableEq, Inhabited
def eTl1Cur (a : Tl1Cur) : List D := [.l (a.fb.map eU8), .i .i64 a.fi, .i .i64 a.fh]
theorem Try.follows : Tryd.prog.follows .mixedOrders = true := Tryd.follows
end Go.AM
