/-
  Facts on the types of this translation, laid by program.
-/
import Derived.Test.YtcejklimolcjiaaGreatAmZc
import Derived.Test.YtcejklimolcjiaaGreatAmO
import Derived.Test.YtcejklimolcjiaaGreatProg
namespace Go.AM
open Go.Proofs
theorem info_n {P : Program} {t : TypeId} {n : Nat} (h : (P.info? t).map (·.size) = some n) : ∃ i, P.info? t = some i ∧ i.size = n := by
  cases hi : P.info? t with
  | none => simp [hi] at h
  | some i => simp [hi] at h; exact ⟨i, rfl, h⟩
theorem info_z {P : Program} {t : TypeId} {z : Value} (h : (P.info? t).map (·.zero) = some (some z)) : ∃ i, P.info? t = some i ∧ i.zero = some z := by
  cases hi : P.info? t with
  | none => simp [hi] at h
  | some i => simp [hi] at h; exact ⟨i, rfl, h⟩
theorem info_s {P : Program} {t : TypeId} {z : Value} {n b : Nat} (h : (P.info? t).map (fun i => (i.size, i.bytes, i.zero)) = some (n, b, some z)) (hz : z.cells.size = n) : ∃ i z, P.info? t = some i ∧ i.size = n ∧ i.bytes = b ∧ i.zero = some z ∧ z.cells.size = n := by
  cases hi : P.info? t with
  | none => simp [hi] at h
  | some i => simp [hi] at h; exact ⟨i, z, rfl, h.1, h.2.1, h.2.2, hz⟩
theorem info_f {P : Program} {t : TypeId} {n : Nat} (h : (P.info? t).map (·.size) = some n) (hn : n ≠ 0) : ∃ i, P.info? t = some i ∧ i.size ≠ 0 := by
  cases hi : P.info? t with
  | none => simp [hi] at h
  | some i => simp [hi] at h; exact ⟨i, rfl, by omega⟩
-- 3: int
instance : TyN Tryz.prog 3 1 := ⟨info_n (by kernel_rfl)⟩
instance : TySc Tryz.prog 3 := ⟨fun w => by kernel_rfl, info_n (by kernel_rfl)⟩
instance : TyU Tryz.prog 3 (.int .i64) := ⟨Tryz.underlying3⟩
theorem Tryz.z3 : (Tryz.prog.info? 3).map (·.zero) = some (some (.int .i64 0)) := by kernel_rfl
instance : TyZ Tryz.prog 3 [.d false (.i .i64 0)] := ⟨by obtain ⟨i, h1, h2⟩ := info_z Tryz.z3; exact ⟨i, _, h1, h2, rfl⟩⟩
instance : TyE Tryz.prog 3 [.i .i64 0] := ⟨by obtain ⟨i, h1, h2⟩ := info_z Tryz.z3; exact ⟨i, _, h1, h2, rfl⟩⟩
-- 4: bool
instance : TyN Tryz.prog 4 1 := ⟨info_n (by kernel_rfl)⟩
instance : TySc Tryz.prog 4 := ⟨fun w => by kernel_rfl, info_n (by kernel_rfl)⟩
instance : TyU Tryz.prog 4 (.bool) := ⟨Tryz.underlying4⟩
theorem Tryz.z4 : (Tryz.prog.info? 4).map (·.zero) = some (some (.bool false)) := by kernel_rfl
instance : TyZ Tryz.prog 4 [.d false (.b false)] := ⟨by obtain ⟨i, h1, h2⟩ := info_z Tryz.z4; exact ⟨i, _, h1, h2, rfl⟩⟩
instance : TyE Tryz.prog 4 [.b false] := ⟨by obtain ⟨i, h1, h2⟩ := info_z Tryz.z4; exact ⟨i, _, h1, h2, rfl⟩⟩
-- 5: uint8
instance : TyN Tryz.prog 5 1 := ⟨info_n (by kernel_rfl)⟩
instance : TySc Tryz.prog 5 := ⟨fun w => by kernel_rfl, info_n (by kernel_rfl)⟩
instance : TyU Tryz.prog 5 (.int .u8) := ⟨Tryz.underlying5⟩
theorem Tryz.z5 : (Tryz.prog.info? 5).map (·.zero) = some (some (.int .u8 0)) := by kernel_rfl
instance : TyZ Tryz.prog 5 [.d false (.i .u8 0)] := ⟨by obtain ⟨i, h1, h2⟩ := info_z Tryz.z5; exact ⟨i, _, h1, h2, rfl⟩⟩
instance : TyE Tryz.prog 5 [.i .u8 0] := ⟨by obtain ⟨i, h1, h2⟩ := info_z Tryz.z5; exact ⟨i, _, h1, h2, rfl⟩⟩
-- 9: string
instance : TyN Tryz.prog 9 1 := ⟨info_n (by kernel_rfl)⟩
instance : TySc Tryz.prog 9 := ⟨fun w => by kernel_rfl, info_n (by kernel_rfl)⟩
instance : TyU Tryz.prog 9 (.string) := ⟨Tryz.underlying9⟩
theorem Tryz.z9 : (Tryz.prog.info? 9).map (·.zero) = some (some (.string ⟨#[]⟩)) := by kernel_rfl
instance : TyZ Tryz.prog 9 [.d false (.str ⟨#[]⟩)] := ⟨by obtain ⟨i, h1, h2⟩ := info_z Tryz.z9; exact ⟨i, _, h1, h2, rfl⟩⟩
instance : TyE Tryz.prog 9 [.str ⟨#[]⟩] := ⟨by obtain ⟨i, h1, h2⟩ := info_z Tryz.z9; exact ⟨i, _, h1, h2, rfl⟩⟩
-- 22: []laws.Cell
instance : TyN Tryz.prog 22 1 := ⟨info_n (by kernel_rfl)⟩
instance : TySc Tryz.prog 22 := ⟨fun w => by kernel_rfl, info_n (by kernel_rfl)⟩
theorem Tryz.z22 : (Tryz.prog.info? 22).map (·.zero) = some (some (.slice none 0 0)) := by kernel_rfl
instance : TyZ Tryz.prog 22 [.nil] := ⟨by obtain ⟨i, h1, h2⟩ := info_z Tryz.z22; exact ⟨i, _, h1, h2, rfl⟩⟩
instance : TyE Tryz.prog 22 [.l []] := ⟨by obtain ⟨i, h1, h2⟩ := info_z Tryz.z22; exact ⟨i, _, h1, h2, rfl⟩⟩
instance : TySl Tryz.prog 22 206 2 32 := ⟨Tryz.underlying22, info_s (z := .agg #[.int .i64 0, .slice none 0 0]) (by kernel_rfl) rfl, by decide⟩
-- 24: laws.CellMap
instance : TyN Tryz.prog 24 1 := ⟨info_n (by kernel_rfl)⟩
instance : TyAg Tryz.prog 24 1 := ⟨fun w => by kernel_rfl, info_n (by kernel_rfl)⟩
theorem Tryz.z24 : (Tryz.prog.info? 24).map (·.zero) = some (some (.agg #[.slice none 0 0])) := by kernel_rfl
instance : TyZ Tryz.prog 24 [.nil] := ⟨by obtain ⟨i, h1, h2⟩ := info_z Tryz.z24; exact ⟨i, _, h1, h2, rfl⟩⟩
instance : TyE Tryz.prog 24 [.l []] := ⟨by obtain ⟨i, h1, h2⟩ := info_z Tryz.z24; exact ⟨i, _, h1, h2, rfl⟩⟩
instance : TyB Tryz.prog 24 [(0, 1)] := ⟨_, Tryz.underlying24, fun w => by kernel_rfl⟩
instance : TyF Tryz.prog 24 0 0 22 := ⟨_, _, Tryz.underlying24, rfl, rfl, rfl, info_f (n := 1) (by kernel_rfl) (by decide)⟩
-- 25: []laws.Device
instance : TyN Tryz.prog 25 1 := ⟨info_n (by kernel_rfl)⟩
instance : TySc Tryz.prog 25 := ⟨fun w => by kernel_rfl, info_n (by kernel_rfl)⟩
theorem Tryz.z25 : (Tryz.prog.info? 25).map (·.zero) = some (some (.slice none 0 0)) := by kernel_rfl
instance : TyZ Tryz.prog 25 [.nil] := ⟨by obtain ⟨i, h1, h2⟩ := info_z Tryz.z25; exact ⟨i, _, h1, h2, rfl⟩⟩
instance : TyE Tryz.prog 25 [.l []] := ⟨by obtain ⟨i, h1, h2⟩ := info_z Tryz.z25; exact ⟨i, _, h1, h2, rfl⟩⟩
instance : TySl Tryz.prog 25 141 14 144 := ⟨Tryz.underlying25, info_s (z := .agg #[.int .i64 0, .int .i64 0, .int .i64 0, .int .i64 0, .int .i64 0, .int .i64 0, .int .i64 0, .int .i64 0, .int .i64 0, .bool false, .int .i64 0, .int .i64 0, .slice none 0 0, .slice none 0 0]) (by kernel_rfl) rfl, by decide⟩
-- 26: []laws.Session
instance : TyN Tryz.prog 26 1 := ⟨info_n (by kernel_rfl)⟩
instance : TySc Tryz.prog 26 := ⟨fun w => by kernel_rfl, info_n (by kernel_rfl)⟩
theorem Tryz.z26 : (Tryz.prog.info? 26).map (·.zero) = some (some (.slice none 0 0)) := by kernel_rfl
instance : TyZ Tryz.prog 26 [.nil] := ⟨by obtain ⟨i, h1, h2⟩ := info_z Tryz.z26; exact ⟨i, _, h1, h2, rfl⟩⟩
instance : TyE Tryz.prog 26 [.l []] := ⟨by obtain ⟨i, h1, h2⟩ := info_z Tryz.z26; exact ⟨i, _, h1, h2, rfl⟩⟩
instance : TySl Tryz.prog 26 152 30 288 := ⟨Tryz.underlying26, info_s (z := .agg #[.int .i64 0, .int .i64 0, .int .i64 0, .int .i64 0, .int .i64 0, .int .i64 0, .int .i64 0, .slice none 0 0, .int .i64 0, .int .i64 0, .int .i64 0, .int .i64 0, .int .i64 0, .int .i64 0, .int .i64 0, .int .i64 0, .int .i64 0, .int .i64 0, .int .i64 0, .int .i64 0, .int .i64 0, .int .i64 0, .int .i64 0, .slice none 0 0, .int .i64 0, .slice none 0 0, .int .i64 0, .int .i64 0, .int .i64 0, .int .i64 0]) (by kernel_rfl) rfl, by decide⟩
-- 27: []laws.Account
instance : TyN Tryz.prog 27 1 := ⟨info_n (by kernel_rfl)⟩
instance : TySc Tryz.prog 27 := ⟨fun w => by kernel_rfl, info_n (by kernel_rfl)⟩
theorem Tryz.z27 : (Tryz.prog.info? 27).map (·.zero) = some (some (.slice none 0 0)) := by kernel_rfl
instance : TyZ Tryz.prog 27 [.nil] := ⟨by obtain ⟨i, h1, h2⟩ := info_z Tryz.z27; exact ⟨i, _, h1, h2, rfl⟩⟩
instance : TyE Tryz.prog 27 [.l []] := ⟨by obtain ⟨i, h1, h2⟩ := info_z Tryz.z27; exact ⟨i, _, h1, h2, rfl⟩⟩
instance : TySl Tryz.prog 27 156 4 48 := ⟨Tryz.underlying27, info_s (z := .agg #[.int .i64 0, .int .i64 0, .int .i64 0, .slice none 0 0]) (by kernel_rfl) rfl, by decide⟩
-- 28: []laws.Flight
instance : TyN Tryz.prog 28 1 := ⟨info_n (by kernel_rfl)⟩
instance : TySc Tryz.prog 28 := ⟨fun w => by kernel_rfl, info_n (by kernel_rfl)⟩
theorem Tryz.z28 : (Tryz.prog.info? 28).map (·.zero) = some (some (.slice none 0 0)) := by kernel_rfl
instance : TyZ Tryz.prog 28 [.nil] := ⟨by obtain ⟨i, h1, h2⟩ := info_z Tryz.z28; exact ⟨i, _, h1, h2, rfl⟩⟩
instance : TyE Tryz.prog 28 [.l []] := ⟨by obtain ⟨i, h1, h2⟩ := info_z Tryz.z28; exact ⟨i, _, h1, h2, rfl⟩⟩
instance : TySl Tryz.prog 28 164 21 176 := ⟨Tryz.underlying28, info_s (z := .agg #[.int .i64 0, .bool false, .bool false, .int .i64 0, .int .i64 0, .int .i64 0, .int .i64 0, .int .i64 0, .int .i64 0, .int .i64 0, .int .i64 0, .int .i64 0, .int .i64 0, .int .i64 0, .int .i64 0, .int .i64 0, .int .i64 0, .int .i64 0, .int .i64 0, .slice none 0 0, .int .i64 0]) (by kernel_rfl) rfl, by decide⟩
-- 30: laws.ServerPool
instance : TyN Tryz.prog 30 2 := ⟨info_n (by kernel_rfl)⟩
instance : TyAg Tryz.prog 30 2 := ⟨fun w => by kernel_rfl, info_n (by kernel_rfl)⟩
theorem Tryz.z30 : (Tryz.prog.info? 30).map (·.zero) = some (some (.agg #[.int .i64 0, .int .i64 0])) := by kernel_rfl
instance : TyZ Tryz.prog 30 [.d false (.i .i64 0), .d false (.i .i64 0)] := ⟨by obtain ⟨i, h1, h2⟩ := info_z Tryz.z30; exact ⟨i, _, h1, h2, rfl⟩⟩
instance : TyE Tryz.prog 30 [.i .i64 0, .i .i64 0] := ⟨by obtain ⟨i, h1, h2⟩ := info_z Tryz.z30; exact ⟨i, _, h1, h2, rfl⟩⟩
instance : TyB Tryz.prog 30 [(0, 1), (1, 1)] := ⟨_, Tryz.underlying30, fun w => by kernel_rfl⟩
instance : TyF Tryz.prog 30 0 0 3 := ⟨_, _, Tryz.underlying30, rfl, rfl, rfl, info_f (n := 1) (by kernel_rfl) (by decide)⟩
instance : TyF Tryz.prog 30 1 1 3 := ⟨_, _, Tryz.underlying30, rfl, rfl, rfl, info_f (n := 1) (by kernel_rfl) (by decide)⟩
-- 32: laws.Network
instance : TyN Tryz.prog 32 10 := ⟨info_n (by kernel_rfl)⟩
instance : TyAg Tryz.prog 32 10 := ⟨fun w => by kernel_rfl, info_n (by kernel_rfl)⟩
theorem Tryz.z32 : (Tryz.prog.info? 32).map (·.zero) = some (some (.agg #[.slice none 0 0, .slice none 0 0, .slice none 0 0, .slice none 0 0, .slice none 0 0, .int .i64 0, .int .i64 0, .int .i64 0, .int .i64 0, .int .i64 0])) := by kernel_rfl
instance : TyZ Tryz.prog 32 [.nil, .nil, .nil, .nil, .nil, .d false (.i .i64 0), .d false (.i .i64 0), .d false (.i .i64 0), .d false (.i .i64 0), .d false (.i .i64 0)] := ⟨by obtain ⟨i, h1, h2⟩ := info_z Tryz.z32; exact ⟨i, _, h1, h2, rfl⟩⟩
instance : TyE Tryz.prog 32 [.l [], .l [], .l [], .l [], .l [], .i .i64 0, .i .i64 0, .i .i64 0, .i .i64 0, .i .i64 0] := ⟨by obtain ⟨i, h1, h2⟩ := info_z Tryz.z32; exact ⟨i, _, h1, h2, rfl⟩⟩
instance : TyB Tryz.prog 32 [(0, 1), (1, 1), (2, 1), (3, 1), (4, 1), (5, 1), (6, 2), (8, 1), (9, 1)] := ⟨_, Tryz.underlying32, fun w => by kernel_rfl⟩
instance : TyF Tryz.prog 32 0 0 24 := ⟨_, _, Tryz.underlying32, rfl, rfl, rfl, info_f (n := 1) (by kernel_rfl) (by decide)⟩
instance : TyF Tryz.prog 32 1 1 25 := ⟨_, _, Tryz.underlying32, rfl, rfl, rfl, info_f (n := 1) (by kernel_rfl) (by decide)⟩
instance : TyF Tryz.prog 32 2 2 26 := ⟨_, _, Tryz.underlying32, rfl, rfl, rfl, info_f (n := 1) (by kernel_rfl) (by decide)⟩
instance : TyF Tryz.prog 32 3 3 27 := ⟨_, _, Tryz.underlying32, rfl, rfl, rfl, info_f (n := 1) (by kernel_rfl) (by decide)⟩
instance : TyF Tryz.prog 32 4 4 28 := ⟨_, _, Tryz.underlying32, rfl, rfl, rfl, info_f (n := 1) (by kernel_rfl) (by decide)⟩
instance : TyF Tryz.prog 32 5 5 3 := ⟨_, _, Tryz.underlying32, rfl, rfl, rfl, info_f (n := 1) (by kernel_rfl) (by decide)⟩
instance : TyF Tryz.prog 32 6 6 30 := ⟨_, _, Tryz.underlying32, rfl, rfl, rfl, info_f (n := 2) (by kernel_rfl) (by decide)⟩
instance : TyF Tryz.prog 32 7 8 3 := ⟨_, _, Tryz.underlying32, rfl, rfl, rfl, info_f (n := 1) (by kernel_rfl) (by decide)⟩
instance : TyF Tryz.prog 32 8 9 3 := ⟨_, _, Tryz.underlying32, rfl, rfl, rfl, info_f (n := 1) (by kernel_rfl) (by decide)⟩
-- 33: []laws.LeakedKey
instance : TyN Tryz.prog 33 1 := ⟨info_n (by kernel_rfl)⟩
instance : TySc Tryz.prog 33 := ⟨fun w => by kernel_rfl, info_n (by kernel_rfl)⟩
theorem Tryz.z33 : (Tryz.prog.info? 33).map (·.zero) = some (some (.slice none 0 0)) := by kernel_rfl
instance : TyZ Tryz.prog 33 [.nil] := ⟨by obtain ⟨i, h1, h2⟩ := info_z Tryz.z33; exact ⟨i, _, h1, h2, rfl⟩⟩
instance : TyE Tryz.prog 33 [.l []] := ⟨by obtain ⟨i, h1, h2⟩ := info_z Tryz.z33; exact ⟨i, _, h1, h2, rfl⟩⟩
instance : TySl Tryz.prog 33 74 2 32 := ⟨Tryz.underlying33, info_s (z := .agg #[.int .i64 0, .slice none 0 0]) (by kernel_rfl) rfl, by decide⟩
-- 36: []int
instance : TyN Tryz.prog 36 1 := ⟨info_n (by kernel_rfl)⟩
instance : TySc Tryz.prog 36 := ⟨fun w => by kernel_rfl, info_n (by kernel_rfl)⟩
theorem Tryz.z36 : (Tryz.prog.info? 36).map (·.zero) = some (some (.slice none 0 0)) := by kernel_rfl
instance : TyZ Tryz.prog 36 [.nil] := ⟨by obtain ⟨i, h1, h2⟩ := info_z Tryz.z36; exact ⟨i, _, h1, h2, rfl⟩⟩
instance : TyE Tryz.prog 36 [.l []] := ⟨by obtain ⟨i, h1, h2⟩ := info_z Tryz.z36; exact ⟨i, _, h1, h2, rfl⟩⟩
instance : TySl Tryz.prog 36 3 1 8 := ⟨Tryz.underlying36, info_s (z := .int .i64 0) (by kernel_rfl) rfl, by decide⟩
-- 38: []impl.Cell
instance : TyN Tryz.prog 38 1 := ⟨info_n (by kernel_rfl)⟩
instance : TySc Tryz.prog 38 := ⟨fun w => by kernel_rfl, info_n (by kernel_rfl)⟩
theorem Tryz.z38 : (Tryz.prog.info? 38).map (·.zero) = some (some (.slice none 0 0)) := by kernel_rfl
instance : TyZ Tryz.prog 38 [.nil] := ⟨by obtain ⟨i, h1, h2⟩ := info_z Tryz.z38; exact ⟨i, _, h1, h2, rfl⟩⟩
instance : TyE Tryz.prog 38 [.l []] := ⟨by obtain ⟨i, h1, h2⟩ := info_z Tryz.z38; exact ⟨i, _, h1, h2, rfl⟩⟩
instance : TySl Tryz.prog 38 213 2 32 := ⟨Tryz.underlying38, info_s (z := .agg #[.int .i64 0, .slice none 0 0]) (by kernel_rfl) rfl, by decide⟩
-- 40: impl.CellMap
instance : TyN Tryz.prog 40 1 := ⟨info_n (by kernel_rfl)⟩
instance : TyAg Tryz.prog 40 1 := ⟨fun w => by kernel_rfl, info_n (by kernel_rfl)⟩
theorem Tryz.z40 : (Tryz.prog.info? 40).map (·.zero) = some (some (.agg #[.slice none 0 0])) := by kernel_rfl
instance : TyZ Tryz.prog 40 [.nil] := ⟨by obtain ⟨i, h1, h2⟩ := info_z Tryz.z40; exact ⟨i, _, h1, h2, rfl⟩⟩
instance : TyE Tryz.prog 40 [.l []] := ⟨by obtain ⟨i, h1, h2⟩ := info_z Tryz.z40; exact ⟨i, _, h1, h2, rfl⟩⟩
instance : TyB Tryz.prog 40 [(0, 1)] := ⟨_, Tryz.underlying40, fun w => by kernel_rfl⟩
instance : TyF Tryz.prog 40 0 0 38 := ⟨_, _, Tryz.underlying40, rfl, rfl, rfl, info_f (n := 1) (by kernel_rfl) (by decide)⟩
-- 41: []impl.Device
instance : TyN Tryz.prog 41 1 := ⟨info_n (by kernel_rfl)⟩
instance : TySc Tryz.prog 41 := ⟨fun w => by kernel_rfl, info_n (by kernel_rfl)⟩
theorem Tryz.z41 : (Tryz.prog.info? 41).map (·.zero) = some (some (.slice none 0 0)) := by kernel_rfl
instance : TyZ Tryz.prog 41 [.nil] := ⟨by obtain ⟨i, h1, h2⟩ := info_z Tryz.z41; exact ⟨i, _, h1, h2, rfl⟩⟩
instance : TyE Tryz.prog 41 [.l []] := ⟨by obtain ⟨i, h1, h2⟩ := info_z Tryz.z41; exact ⟨i, _, h1, h2, rfl⟩⟩
instance : TySl Tryz.prog 41 174 14 144 := ⟨Tryz.underlying41, info_s (z := .agg #[.int .i64 0, .int .i64 0, .int .i64 0, .int .i64 0, .int .i64 0, .int .i64 0, .int .i64 0, .int .i64 0, .int .i64 0, .bool false, .int .i64 0, .int .i64 0, .slice none 0 0, .slice none 0 0]) (by kernel_rfl) rfl, by decide⟩
-- 42: []impl.Session
instance : TyN Tryz.prog 42 1 := ⟨info_n (by kernel_rfl)⟩
instance : TySc Tryz.prog 42 := ⟨fun w => by kernel_rfl, info_n (by kernel_rfl)⟩
theorem Tryz.z42 : (Tryz.prog.info? 42).map (·.zero) = some (some (.slice none 0 0)) := by kernel_rfl
instance : TyZ Tryz.prog 42 [.nil] := ⟨by obtain ⟨i, h1, h2⟩ := info_z Tryz.z42; exact ⟨i, _, h1, h2, rfl⟩⟩
instance : TyE Tryz.prog 42 [.l []] := ⟨by obtain ⟨i, h1, h2⟩ := info_z Tryz.z42; exact ⟨i, _, h1, h2, rfl⟩⟩
instance : TySl Tryz.prog 42 125 30 288 := ⟨Tryz.underlying42, info_s (z := .agg #[.int .i64 0, .int .i64 0, .int .i64 0, .int .i64 0, .int .i64 0, .int .i64 0, .int .i64 0, .slice none 0 0, .int .i64 0, .int .i64 0, .int .i64 0, .int .i64 0, .int .i64 0, .int .i64 0, .int .i64 0, .int .i64 0, .int .i64 0, .int .i64 0, .int .i64 0, .int .i64 0, .int .i64 0, .int .i64 0, .int .i64 0, .slice none 0 0, .int .i64 0, .slice none 0 0, .int .i64 0, .int .i64 0, .int .i64 0, .int .i64 0]) (by kernel_rfl) rfl, by decide⟩
-- 43: []impl.Account
instance : TyN Tryz.prog 43 1 := ⟨info_n (by kernel_rfl)⟩
instance : TySc Tryz.prog 43 := ⟨fun w => by kernel_rfl, info_n (by kernel_rfl)⟩
theorem Tryz.z43 : (Tryz.prog.info? 43).map (·.zero) = some (some (.slice none 0 0)) := by kernel_rfl
instance : TyZ Tryz.prog 43 [.nil] := ⟨by obtain ⟨i, h1, h2⟩ := info_z Tryz.z43; exact ⟨i, _, h1, h2, rfl⟩⟩
instance : TyE Tryz.prog 43 [.l []] := ⟨by obtain ⟨i, h1, h2⟩ := info_z Tryz.z43; exact ⟨i, _, h1, h2, rfl⟩⟩
instance : TySl Tryz.prog 43 179 4 48 := ⟨Tryz.underlying43, info_s (z := .agg #[.int .i64 0, .int .i64 0, .int .i64 0, .slice none 0 0]) (by kernel_rfl) rfl, by decide⟩
-- 44: []impl.Flight
instance : TyN Tryz.prog 44 1 := ⟨info_n (by kernel_rfl)⟩
instance : TySc Tryz.prog 44 := ⟨fun w => by kernel_rfl, info_n (by kernel_rfl)⟩
theorem Tryz.z44 : (Tryz.prog.info? 44).map (·.zero) = some (some (.slice none 0 0)) := by kernel_rfl
instance : TyZ Tryz.prog 44 [.nil] := ⟨by obtain ⟨i, h1, h2⟩ := info_z Tryz.z44; exact ⟨i, _, h1, h2, rfl⟩⟩
instance : TyE Tryz.prog 44 [.l []] := ⟨by obtain ⟨i, h1, h2⟩ := info_z Tryz.z44; exact ⟨i, _, h1, h2, rfl⟩⟩
instance : TySl Tryz.prog 44 84 21 176 := ⟨Tryz.underlying44, info_s (z := .agg #[.int .i64 0, .bool false, .bool false, .int .i64 0, .int .i64 0, .int .i64 0, .int .i64 0, .int .i64 0, .int .i64 0, .int .i64 0, .int .i64 0, .int .i64 0, .int .i64 0, .int .i64 0, .int .i64 0, .int .i64 0, .int .i64 0, .int .i64 0, .int .i64 0, .slice none 0 0, .int .i64 0]) (by kernel_rfl) rfl, by decide⟩
-- 45: impl.ServerPool
instance : TyN Tryz.prog 45 2 := ⟨info_n (by kernel_rfl)⟩
instance : TyAg Tryz.prog 45 2 := ⟨fun w => by kernel_rfl, info_n (by kernel_rfl)⟩
theorem Tryz.z45 : (Tryz.prog.info? 45).map (·.zero) = some (some (.agg #[.int .i64 0, .int .i64 0])) := by kernel_rfl
instance : TyZ Tryz.prog 45 [.d false (.i .i64 0), .d false (.i .i64 0)] := ⟨by obtain ⟨i, h1, h2⟩ := info_z Tryz.z45; exact ⟨i, _, h1, h2, rfl⟩⟩
instance : TyE Tryz.prog 45 [.i .i64 0, .i .i64 0] := ⟨by obtain ⟨i, h1, h2⟩ := info_z Tryz.z45; exact ⟨i, _, h1, h2, rfl⟩⟩
instance : TyB Tryz.prog 45 [(0, 1), (1, 1)] := ⟨_, Tryz.underlying45, fun w => by kernel_rfl⟩
instance : TyF Tryz.prog 45 0 0 3 := ⟨_, _, Tryz.underlying45, rfl, rfl, rfl, info_f (n := 1) (by kernel_rfl) (by decide)⟩
instance : TyF Tryz.prog 45 1 1 3 := ⟨_, _, Tryz.underlying45, rfl, rfl, rfl, info_f (n := 1) (by kernel_rfl) (by decide)⟩
-- 47: impl.Network
instance : TyN Tryz.prog 47 10 := ⟨info_n (by kernel_rfl)⟩
instance : TyAg Tryz.prog 47 10 := ⟨fun w => by kernel_rfl, info_n (by kernel_rfl)⟩
theorem Tryz.z47 : (Tryz.prog.info? 47).map (·.zero) = some (some (.agg #[.slice none 0 0, .slice none 0 0, .slice none 0 0, .slice none 0 0, .slice none 0 0, .int .i64 0, .int .i64 0, .int .i64 0, .int .i64 0, .int .i64 0])) := by kernel_rfl
instance : TyZ Tryz.prog 47 [.nil, .nil, .nil, .nil, .nil, .d false (.i .i64 0), .d false (.i .i64 0), .d false (.i .i64 0), .d false (.i .i64 0), .d false (.i .i64 0)] := ⟨by obtain ⟨i, h1, h2⟩ := info_z Tryz.z47; exact ⟨i, _, h1, h2, rfl⟩⟩
instance : TyE Tryz.prog 47 [.l [], .l [], .l [], .l [], .l [], .i .i64 0, .i .i64 0, .i .i64 0, .i .i64 0, .i .i64 0] := ⟨by obtain ⟨i, h1, h2⟩ := info_z Tryz.z47; exact ⟨i, _, h1, h2, rfl⟩⟩
instance : TyB Tryz.prog 47 [(0, 1), (1, 1), (2, 1), (3, 1), (4, 1), (5, 1), (6, 2), (8, 1), (9, 1)] := ⟨_, Tryz.underlying47, fun w => by kernel_rfl⟩
instance : TyF Tryz.prog 47 0 0 40 := ⟨_, _, Tryz.underlying47, rfl, rfl, rfl, info_f (n := 1) (by kernel_rfl) (by decide)⟩
instance : TyF Tryz.prog 47 1 1 41 := ⟨_, _, Tryz.underlying47, rfl, rfl, rfl, info_f (n := 1) (by kernel_rfl) (by decide)⟩
instance : TyF Tryz.prog 47 2 2 42 := ⟨_, _, Tryz.underlying47, rfl, rfl, rfl, info_f (n := 1) (by kernel_rfl) (by decide)⟩
instance : TyF Tryz.prog 47 3 3 43 := ⟨_, _, Tryz.underlying47, rfl, rfl, rfl, info_f (n := 1) (by kernel_rfl) (by decide)⟩
instance : TyF Tryz.prog 47 4 4 44 := ⟨_, _, Tryz.underlying47, rfl, rfl, rfl, info_f (n := 1) (by kernel_rfl) (by decide)⟩
instance : TyF Tryz.prog 47 5 5 3 := ⟨_, _, Tryz.underlying47, rfl, rfl, rfl, info_f (n := 1) (by kernel_rfl) (by decide)⟩
instance : TyF Tryz.prog 47 6 6 45 := ⟨_, _, Tryz.underlying47, rfl, rfl, rfl, info_f (n := 2) (by kernel_rfl) (by decide)⟩
instance : TyF Tryz.prog 47 7 8 3 := ⟨_, _, Tryz.underlying47, rfl, rfl, rfl, info_f (n := 1) (by kernel_rfl) (by decide)⟩
instance : TyF Tryz.prog 47 8 9 3 := ⟨_, _, Tryz.underlying47, rfl, rfl, rfl, info_f (n := 1) (by kernel_rfl) (by decide)⟩
-- 49: []impl.LeakedKey
instance : TyN Tryz.prog 49 1 := ⟨info_n (by kernel_rfl)⟩
instance : TySc Tryz.prog 49 := ⟨fun w => by kernel_rfl, info_n (by kernel_rfl)⟩
theorem Tryz.z49 : (Tryz.prog.info? 49).map (·.zero) = some (some (.slice none 0 0)) := by kernel_rfl
instance : TyZ Tryz.prog 49 [.nil] := ⟨by obtain ⟨i, h1, h2⟩ := info_z Tryz.z49; exact ⟨i, _, h1, h2, rfl⟩⟩
instance : TyE Tryz.prog 49 [.l []] := ⟨by obtain ⟨i, h1, h2⟩ := info_z Tryz.z49; exact ⟨i, _, h1, h2, rfl⟩⟩
instance : TySl Tryz.prog 49 94 2 32 := ⟨Tryz.underlying49, info_s (z := .agg #[.int .i64 0, .slice none 0 0]) (by kernel_rfl) rfl, by decide⟩
-- 58: []uint8
instance : TyN Tryz.prog 58 1 := ⟨info_n (by kernel_rfl)⟩
instance : TySc Tryz.prog 58 := ⟨fun w => by kernel_rfl, info_n (by kernel_rfl)⟩
theorem Tryz.z58 : (Tryz.prog.info? 58).map (·.zero) = some (some (.slice none 0 0)) := by kernel_rfl
instance : TyZ Tryz.prog 58 [.nil] := ⟨by obtain ⟨i, h1, h2⟩ := info_z Tryz.z58; exact ⟨i, _, h1, h2, rfl⟩⟩
instance : TyE Tryz.prog 58 [.l []] := ⟨by obtain ⟨i, h1, h2⟩ := info_z Tryz.z58; exact ⟨i, _, h1, h2, rfl⟩⟩
instance : TySl Tryz.prog 58 5 1 1 := ⟨Tryz.underlying58, info_s (z := .int .u8 0) (by kernel_rfl) rfl, by decide⟩
-- 72: laws.KeyPath
instance : TyN Tryz.prog 72 1 := ⟨info_n (by kernel_rfl)⟩
instance : TyAg Tryz.prog 72 1 := ⟨fun w => by kernel_rfl, info_n (by kernel_rfl)⟩
theorem Tryz.z72 : (Tryz.prog.info? 72).map (·.zero) = some (some (.agg #[.slice none 0 0])) := by kernel_rfl
instance : TyZ Tryz.prog 72 [.nil] := ⟨by obtain ⟨i, h1, h2⟩ := info_z Tryz.z72; exact ⟨i, _, h1, h2, rfl⟩⟩
instance : TyE Tryz.prog 72 [.l []] := ⟨by obtain ⟨i, h1, h2⟩ := info_z Tryz.z72; exact ⟨i, _, h1, h2, rfl⟩⟩
instance : TyB Tryz.prog 72 [(0, 1)] := ⟨_, Tryz.underlying72, fun w => by kernel_rfl⟩
instance : TyF Tryz.prog 72 0 0 36 := ⟨_, _, Tryz.underlying72, rfl, rfl, rfl, info_f (n := 1) (by kernel_rfl) (by decide)⟩
-- 74: laws.LeakedKey
instance : TyN Tryz.prog 74 2 := ⟨info_n (by kernel_rfl)⟩
instance : TyAg Tryz.prog 74 2 := ⟨fun w => by kernel_rfl, info_n (by kernel_rfl)⟩
theorem Tryz.z74 : (Tryz.prog.info? 74).map (·.zero) = some (some (.agg #[.int .i64 0, .slice none 0 0])) := by kernel_rfl
instance : TyZ Tryz.prog 74 [.d false (.i .i64 0), .nil] := ⟨by obtain ⟨i, h1, h2⟩ := info_z Tryz.z74; exact ⟨i, _, h1, h2, rfl⟩⟩
instance : TyE Tryz.prog 74 [.i .i64 0, .l []] := ⟨by obtain ⟨i, h1, h2⟩ := info_z Tryz.z74; exact ⟨i, _, h1, h2, rfl⟩⟩
instance : TyB Tryz.prog 74 [(0, 1), (1, 1)] := ⟨_, Tryz.underlying74, fun w => by kernel_rfl⟩
instance : TyF Tryz.prog 74 0 0 3 := ⟨_, _, Tryz.underlying74, rfl, rfl, rfl, info_f (n := 1) (by kernel_rfl) (by decide)⟩
instance : TyF Tryz.prog 74 1 1 72 := ⟨_, _, Tryz.underlying74, rfl, rfl, rfl, info_f (n := 1) (by kernel_rfl) (by decide)⟩
-- 76: impl.AuthVector
instance : TyN Tryz.prog 76 5 := ⟨info_n (by kernel_rfl)⟩
instance : TyAg Tryz.prog 76 5 := ⟨fun w => by kernel_rfl, info_n (by kernel_rfl)⟩
theorem Tryz.z76 : (Tryz.prog.info? 76).map (·.zero) = some (some (.agg #[.int .i64 0, .int .i64 0, .int .i64 0, .int .i64 0, .int .i64 0])) := by kernel_rfl
instance : TyZ Tryz.prog 76 [.d false (.i .i64 0), .d false (.i .i64 0), .d false (.i .i64 0), .d false (.i .i64 0), .d false (.i .i64 0)] := ⟨by obtain ⟨i, h1, h2⟩ := info_z Tryz.z76; exact ⟨i, _, h1, h2, rfl⟩⟩
instance : TyE Tryz.prog 76 [.i .i64 0, .i .i64 0, .i .i64 0, .i .i64 0, .i .i64 0] := ⟨by obtain ⟨i, h1, h2⟩ := info_z Tryz.z76; exact ⟨i, _, h1, h2, rfl⟩⟩
instance : TyB Tryz.prog 76 [(0, 1), (1, 1), (2, 1), (3, 1), (4, 1)] := ⟨_, Tryz.underlying76, fun w => by kernel_rfl⟩
instance : TyF Tryz.prog 76 0 0 3 := ⟨_, _, Tryz.underlying76, rfl, rfl, rfl, info_f (n := 1) (by kernel_rfl) (by decide)⟩
instance : TyF Tryz.prog 76 1 1 3 := ⟨_, _, Tryz.underlying76, rfl, rfl, rfl, info_f (n := 1) (by kernel_rfl) (by decide)⟩
instance : TyF Tryz.prog 76 2 2 3 := ⟨_, _, Tryz.underlying76, rfl, rfl, rfl, info_f (n := 1) (by kernel_rfl) (by decide)⟩
instance : TyF Tryz.prog 76 3 3 3 := ⟨_, _, Tryz.underlying76, rfl, rfl, rfl, info_f (n := 1) (by kernel_rfl) (by decide)⟩
instance : TyF Tryz.prog 76 4 4 3 := ⟨_, _, Tryz.underlying76, rfl, rfl, rfl, info_f (n := 1) (by kernel_rfl) (by decide)⟩
-- 78: impl.Signal
instance : TyN Tryz.prog 78 11 := ⟨info_n (by kernel_rfl)⟩
instance : TyAg Tryz.prog 78 11 := ⟨fun w => by kernel_rfl, info_n (by kernel_rfl)⟩
theorem Tryz.z78 : (Tryz.prog.info? 78).map (·.zero) = some (some (.agg #[.int .i64 0, .int .i64 0, .int .i64 0, .int .i64 0, .int .i64 0, .int .i64 0, .int .i64 0, .int .i64 0, .int .i64 0, .int .i64 0, .int .i64 0])) := by kernel_rfl
instance : TyZ Tryz.prog 78 [.d false (.i .i64 0), .d false (.i .i64 0), .d false (.i .i64 0), .d false (.i .i64 0), .d false (.i .i64 0), .d false (.i .i64 0), .d false (.i .i64 0), .d false (.i .i64 0), .d false (.i .i64 0), .d false (.i .i64 0), .d false (.i .i64 0)] := ⟨by obtain ⟨i, h1, h2⟩ := info_z Tryz.z78; exact ⟨i, _, h1, h2, rfl⟩⟩
instance : TyE Tryz.prog 78 [.i .i64 0, .i .i64 0, .i .i64 0, .i .i64 0, .i .i64 0, .i .i64 0, .i .i64 0, .i .i64 0, .i .i64 0, .i .i64 0, .i .i64 0] := ⟨by obtain ⟨i, h1, h2⟩ := info_z Tryz.z78; exact ⟨i, _, h1, h2, rfl⟩⟩
instance : TyB Tryz.prog 78 [(0, 1), (1, 1), (2, 1), (3, 1), (4, 1), (5, 5), (10, 1)] := ⟨_, Tryz.underlying78, fun w => by kernel_rfl⟩
instance : TyF Tryz.prog 78 0 0 3 := ⟨_, _, Tryz.underlying78, rfl, rfl, rfl, info_f (n := 1) (by kernel_rfl) (by decide)⟩
instance : TyF Tryz.prog 78 1 1 3 := ⟨_, _, Tryz.underlying78, rfl, rfl, rfl, info_f (n := 1) (by kernel_rfl) (by decide)⟩
instance : TyF Tryz.prog 78 2 2 3 := ⟨_, _, Tryz.underlying78, rfl, rfl, rfl, info_f (n := 1) (by kernel_rfl) (by decide)⟩
instance : TyF Tryz.prog 78 3 3 3 := ⟨_, _, Tryz.underlying78, rfl, rfl, rfl, info_f (n := 1) (by kernel_rfl) (by decide)⟩
instance : TyF Tryz.prog 78 4 4 3 := ⟨_, _, Tryz.underlying78, rfl, rfl, rfl, info_f (n := 1) (by kernel_rfl) (by decide)⟩
instance : TyF Tryz.prog 78 5 5 76 := ⟨_, _, Tryz.underlying78, rfl, rfl, rfl, info_f (n := 5) (by kernel_rfl) (by decide)⟩
instance : TyF Tryz.prog 78 6 10 3 := ⟨_, _, Tryz.underlying78, rfl, rfl, rfl, info_f (n := 1) (by kernel_rfl) (by decide)⟩
-- 80: impl.SecuredMessage
instance : TyN Tryz.prog 80 4 := ⟨info_n (by kernel_rfl)⟩
instance : TyAg Tryz.prog 80 4 := ⟨fun w => by kernel_rfl, info_n (by kernel_rfl)⟩
theorem Tryz.z80 : (Tryz.prog.info? 80).map (·.zero) = some (some (.agg #[.int .i64 0, .int .i64 0, .slice none 0 0, .int .i64 0])) := by kernel_rfl
instance : TyZ Tryz.prog 80 [.d false (.i .i64 0), .d false (.i .i64 0), .nil, .d false (.i .i64 0)] := ⟨by obtain ⟨i, h1, h2⟩ := info_z Tryz.z80; exact ⟨i, _, h1, h2, rfl⟩⟩
instance : TyE Tryz.prog 80 [.i .i64 0, .i .i64 0, .l [], .i .i64 0] := ⟨by obtain ⟨i, h1, h2⟩ := info_z Tryz.z80; exact ⟨i, _, h1, h2, rfl⟩⟩
instance : TyB Tryz.prog 80 [(0, 1), (1, 1), (2, 1), (3, 1)] := ⟨_, Tryz.underlying80, fun w => by kernel_rfl⟩
instance : TyF Tryz.prog 80 0 0 3 := ⟨_, _, Tryz.underlying80, rfl, rfl, rfl, info_f (n := 1) (by kernel_rfl) (by decide)⟩
instance : TyF Tryz.prog 80 1 1 3 := ⟨_, _, Tryz.underlying80, rfl, rfl, rfl, info_f (n := 1) (by kernel_rfl) (by decide)⟩
instance : TyF Tryz.prog 80 2 2 58 := ⟨_, _, Tryz.underlying80, rfl, rfl, rfl, info_f (n := 1) (by kernel_rfl) (by decide)⟩
instance : TyF Tryz.prog 80 3 3 3 := ⟨_, _, Tryz.underlying80, rfl, rfl, rfl, info_f (n := 1) (by kernel_rfl) (by decide)⟩
-- 82: impl.RadioPacket
instance : TyN Tryz.prog 82 6 := ⟨info_n (by kernel_rfl)⟩
instance : TyAg Tryz.prog 82 6 := ⟨fun w => by kernel_rfl, info_n (by kernel_rfl)⟩
theorem Tryz.z82 : (Tryz.prog.info? 82).map (·.zero) = some (some (.agg #[.int .i64 0, .int .i64 0, .int .i64 0, .int .i64 0, .slice none 0 0, .int .i64 0])) := by kernel_rfl
instance : TyZ Tryz.prog 82 [.d false (.i .i64 0), .d false (.i .i64 0), .d false (.i .i64 0), .d false (.i .i64 0), .nil, .d false (.i .i64 0)] := ⟨by obtain ⟨i, h1, h2⟩ := info_z Tryz.z82; exact ⟨i, _, h1, h2, rfl⟩⟩
instance : TyE Tryz.prog 82 [.i .i64 0, .i .i64 0, .i .i64 0, .i .i64 0, .l [], .i .i64 0] := ⟨by obtain ⟨i, h1, h2⟩ := info_z Tryz.z82; exact ⟨i, _, h1, h2, rfl⟩⟩
instance : TyB Tryz.prog 82 [(0, 1), (1, 1), (2, 4)] := ⟨_, Tryz.underlying82, fun w => by kernel_rfl⟩
instance : TyF Tryz.prog 82 0 0 3 := ⟨_, _, Tryz.underlying82, rfl, rfl, rfl, info_f (n := 1) (by kernel_rfl) (by decide)⟩
instance : TyF Tryz.prog 82 1 1 3 := ⟨_, _, Tryz.underlying82, rfl, rfl, rfl, info_f (n := 1) (by kernel_rfl) (by decide)⟩
instance : TyF Tryz.prog 82 2 2 80 := ⟨_, _, Tryz.underlying82, rfl, rfl, rfl, info_f (n := 4) (by kernel_rfl) (by decide)⟩
-- 84: impl.Flight
instance : TyN Tryz.prog 84 21 := ⟨info_n (by kernel_rfl)⟩
instance : TyAg Tryz.prog 84 21 := ⟨fun w => by kernel_rfl, info_n (by kernel_rfl)⟩
theorem Tryz.z84 : (Tryz.prog.info? 84).map (·.zero) = some (some (.agg #[.int .i64 0, .bool false, .bool false, .int .i64 0, .int .i64 0, .int .i64 0, .int .i64 0, .int .i64 0, .int .i64 0, .int .i64 0, .int .i64 0, .int .i64 0, .int .i64 0, .int .i64 0, .int .i64 0, .int .i64 0, .int .i64 0, .int .i64 0, .int .i64 0, .slice none 0 0, .int .i64 0])) := by kernel_rfl
instance : TyZ Tryz.prog 84 [.d false (.i .i64 0), .d false (.b false), .d false (.b false), .d false (.i .i64 0), .d false (.i .i64 0), .d false (.i .i64 0), .d false (.i .i64 0), .d false (.i .i64 0), .d false (.i .i64 0), .d false (.i .i64 0), .d false (.i .i64 0), .d false (.i .i64 0), .d false (.i .i64 0), .d false (.i .i64 0), .d false (.i .i64 0), .d false (.i .i64 0), .d false (.i .i64 0), .d false (.i .i64 0), .d false (.i .i64 0), .nil, .d false (.i .i64 0)] := ⟨by obtain ⟨i, h1, h2⟩ := info_z Tryz.z84; exact ⟨i, _, h1, h2, rfl⟩⟩
instance : TyE Tryz.prog 84 [.i .i64 0, .b false, .b false, .i .i64 0, .i .i64 0, .i .i64 0, .i .i64 0, .i .i64 0, .i .i64 0, .i .i64 0, .i .i64 0, .i .i64 0, .i .i64 0, .i .i64 0, .i .i64 0, .i .i64 0, .i .i64 0, .i .i64 0, .i .i64 0, .l [], .i .i64 0] := ⟨by obtain ⟨i, h1, h2⟩ := info_z Tryz.z84; exact ⟨i, _, h1, h2, rfl⟩⟩
instance : TyB Tryz.prog 84 [(0, 1), (1, 1), (2, 1), (3, 1), (4, 11), (15, 6)] := ⟨_, Tryz.underlying84, fun w => by kernel_rfl⟩
instance : TyF Tryz.prog 84 0 0 3 := ⟨_, _, Tryz.underlying84, rfl, rfl, rfl, info_f (n := 1) (by kernel_rfl) (by decide)⟩
instance : TyF Tryz.prog 84 1 1 4 := ⟨_, _, Tryz.underlying84, rfl, rfl, rfl, info_f (n := 1) (by kernel_rfl) (by decide)⟩
instance : TyF Tryz.prog 84 2 2 4 := ⟨_, _, Tryz.underlying84, rfl, rfl, rfl, info_f (n := 1) (by kernel_rfl) (by decide)⟩
instance : TyF Tryz.prog 84 3 3 3 := ⟨_, _, Tryz.underlying84, rfl, rfl, rfl, info_f (n := 1) (by kernel_rfl) (by decide)⟩
instance : TyF Tryz.prog 84 4 4 78 := ⟨_, _, Tryz.underlying84, rfl, rfl, rfl, info_f (n := 11) (by kernel_rfl) (by decide)⟩
instance : TyF Tryz.prog 84 5 15 82 := ⟨_, _, Tryz.underlying84, rfl, rfl, rfl, info_f (n := 6) (by kernel_rfl) (by decide)⟩
-- 92: impl.KeyPath
instance : TyN Tryz.prog 92 1 := ⟨info_n (by kernel_rfl)⟩
instance : TyAg Tryz.prog 92 1 := ⟨fun w => by kernel_rfl, info_n (by kernel_rfl)⟩
theorem Tryz.z92 : (Tryz.prog.info? 92).map (·.zero) = some (some (.agg #[.slice none 0 0])) := by kernel_rfl
instance : TyZ Tryz.prog 92 [.nil] := ⟨by obtain ⟨i, h1, h2⟩ := info_z Tryz.z92; exact ⟨i, _, h1, h2, rfl⟩⟩
instance : TyE Tryz.prog 92 [.l []] := ⟨by obtain ⟨i, h1, h2⟩ := info_z Tryz.z92; exact ⟨i, _, h1, h2, rfl⟩⟩
instance : TyB Tryz.prog 92 [(0, 1)] := ⟨_, Tryz.underlying92, fun w => by kernel_rfl⟩
instance : TyF Tryz.prog 92 0 0 36 := ⟨_, _, Tryz.underlying92, rfl, rfl, rfl, info_f (n := 1) (by kernel_rfl) (by decide)⟩
-- 94: impl.LeakedKey
instance : TyN Tryz.prog 94 2 := ⟨info_n (by kernel_rfl)⟩
instance : TyAg Tryz.prog 94 2 := ⟨fun w => by kernel_rfl, info_n (by kernel_rfl)⟩
theorem Tryz.z94 : (Tryz.prog.info? 94).map (·.zero) = some (some (.agg #[.int .i64 0, .slice none 0 0])) := by kernel_rfl
instance : TyZ Tryz.prog 94 [.d false (.i .i64 0), .nil] := ⟨by obtain ⟨i, h1, h2⟩ := info_z Tryz.z94; exact ⟨i, _, h1, h2, rfl⟩⟩
instance : TyE Tryz.prog 94 [.i .i64 0, .l []] := ⟨by obtain ⟨i, h1, h2⟩ := info_z Tryz.z94; exact ⟨i, _, h1, h2, rfl⟩⟩
instance : TyB Tryz.prog 94 [(0, 1), (1, 1)] := ⟨_, Tryz.underlying94, fun w => by kernel_rfl⟩
instance : TyF Tryz.prog 94 0 0 3 := ⟨_, _, Tryz.underlying94, rfl, rfl, rfl, info_f (n := 1) (by kernel_rfl) (by decide)⟩
instance : TyF Tryz.prog 94 1 1 92 := ⟨_, _, Tryz.underlying94, rfl, rfl, rfl, info_f (n := 1) (by kernel_rfl) (by decide)⟩
-- 111: impl.SubscriberID
instance : TyN Tryz.prog 111 2 := ⟨info_n (by kernel_rfl)⟩
instance : TyAg Tryz.prog 111 2 := ⟨fun w => by kernel_rfl, info_n (by kernel_rfl)⟩
theorem Tryz.z111 : (Tryz.prog.info? 111).map (·.zero) = some (some (.agg #[.int .i64 0, .int .i64 0])) := by kernel_rfl
instance : TyZ Tryz.prog 111 [.d false (.i .i64 0), .d false (.i .i64 0)] := ⟨by obtain ⟨i, h1, h2⟩ := info_z Tryz.z111; exact ⟨i, _, h1, h2, rfl⟩⟩
instance : TyE Tryz.prog 111 [.i .i64 0, .i .i64 0] := ⟨by obtain ⟨i, h1, h2⟩ := info_z Tryz.z111; exact ⟨i, _, h1, h2, rfl⟩⟩
instance : TyB Tryz.prog 111 [(0, 1), (1, 1)] := ⟨_, Tryz.underlying111, fun w => by kernel_rfl⟩
instance : TyF Tryz.prog 111 0 0 3 := ⟨_, _, Tryz.underlying111, rfl, rfl, rfl, info_f (n := 1) (by kernel_rfl) (by decide)⟩
instance : TyF Tryz.prog 111 1 1 3 := ⟨_, _, Tryz.underlying111, rfl, rfl, rfl, info_f (n := 1) (by kernel_rfl) (by decide)⟩
-- 113: impl.SubscriberRecord
instance : TyN Tryz.prog 113 4 := ⟨info_n (by kernel_rfl)⟩
instance : TyAg Tryz.prog 113 4 := ⟨fun w => by kernel_rfl, info_n (by kernel_rfl)⟩
theorem Tryz.z113 : (Tryz.prog.info? 113).map (·.zero) = some (some (.agg #[.int .i64 0, .int .i64 0, .int .i64 0, .int .i64 0])) := by kernel_rfl
instance : TyZ Tryz.prog 113 [.d false (.i .i64 0), .d false (.i .i64 0), .d false (.i .i64 0), .d false (.i .i64 0)] := ⟨by obtain ⟨i, h1, h2⟩ := info_z Tryz.z113; exact ⟨i, _, h1, h2, rfl⟩⟩
instance : TyE Tryz.prog 113 [.i .i64 0, .i .i64 0, .i .i64 0, .i .i64 0] := ⟨by obtain ⟨i, h1, h2⟩ := info_z Tryz.z113; exact ⟨i, _, h1, h2, rfl⟩⟩
instance : TyB Tryz.prog 113 [(0, 2), (2, 1), (3, 1)] := ⟨_, Tryz.underlying113, fun w => by kernel_rfl⟩
instance : TyF Tryz.prog 113 0 0 111 := ⟨_, _, Tryz.underlying113, rfl, rfl, rfl, info_f (n := 2) (by kernel_rfl) (by decide)⟩
instance : TyF Tryz.prog 113 1 2 3 := ⟨_, _, Tryz.underlying113, rfl, rfl, rfl, info_f (n := 1) (by kernel_rfl) (by decide)⟩
instance : TyF Tryz.prog 113 2 3 3 := ⟨_, _, Tryz.underlying113, rfl, rfl, rfl, info_f (n := 1) (by kernel_rfl) (by decide)⟩
-- 115: impl.Subscription
instance : TyN Tryz.prog 115 4 := ⟨info_n (by kernel_rfl)⟩
instance : TyAg Tryz.prog 115 4 := ⟨fun w => by kernel_rfl, info_n (by kernel_rfl)⟩
theorem Tryz.z115 : (Tryz.prog.info? 115).map (·.zero) = some (some (.agg #[.int .i64 0, .int .i64 0, .int .i64 0, .slice none 0 0])) := by kernel_rfl
instance : TyZ Tryz.prog 115 [.d false (.i .i64 0), .d false (.i .i64 0), .d false (.i .i64 0), .nil] := ⟨by obtain ⟨i, h1, h2⟩ := info_z Tryz.z115; exact ⟨i, _, h1, h2, rfl⟩⟩
instance : TyE Tryz.prog 115 [.i .i64 0, .i .i64 0, .i .i64 0, .l []] := ⟨by obtain ⟨i, h1, h2⟩ := info_z Tryz.z115; exact ⟨i, _, h1, h2, rfl⟩⟩
instance : TyB Tryz.prog 115 [(0, 1), (1, 1), (2, 1), (3, 1)] := ⟨_, Tryz.underlying115, fun w => by kernel_rfl⟩
instance : TyF Tryz.prog 115 0 0 3 := ⟨_, _, Tryz.underlying115, rfl, rfl, rfl, info_f (n := 1) (by kernel_rfl) (by decide)⟩
instance : TyF Tryz.prog 115 1 1 3 := ⟨_, _, Tryz.underlying115, rfl, rfl, rfl, info_f (n := 1) (by kernel_rfl) (by decide)⟩
instance : TyF Tryz.prog 115 2 2 3 := ⟨_, _, Tryz.underlying115, rfl, rfl, rfl, info_f (n := 1) (by kernel_rfl) (by decide)⟩
instance : TyF Tryz.prog 115 3 3 36 := ⟨_, _, Tryz.underlying115, rfl, rfl, rfl, info_f (n := 1) (by kernel_rfl) (by decide)⟩
-- 117: impl.PagingState
instance : TyN Tryz.prog 117 3 := ⟨info_n (by kernel_rfl)⟩
instance : TyAg Tryz.prog 117 3 := ⟨fun w => by kernel_rfl, info_n (by kernel_rfl)⟩
theorem Tryz.z117 : (Tryz.prog.info? 117).map (·.zero) = some (some (.agg #[.int .i64 0, .int .i64 0, .int .i64 0])) := by kernel_rfl
instance : TyZ Tryz.prog 117 [.d false (.i .i64 0), .d false (.i .i64 0), .d false (.i .i64 0)] := ⟨by obtain ⟨i, h1, h2⟩ := info_z Tryz.z117; exact ⟨i, _, h1, h2, rfl⟩⟩
instance : TyE Tryz.prog 117 [.i .i64 0, .i .i64 0, .i .i64 0] := ⟨by obtain ⟨i, h1, h2⟩ := info_z Tryz.z117; exact ⟨i, _, h1, h2, rfl⟩⟩
instance : TyB Tryz.prog 117 [(0, 1), (1, 1), (2, 1)] := ⟨_, Tryz.underlying117, fun w => by kernel_rfl⟩
instance : TyF Tryz.prog 117 0 0 3 := ⟨_, _, Tryz.underlying117, rfl, rfl, rfl, info_f (n := 1) (by kernel_rfl) (by decide)⟩
instance : TyF Tryz.prog 117 1 1 3 := ⟨_, _, Tryz.underlying117, rfl, rfl, rfl, info_f (n := 1) (by kernel_rfl) (by decide)⟩
instance : TyF Tryz.prog 117 2 2 3 := ⟨_, _, Tryz.underlying117, rfl, rfl, rfl, info_f (n := 1) (by kernel_rfl) (by decide)⟩
-- 118: []impl.Payload
instance : TyN Tryz.prog 118 1 := ⟨info_n (by kernel_rfl)⟩
instance : TySc Tryz.prog 118 := ⟨fun w => by kernel_rfl, info_n (by kernel_rfl)⟩
theorem Tryz.z118 : (Tryz.prog.info? 118).map (·.zero) = some (some (.slice none 0 0)) := by kernel_rfl
instance : TyZ Tryz.prog 118 [.nil] := ⟨by obtain ⟨i, h1, h2⟩ := info_z Tryz.z118; exact ⟨i, _, h1, h2, rfl⟩⟩
instance : TyE Tryz.prog 118 [.l []] := ⟨by obtain ⟨i, h1, h2⟩ := info_z Tryz.z118; exact ⟨i, _, h1, h2, rfl⟩⟩
instance : TySl Tryz.prog 118 241 1 24 := ⟨Tryz.underlying118, info_s (z := .agg #[.slice none 0 0]) (by kernel_rfl) rfl, by decide⟩
-- 119: []impl.NumberedPacket
instance : TyN Tryz.prog 119 1 := ⟨info_n (by kernel_rfl)⟩
instance : TySc Tryz.prog 119 := ⟨fun w => by kernel_rfl, info_n (by kernel_rfl)⟩
theorem Tryz.z119 : (Tryz.prog.info? 119).map (·.zero) = some (some (.slice none 0 0)) := by kernel_rfl
instance : TyZ Tryz.prog 119 [.nil] := ⟨by obtain ⟨i, h1, h2⟩ := info_z Tryz.z119; exact ⟨i, _, h1, h2, rfl⟩⟩
instance : TyE Tryz.prog 119 [.l []] := ⟨by obtain ⟨i, h1, h2⟩ := info_z Tryz.z119; exact ⟨i, _, h1, h2, rfl⟩⟩
instance : TySl Tryz.prog 119 127 2 32 := ⟨Tryz.underlying119, info_s (z := .agg #[.int .i64 0, .slice none 0 0]) (by kernel_rfl) rfl, by decide⟩
-- 121: impl.SendWindow
instance : TyN Tryz.prog 121 2 := ⟨info_n (by kernel_rfl)⟩
instance : TyAg Tryz.prog 121 2 := ⟨fun w => by kernel_rfl, info_n (by kernel_rfl)⟩
theorem Tryz.z121 : (Tryz.prog.info? 121).map (·.zero) = some (some (.agg #[.int .i64 0, .slice none 0 0])) := by kernel_rfl
instance : TyZ Tryz.prog 121 [.d false (.i .i64 0), .nil] := ⟨by obtain ⟨i, h1, h2⟩ := info_z Tryz.z121; exact ⟨i, _, h1, h2, rfl⟩⟩
instance : TyE Tryz.prog 121 [.i .i64 0, .l []] := ⟨by obtain ⟨i, h1, h2⟩ := info_z Tryz.z121; exact ⟨i, _, h1, h2, rfl⟩⟩
instance : TyB Tryz.prog 121 [(0, 1), (1, 1)] := ⟨_, Tryz.underlying121, fun w => by kernel_rfl⟩
instance : TyF Tryz.prog 121 0 0 3 := ⟨_, _, Tryz.underlying121, rfl, rfl, rfl, info_f (n := 1) (by kernel_rfl) (by decide)⟩
instance : TyF Tryz.prog 121 1 1 119 := ⟨_, _, Tryz.underlying121, rfl, rfl, rfl, info_f (n := 1) (by kernel_rfl) (by decide)⟩
-- 123: impl.Quota
instance : TyN Tryz.prog 123 3 := ⟨info_n (by kernel_rfl)⟩
instance : TyAg Tryz.prog 123 3 := ⟨fun w => by kernel_rfl, info_n (by kernel_rfl)⟩
theorem Tryz.z123 : (Tryz.prog.info? 123).map (·.zero) = some (some (.agg #[.int .i64 0, .int .i64 0, .int .i64 0])) := by kernel_rfl
instance : TyZ Tryz.prog 123 [.d false (.i .i64 0), .d false (.i .i64 0), .d false (.i .i64 0)] := ⟨by obtain ⟨i, h1, h2⟩ := info_z Tryz.z123; exact ⟨i, _, h1, h2, rfl⟩⟩
instance : TyE Tryz.prog 123 [.i .i64 0, .i .i64 0, .i .i64 0] := ⟨by obtain ⟨i, h1, h2⟩ := info_z Tryz.z123; exact ⟨i, _, h1, h2, rfl⟩⟩
instance : TyB Tryz.prog 123 [(0, 1), (1, 1), (2, 1)] := ⟨_, Tryz.underlying123, fun w => by kernel_rfl⟩
instance : TyF Tryz.prog 123 0 0 3 := ⟨_, _, Tryz.underlying123, rfl, rfl, rfl, info_f (n := 1) (by kernel_rfl) (by decide)⟩
instance : TyF Tryz.prog 123 1 1 3 := ⟨_, _, Tryz.underlying123, rfl, rfl, rfl, info_f (n := 1) (by kernel_rfl) (by decide)⟩
instance : TyF Tryz.prog 123 2 2 3 := ⟨_, _, Tryz.underlying123, rfl, rfl, rfl, info_f (n := 1) (by kernel_rfl) (by decide)⟩
-- 125: impl.Session
instance : TyN Tryz.prog 125 30 := ⟨info_n (by kernel_rfl)⟩
instance : TyAg Tryz.prog 125 30 := ⟨fun w => by kernel_rfl, info_n (by kernel_rfl)⟩
theorem Tryz.z125 : (Tryz.prog.info? 125).map (·.zero) = some (some (.agg #[.int .i64 0, .int .i64 0, .int .i64 0, .int .i64 0, .int .i64 0, .int .i64 0, .int .i64 0, .slice none 0 0, .int .i64 0, .int .i64 0, .int .i64 0, .int .i64 0, .int .i64 0, .int .i64 0, .int .i64 0, .int .i64 0, .int .i64 0, .int .i64 0, .int .i64 0, .int .i64 0, .int .i64 0, .int .i64 0, .int .i64 0, .slice none 0 0, .int .i64 0, .slice none 0 0, .int .i64 0, .int .i64 0, .int .i64 0, .int .i64 0])) := by kernel_rfl
instance : TyZ Tryz.prog 125 [.d false (.i .i64 0), .d false (.i .i64 0), .d false (.i .i64 0), .d false (.i .i64 0), .d false (.i .i64 0), .d false (.i .i64 0), .d false (.i .i64 0), .nil, .d false (.i .i64 0), .d false (.i .i64 0), .d false (.i .i64 0), .d false (.i .i64 0), .d false (.i .i64 0), .d false (.i .i64 0), .d false (.i .i64 0), .d false (.i .i64 0), .d false (.i .i64 0), .d false (.i .i64 0), .d false (.i .i64 0), .d false (.i .i64 0), .d false (.i .i64 0), .d false (.i .i64 0), .d false (.i .i64 0), .nil, .d false (.i .i64 0), .nil, .d false (.i .i64 0), .d false (.i .i64 0), .d false (.i .i64 0), .d false (.i .i64 0)] := ⟨by obtain ⟨i, h1, h2⟩ := info_z Tryz.z125; exact ⟨i, _, h1, h2, rfl⟩⟩
instance : TyE Tryz.prog 125 [.i .i64 0, .i .i64 0, .i .i64 0, .i .i64 0, .i .i64 0, .i .i64 0, .i .i64 0, .l [], .i .i64 0, .i .i64 0, .i .i64 0, .i .i64 0, .i .i64 0, .i .i64 0, .i .i64 0, .i .i64 0, .i .i64 0, .i .i64 0, .i .i64 0, .i .i64 0, .i .i64 0, .i .i64 0, .i .i64 0, .l [], .i .i64 0, .l [], .i .i64 0, .i .i64 0, .i .i64 0, .i .i64 0] := ⟨by obtain ⟨i, h1, h2⟩ := info_z Tryz.z125; exact ⟨i, _, h1, h2, rfl⟩⟩
instance : TyB Tryz.prog 125 [(0, 4), (4, 4), (8, 1), (9, 5), (14, 1), (15, 1), (16, 1), (17, 1), (18, 1), (19, 1), (20, 3), (23, 1), (24, 2), (26, 1), (27, 3)] := ⟨_, Tryz.underlying125, fun w => by kernel_rfl⟩
instance : TyF Tryz.prog 125 0 0 113 := ⟨_, _, Tryz.underlying125, rfl, rfl, rfl, info_f (n := 4) (by kernel_rfl) (by decide)⟩
instance : TyF Tryz.prog 125 1 4 115 := ⟨_, _, Tryz.underlying125, rfl, rfl, rfl, info_f (n := 4) (by kernel_rfl) (by decide)⟩
instance : TyF Tryz.prog 125 2 8 3 := ⟨_, _, Tryz.underlying125, rfl, rfl, rfl, info_f (n := 1) (by kernel_rfl) (by decide)⟩
instance : TyF Tryz.prog 125 3 9 76 := ⟨_, _, Tryz.underlying125, rfl, rfl, rfl, info_f (n := 5) (by kernel_rfl) (by decide)⟩
instance : TyF Tryz.prog 125 4 14 3 := ⟨_, _, Tryz.underlying125, rfl, rfl, rfl, info_f (n := 1) (by kernel_rfl) (by decide)⟩
instance : TyF Tryz.prog 125 5 15 3 := ⟨_, _, Tryz.underlying125, rfl, rfl, rfl, info_f (n := 1) (by kernel_rfl) (by decide)⟩
instance : TyF Tryz.prog 125 6 16 3 := ⟨_, _, Tryz.underlying125, rfl, rfl, rfl, info_f (n := 1) (by kernel_rfl) (by decide)⟩
instance : TyF Tryz.prog 125 7 17 3 := ⟨_, _, Tryz.underlying125, rfl, rfl, rfl, info_f (n := 1) (by kernel_rfl) (by decide)⟩
instance : TyF Tryz.prog 125 8 18 3 := ⟨_, _, Tryz.underlying125, rfl, rfl, rfl, info_f (n := 1) (by kernel_rfl) (by decide)⟩
instance : TyF Tryz.prog 125 9 19 3 := ⟨_, _, Tryz.underlying125, rfl, rfl, rfl, info_f (n := 1) (by kernel_rfl) (by decide)⟩
instance : TyF Tryz.prog 125 10 20 117 := ⟨_, _, Tryz.underlying125, rfl, rfl, rfl, info_f (n := 3) (by kernel_rfl) (by decide)⟩
instance : TyF Tryz.prog 125 11 23 118 := ⟨_, _, Tryz.underlying125, rfl, rfl, rfl, info_f (n := 1) (by kernel_rfl) (by decide)⟩
instance : TyF Tryz.prog 125 12 24 121 := ⟨_, _, Tryz.underlying125, rfl, rfl, rfl, info_f (n := 2) (by kernel_rfl) (by decide)⟩
instance : TyF Tryz.prog 125 13 26 3 := ⟨_, _, Tryz.underlying125, rfl, rfl, rfl, info_f (n := 1) (by kernel_rfl) (by decide)⟩
instance : TyF Tryz.prog 125 14 27 123 := ⟨_, _, Tryz.underlying125, rfl, rfl, rfl, info_f (n := 3) (by kernel_rfl) (by decide)⟩
-- 127: impl.NumberedPacket
instance : TyN Tryz.prog 127 2 := ⟨info_n (by kernel_rfl)⟩
instance : TyAg Tryz.prog 127 2 := ⟨fun w => by kernel_rfl, info_n (by kernel_rfl)⟩
theorem Tryz.z127 : (Tryz.prog.info? 127).map (·.zero) = some (some (.agg #[.int .i64 0, .slice none 0 0])) := by kernel_rfl
instance : TyZ Tryz.prog 127 [.d false (.i .i64 0), .nil] := ⟨by obtain ⟨i, h1, h2⟩ := info_z Tryz.z127; exact ⟨i, _, h1, h2, rfl⟩⟩
instance : TyE Tryz.prog 127 [.i .i64 0, .l []] := ⟨by obtain ⟨i, h1, h2⟩ := info_z Tryz.z127; exact ⟨i, _, h1, h2, rfl⟩⟩
instance : TyB Tryz.prog 127 [(0, 1), (1, 1)] := ⟨_, Tryz.underlying127, fun w => by kernel_rfl⟩
instance : TyF Tryz.prog 127 0 0 3 := ⟨_, _, Tryz.underlying127, rfl, rfl, rfl, info_f (n := 1) (by kernel_rfl) (by decide)⟩
instance : TyF Tryz.prog 127 1 1 58 := ⟨_, _, Tryz.underlying127, rfl, rfl, rfl, info_f (n := 1) (by kernel_rfl) (by decide)⟩
-- 133: laws.SubscriberID
instance : TyN Tryz.prog 133 2 := ⟨info_n (by kernel_rfl)⟩
instance : TyAg Tryz.prog 133 2 := ⟨fun w => by kernel_rfl, info_n (by kernel_rfl)⟩
theorem Tryz.z133 : (Tryz.prog.info? 133).map (·.zero) = some (some (.agg #[.int .i64 0, .int .i64 0])) := by kernel_rfl
instance : TyZ Tryz.prog 133 [.d false (.i .i64 0), .d false (.i .i64 0)] := ⟨by obtain ⟨i, h1, h2⟩ := info_z Tryz.z133; exact ⟨i, _, h1, h2, rfl⟩⟩
instance : TyE Tryz.prog 133 [.i .i64 0, .i .i64 0] := ⟨by obtain ⟨i, h1, h2⟩ := info_z Tryz.z133; exact ⟨i, _, h1, h2, rfl⟩⟩
instance : TyB Tryz.prog 133 [(0, 1), (1, 1)] := ⟨_, Tryz.underlying133, fun w => by kernel_rfl⟩
instance : TyF Tryz.prog 133 0 0 3 := ⟨_, _, Tryz.underlying133, rfl, rfl, rfl, info_f (n := 1) (by kernel_rfl) (by decide)⟩
instance : TyF Tryz.prog 133 1 1 3 := ⟨_, _, Tryz.underlying133, rfl, rfl, rfl, info_f (n := 1) (by kernel_rfl) (by decide)⟩
-- 135: laws.USIM
instance : TyN Tryz.prog 135 4 := ⟨info_n (by kernel_rfl)⟩
instance : TyAg Tryz.prog 135 4 := ⟨fun w => by kernel_rfl, info_n (by kernel_rfl)⟩
theorem Tryz.z135 : (Tryz.prog.info? 135).map (·.zero) = some (some (.agg #[.int .i64 0, .int .i64 0, .int .i64 0, .int .i64 0])) := by kernel_rfl
instance : TyZ Tryz.prog 135 [.d false (.i .i64 0), .d false (.i .i64 0), .d false (.i .i64 0), .d false (.i .i64 0)] := ⟨by obtain ⟨i, h1, h2⟩ := info_z Tryz.z135; exact ⟨i, _, h1, h2, rfl⟩⟩
instance : TyE Tryz.prog 135 [.i .i64 0, .i .i64 0, .i .i64 0, .i .i64 0] := ⟨by obtain ⟨i, h1, h2⟩ := info_z Tryz.z135; exact ⟨i, _, h1, h2, rfl⟩⟩
instance : TyB Tryz.prog 135 [(0, 2), (2, 1), (3, 1)] := ⟨_, Tryz.underlying135, fun w => by kernel_rfl⟩
instance : TyF Tryz.prog 135 0 0 133 := ⟨_, _, Tryz.underlying135, rfl, rfl, rfl, info_f (n := 2) (by kernel_rfl) (by decide)⟩
instance : TyF Tryz.prog 135 1 2 3 := ⟨_, _, Tryz.underlying135, rfl, rfl, rfl, info_f (n := 1) (by kernel_rfl) (by decide)⟩
instance : TyF Tryz.prog 135 2 3 3 := ⟨_, _, Tryz.underlying135, rfl, rfl, rfl, info_f (n := 1) (by kernel_rfl) (by decide)⟩
-- 136: []laws.NumberedPacket
instance : TyN Tryz.prog 136 1 := ⟨info_n (by kernel_rfl)⟩
instance : TySc Tryz.prog 136 := ⟨fun w => by kernel_rfl, info_n (by kernel_rfl)⟩
theorem Tryz.z136 : (Tryz.prog.info? 136).map (·.zero) = some (some (.slice none 0 0)) := by kernel_rfl
instance : TyZ Tryz.prog 136 [.nil] := ⟨by obtain ⟨i, h1, h2⟩ := info_z Tryz.z136; exact ⟨i, _, h1, h2, rfl⟩⟩
instance : TyE Tryz.prog 136 [.l []] := ⟨by obtain ⟨i, h1, h2⟩ := info_z Tryz.z136; exact ⟨i, _, h1, h2, rfl⟩⟩
instance : TySl Tryz.prog 136 288 2 32 := ⟨Tryz.underlying136, info_s (z := .agg #[.int .i64 0, .slice none 0 0]) (by kernel_rfl) rfl, by decide⟩
-- 137: []laws.Payload
instance : TyN Tryz.prog 137 1 := ⟨info_n (by kernel_rfl)⟩
instance : TySc Tryz.prog 137 := ⟨fun w => by kernel_rfl, info_n (by kernel_rfl)⟩
theorem Tryz.z137 : (Tryz.prog.info? 137).map (·.zero) = some (some (.slice none 0 0)) := by kernel_rfl
instance : TyZ Tryz.prog 137 [.nil] := ⟨by obtain ⟨i, h1, h2⟩ := info_z Tryz.z137; exact ⟨i, _, h1, h2, rfl⟩⟩
instance : TyE Tryz.prog 137 [.l []] := ⟨by obtain ⟨i, h1, h2⟩ := info_z Tryz.z137; exact ⟨i, _, h1, h2, rfl⟩⟩
instance : TySl Tryz.prog 137 258 1 24 := ⟨Tryz.underlying137, info_s (z := .agg #[.slice none 0 0]) (by kernel_rfl) rfl, by decide⟩
-- 139: laws.ReceiveWindow
instance : TyN Tryz.prog 139 3 := ⟨info_n (by kernel_rfl)⟩
instance : TyAg Tryz.prog 139 3 := ⟨fun w => by kernel_rfl, info_n (by kernel_rfl)⟩
theorem Tryz.z139 : (Tryz.prog.info? 139).map (·.zero) = some (some (.agg #[.int .i64 0, .slice none 0 0, .slice none 0 0])) := by kernel_rfl
instance : TyZ Tryz.prog 139 [.d false (.i .i64 0), .nil, .nil] := ⟨by obtain ⟨i, h1, h2⟩ := info_z Tryz.z139; exact ⟨i, _, h1, h2, rfl⟩⟩
instance : TyE Tryz.prog 139 [.i .i64 0, .l [], .l []] := ⟨by obtain ⟨i, h1, h2⟩ := info_z Tryz.z139; exact ⟨i, _, h1, h2, rfl⟩⟩
instance : TyB Tryz.prog 139 [(0, 1), (1, 1), (2, 1)] := ⟨_, Tryz.underlying139, fun w => by kernel_rfl⟩
instance : TyF Tryz.prog 139 0 0 3 := ⟨_, _, Tryz.underlying139, rfl, rfl, rfl, info_f (n := 1) (by kernel_rfl) (by decide)⟩
instance : TyF Tryz.prog 139 1 1 136 := ⟨_, _, Tryz.underlying139, rfl, rfl, rfl, info_f (n := 1) (by kernel_rfl) (by decide)⟩
instance : TyF Tryz.prog 139 2 2 137 := ⟨_, _, Tryz.underlying139, rfl, rfl, rfl, info_f (n := 1) (by kernel_rfl) (by decide)⟩
-- 141: laws.Device
instance : TyN Tryz.prog 141 14 := ⟨info_n (by kernel_rfl)⟩
instance : TyAg Tryz.prog 141 14 := ⟨fun w => by kernel_rfl, info_n (by kernel_rfl)⟩
theorem Tryz.z141 : (Tryz.prog.info? 141).map (·.zero) = some (some (.agg #[.int .i64 0, .int .i64 0, .int .i64 0, .int .i64 0, .int .i64 0, .int .i64 0, .int .i64 0, .int .i64 0, .int .i64 0, .bool false, .int .i64 0, .int .i64 0, .slice none 0 0, .slice none 0 0])) := by kernel_rfl
instance : TyZ Tryz.prog 141 [.d false (.i .i64 0), .d false (.i .i64 0), .d false (.i .i64 0), .d false (.i .i64 0), .d false (.i .i64 0), .d false (.i .i64 0), .d false (.i .i64 0), .d false (.i .i64 0), .d false (.i .i64 0), .d false (.b false), .d false (.i .i64 0), .d false (.i .i64 0), .nil, .nil] := ⟨by obtain ⟨i, h1, h2⟩ := info_z Tryz.z141; exact ⟨i, _, h1, h2, rfl⟩⟩
instance : TyE Tryz.prog 141 [.i .i64 0, .i .i64 0, .i .i64 0, .i .i64 0, .i .i64 0, .i .i64 0, .i .i64 0, .i .i64 0, .i .i64 0, .b false, .i .i64 0, .i .i64 0, .l [], .l []] := ⟨by obtain ⟨i, h1, h2⟩ := info_z Tryz.z141; exact ⟨i, _, h1, h2, rfl⟩⟩
instance : TyB Tryz.prog 141 [(0, 4), (4, 1), (5, 1), (6, 1), (7, 1), (8, 1), (9, 1), (10, 1), (11, 3)] := ⟨_, Tryz.underlying141, fun w => by kernel_rfl⟩
instance : TyF Tryz.prog 141 0 0 135 := ⟨_, _, Tryz.underlying141, rfl, rfl, rfl, info_f (n := 4) (by kernel_rfl) (by decide)⟩
instance : TyF Tryz.prog 141 1 4 3 := ⟨_, _, Tryz.underlying141, rfl, rfl, rfl, info_f (n := 1) (by kernel_rfl) (by decide)⟩
instance : TyF Tryz.prog 141 2 5 3 := ⟨_, _, Tryz.underlying141, rfl, rfl, rfl, info_f (n := 1) (by kernel_rfl) (by decide)⟩
instance : TyF Tryz.prog 141 3 6 3 := ⟨_, _, Tryz.underlying141, rfl, rfl, rfl, info_f (n := 1) (by kernel_rfl) (by decide)⟩
instance : TyF Tryz.prog 141 4 7 3 := ⟨_, _, Tryz.underlying141, rfl, rfl, rfl, info_f (n := 1) (by kernel_rfl) (by decide)⟩
instance : TyF Tryz.prog 141 5 8 3 := ⟨_, _, Tryz.underlying141, rfl, rfl, rfl, info_f (n := 1) (by kernel_rfl) (by decide)⟩
instance : TyF Tryz.prog 141 6 9 4 := ⟨_, _, Tryz.underlying141, rfl, rfl, rfl, info_f (n := 1) (by kernel_rfl) (by decide)⟩
instance : TyF Tryz.prog 141 7 10 3 := ⟨_, _, Tryz.underlying141, rfl, rfl, rfl, info_f (n := 1) (by kernel_rfl) (by decide)⟩
instance : TyF Tryz.prog 141 8 11 139 := ⟨_, _, Tryz.underlying141, rfl, rfl, rfl, info_f (n := 3) (by kernel_rfl) (by decide)⟩
-- 144: laws.SubscriberRecord
instance : TyN Tryz.prog 144 4 := ⟨info_n (by kernel_rfl)⟩
instance : TyAg Tryz.prog 144 4 := ⟨fun w => by kernel_rfl, info_n (by kernel_rfl)⟩
theorem Tryz.z144 : (Tryz.prog.info? 144).map (·.zero) = some (some (.agg #[.int .i64 0, .int .i64 0, .int .i64 0, .int .i64 0])) := by kernel_rfl
instance : TyZ Tryz.prog 144 [.d false (.i .i64 0), .d false (.i .i64 0), .d false (.i .i64 0), .d false (.i .i64 0)] := ⟨by obtain ⟨i, h1, h2⟩ := info_z Tryz.z144; exact ⟨i, _, h1, h2, rfl⟩⟩
instance : TyE Tryz.prog 144 [.i .i64 0, .i .i64 0, .i .i64 0, .i .i64 0] := ⟨by obtain ⟨i, h1, h2⟩ := info_z Tryz.z144; exact ⟨i, _, h1, h2, rfl⟩⟩
instance : TyB Tryz.prog 144 [(0, 2), (2, 1), (3, 1)] := ⟨_, Tryz.underlying144, fun w => by kernel_rfl⟩
instance : TyF Tryz.prog 144 0 0 133 := ⟨_, _, Tryz.underlying144, rfl, rfl, rfl, info_f (n := 2) (by kernel_rfl) (by decide)⟩
instance : TyF Tryz.prog 144 1 2 3 := ⟨_, _, Tryz.underlying144, rfl, rfl, rfl, info_f (n := 1) (by kernel_rfl) (by decide)⟩
instance : TyF Tryz.prog 144 2 3 3 := ⟨_, _, Tryz.underlying144, rfl, rfl, rfl, info_f (n := 1) (by kernel_rfl) (by decide)⟩
-- 145: laws.Subscription
instance : TyN Tryz.prog 145 4 := ⟨info_n (by kernel_rfl)⟩
instance : TyAg Tryz.prog 145 4 := ⟨fun w => by kernel_rfl, info_n (by kernel_rfl)⟩
theorem Tryz.z145 : (Tryz.prog.info? 145).map (·.zero) = some (some (.agg #[.int .i64 0, .int .i64 0, .int .i64 0, .slice none 0 0])) := by kernel_rfl
instance : TyZ Tryz.prog 145 [.d false (.i .i64 0), .d false (.i .i64 0), .d false (.i .i64 0), .nil] := ⟨by obtain ⟨i, h1, h2⟩ := info_z Tryz.z145; exact ⟨i, _, h1, h2, rfl⟩⟩
instance : TyE Tryz.prog 145 [.i .i64 0, .i .i64 0, .i .i64 0, .l []] := ⟨by obtain ⟨i, h1, h2⟩ := info_z Tryz.z145; exact ⟨i, _, h1, h2, rfl⟩⟩
instance : TyB Tryz.prog 145 [(0, 1), (1, 1), (2, 1), (3, 1)] := ⟨_, Tryz.underlying145, fun w => by kernel_rfl⟩
instance : TyF Tryz.prog 145 0 0 3 := ⟨_, _, Tryz.underlying145, rfl, rfl, rfl, info_f (n := 1) (by kernel_rfl) (by decide)⟩
instance : TyF Tryz.prog 145 1 1 3 := ⟨_, _, Tryz.underlying145, rfl, rfl, rfl, info_f (n := 1) (by kernel_rfl) (by decide)⟩
instance : TyF Tryz.prog 145 2 2 3 := ⟨_, _, Tryz.underlying145, rfl, rfl, rfl, info_f (n := 1) (by kernel_rfl) (by decide)⟩
instance : TyF Tryz.prog 145 3 3 36 := ⟨_, _, Tryz.underlying145, rfl, rfl, rfl, info_f (n := 1) (by kernel_rfl) (by decide)⟩
-- 146: laws.AuthVector
instance : TyN Tryz.prog 146 5 := ⟨info_n (by kernel_rfl)⟩
instance : TyAg Tryz.prog 146 5 := ⟨fun w => by kernel_rfl, info_n (by kernel_rfl)⟩
theorem Tryz.z146 : (Tryz.prog.info? 146).map (·.zero) = some (some (.agg #[.int .i64 0, .int .i64 0, .int .i64 0, .int .i64 0, .int .i64 0])) := by kernel_rfl
instance : TyZ Tryz.prog 146 [.d false (.i .i64 0), .d false (.i .i64 0), .d false (.i .i64 0), .d false (.i .i64 0), .d false (.i .i64 0)] := ⟨by obtain ⟨i, h1, h2⟩ := info_z Tryz.z146; exact ⟨i, _, h1, h2, rfl⟩⟩
instance : TyE Tryz.prog 146 [.i .i64 0, .i .i64 0, .i .i64 0, .i .i64 0, .i .i64 0] := ⟨by obtain ⟨i, h1, h2⟩ := info_z Tryz.z146; exact ⟨i, _, h1, h2, rfl⟩⟩
instance : TyB Tryz.prog 146 [(0, 1), (1, 1), (2, 1), (3, 1), (4, 1)] := ⟨_, Tryz.underlying146, fun w => by kernel_rfl⟩
instance : TyF Tryz.prog 146 0 0 3 := ⟨_, _, Tryz.underlying146, rfl, rfl, rfl, info_f (n := 1) (by kernel_rfl) (by decide)⟩
instance : TyF Tryz.prog 146 1 1 3 := ⟨_, _, Tryz.underlying146, rfl, rfl, rfl, info_f (n := 1) (by kernel_rfl) (by decide)⟩
instance : TyF Tryz.prog 146 2 2 3 := ⟨_, _, Tryz.underlying146, rfl, rfl, rfl, info_f (n := 1) (by kernel_rfl) (by decide)⟩
instance : TyF Tryz.prog 146 3 3 3 := ⟨_, _, Tryz.underlying146, rfl, rfl, rfl, info_f (n := 1) (by kernel_rfl) (by decide)⟩
instance : TyF Tryz.prog 146 4 4 3 := ⟨_, _, Tryz.underlying146, rfl, rfl, rfl, info_f (n := 1) (by kernel_rfl) (by decide)⟩
-- 147: laws.PagingState
instance : TyN Tryz.prog 147 3 := ⟨info_n (by kernel_rfl)⟩
instance : TyAg Tryz.prog 147 3 := ⟨fun w => by kernel_rfl, info_n (by kernel_rfl)⟩
theorem Tryz.z147 : (Tryz.prog.info? 147).map (·.zero) = some (some (.agg #[.int .i64 0, .int .i64 0, .int .i64 0])) := by kernel_rfl
instance : TyZ Tryz.prog 147 [.d false (.i .i64 0), .d false (.i .i64 0), .d false (.i .i64 0)] := ⟨by obtain ⟨i, h1, h2⟩ := info_z Tryz.z147; exact ⟨i, _, h1, h2, rfl⟩⟩
instance : TyE Tryz.prog 147 [.i .i64 0, .i .i64 0, .i .i64 0] := ⟨by obtain ⟨i, h1, h2⟩ := info_z Tryz.z147; exact ⟨i, _, h1, h2, rfl⟩⟩
instance : TyB Tryz.prog 147 [(0, 1), (1, 1), (2, 1)] := ⟨_, Tryz.underlying147, fun w => by kernel_rfl⟩
instance : TyF Tryz.prog 147 0 0 3 := ⟨_, _, Tryz.underlying147, rfl, rfl, rfl, info_f (n := 1) (by kernel_rfl) (by decide)⟩
instance : TyF Tryz.prog 147 1 1 3 := ⟨_, _, Tryz.underlying147, rfl, rfl, rfl, info_f (n := 1) (by kernel_rfl) (by decide)⟩
instance : TyF Tryz.prog 147 2 2 3 := ⟨_, _, Tryz.underlying147, rfl, rfl, rfl, info_f (n := 1) (by kernel_rfl) (by decide)⟩
-- 149: laws.SendWindow
instance : TyN Tryz.prog 149 2 := ⟨info_n (by kernel_rfl)⟩
instance : TyAg Tryz.prog 149 2 := ⟨fun w => by kernel_rfl, info_n (by kernel_rfl)⟩
theorem Tryz.z149 : (Tryz.prog.info? 149).map (·.zero) = some (some (.agg #[.int .i64 0, .slice none 0 0])) := by kernel_rfl
instance : TyZ Tryz.prog 149 [.d false (.i .i64 0), .nil] := ⟨by obtain ⟨i, h1, h2⟩ := info_z Tryz.z149; exact ⟨i, _, h1, h2, rfl⟩⟩
instance : TyE Tryz.prog 149 [.i .i64 0, .l []] := ⟨by obtain ⟨i, h1, h2⟩ := info_z Tryz.z149; exact ⟨i, _, h1, h2, rfl⟩⟩
instance : TyB Tryz.prog 149 [(0, 1), (1, 1)] := ⟨_, Tryz.underlying149, fun w => by kernel_rfl⟩
instance : TyF Tryz.prog 149 0 0 3 := ⟨_, _, Tryz.underlying149, rfl, rfl, rfl, info_f (n := 1) (by kernel_rfl) (by decide)⟩
instance : TyF Tryz.prog 149 1 1 136 := ⟨_, _, Tryz.underlying149, rfl, rfl, rfl, info_f (n := 1) (by kernel_rfl) (by decide)⟩
-- 150: laws.Quota
instance : TyN Tryz.prog 150 3 := ⟨info_n (by kernel_rfl)⟩
instance : TyAg Tryz.prog 150 3 := ⟨fun w => by kernel_rfl, info_n (by kernel_rfl)⟩
theorem Tryz.z150 : (Tryz.prog.info? 150).map (·.zero) = some (some (.agg #[.int .i64 0, .int .i64 0, .int .i64 0])) := by kernel_rfl
instance : TyZ Tryz.prog 150 [.d false (.i .i64 0), .d false (.i .i64 0), .d false (.i .i64 0)] := ⟨by obtain ⟨i, h1, h2⟩ := info_z Tryz.z150; exact ⟨i, _, h1, h2, rfl⟩⟩
instance : TyE Tryz.prog 150 [.i .i64 0, .i .i64 0, .i .i64 0] := ⟨by obtain ⟨i, h1, h2⟩ := info_z Tryz.z150; exact ⟨i, _, h1, h2, rfl⟩⟩
instance : TyB Tryz.prog 150 [(0, 1), (1, 1), (2, 1)] := ⟨_, Tryz.underlying150, fun w => by kernel_rfl⟩
instance : TyF Tryz.prog 150 0 0 3 := ⟨_, _, Tryz.underlying150, rfl, rfl, rfl, info_f (n := 1) (by kernel_rfl) (by decide)⟩
instance : TyF Tryz.prog 150 1 1 3 := ⟨_, _, Tryz.underlying150, rfl, rfl, rfl, info_f (n := 1) (by kernel_rfl) (by decide)⟩
instance : TyF Tryz.prog 150 2 2 3 := ⟨_, _, Tryz.underlying150, rfl, rfl, rfl, info_f (n := 1) (by kernel_rfl) (by decide)⟩
-- 152: laws.Session
instance : TyN Tryz.prog 152 30 := ⟨info_n (by kernel_rfl)⟩
instance : TyAg Tryz.prog 152 30 := ⟨fun w => by kernel_rfl, info_n (by kernel_rfl)⟩
theorem Tryz.z152 : (Tryz.prog.info? 152).map (·.zero) = some (some (.agg #[.int .i64 0, .int .i64 0, .int .i64 0, .int .i64 0, .int .i64 0, .int .i64 0, .int .i64 0, .slice none 0 0, .int .i64 0, .int .i64 0, .int .i64 0, .int .i64 0, .int .i64 0, .int .i64 0, .int .i64 0, .int .i64 0, .int .i64 0, .int .i64 0, .int .i64 0, .int .i64 0, .int .i64 0, .int .i64 0, .int .i64 0, .slice none 0 0, .int .i64 0, .slice none 0 0, .int .i64 0, .int .i64 0, .int .i64 0, .int .i64 0])) := by kernel_rfl
instance : TyZ Tryz.prog 152 [.d false (.i .i64 0), .d false (.i .i64 0), .d false (.i .i64 0), .d false (.i .i64 0), .d false (.i .i64 0), .d false (.i .i64 0), .d false (.i .i64 0), .nil, .d false (.i .i64 0), .d false (.i .i64 0), .d false (.i .i64 0), .d false (.i .i64 0), .d false (.i .i64 0), .d false (.i .i64 0), .d false (.i .i64 0), .d false (.i .i64 0), .d false (.i .i64 0), .d false (.i .i64 0), .d false (.i .i64 0), .d false (.i .i64 0), .d false (.i .i64 0), .d false (.i .i64 0), .d false (.i .i64 0), .nil, .d false (.i .i64 0), .nil, .d false (.i .i64 0), .d false (.i .i64 0), .d false (.i .i64 0), .d false (.i .i64 0)] := ⟨by obtain ⟨i, h1, h2⟩ := info_z Tryz.z152; exact ⟨i, _, h1, h2, rfl⟩⟩
instance : TyE Tryz.prog 152 [.i .i64 0, .i .i64 0, .i .i64 0, .i .i64 0, .i .i64 0, .i .i64 0, .i .i64 0, .l [], .i .i64 0, .i .i64 0, .i .i64 0, .i .i64 0, .i .i64 0, .i .i64 0, .i .i64 0, .i .i64 0, .i .i64 0, .i .i64 0, .i .i64 0, .i .i64 0, .i .i64 0, .i .i64 0, .i .i64 0, .l [], .i .i64 0, .l [], .i .i64 0, .i .i64 0, .i .i64 0, .i .i64 0] := ⟨by obtain ⟨i, h1, h2⟩ := info_z Tryz.z152; exact ⟨i, _, h1, h2, rfl⟩⟩
instance : TyB Tryz.prog 152 [(0, 4), (4, 4), (8, 1), (9, 5), (14, 1), (15, 1), (16, 1), (17, 1), (18, 1), (19, 1), (20, 3), (23, 1), (24, 2), (26, 1), (27, 3)] := ⟨_, Tryz.underlying152, fun w => by kernel_rfl⟩
instance : TyF Tryz.prog 152 0 0 144 := ⟨_, _, Tryz.underlying152, rfl, rfl, rfl, info_f (n := 4) (by kernel_rfl) (by decide)⟩
instance : TyF Tryz.prog 152 1 4 145 := ⟨_, _, Tryz.underlying152, rfl, rfl, rfl, info_f (n := 4) (by kernel_rfl) (by decide)⟩
instance : TyF Tryz.prog 152 2 8 3 := ⟨_, _, Tryz.underlying152, rfl, rfl, rfl, info_f (n := 1) (by kernel_rfl) (by decide)⟩
instance : TyF Tryz.prog 152 3 9 146 := ⟨_, _, Tryz.underlying152, rfl, rfl, rfl, info_f (n := 5) (by kernel_rfl) (by decide)⟩
instance : TyF Tryz.prog 152 4 14 3 := ⟨_, _, Tryz.underlying152, rfl, rfl, rfl, info_f (n := 1) (by kernel_rfl) (by decide)⟩
instance : TyF Tryz.prog 152 5 15 3 := ⟨_, _, Tryz.underlying152, rfl, rfl, rfl, info_f (n := 1) (by kernel_rfl) (by decide)⟩
instance : TyF Tryz.prog 152 6 16 3 := ⟨_, _, Tryz.underlying152, rfl, rfl, rfl, info_f (n := 1) (by kernel_rfl) (by decide)⟩
instance : TyF Tryz.prog 152 7 17 3 := ⟨_, _, Tryz.underlying152, rfl, rfl, rfl, info_f (n := 1) (by kernel_rfl) (by decide)⟩
instance : TyF Tryz.prog 152 8 18 3 := ⟨_, _, Tryz.underlying152, rfl, rfl, rfl, info_f (n := 1) (by kernel_rfl) (by decide)⟩
instance : TyF Tryz.prog 152 9 19 3 := ⟨_, _, Tryz.underlying152, rfl, rfl, rfl, info_f (n := 1) (by kernel_rfl) (by decide)⟩
instance : TyF Tryz.prog 152 10 20 147 := ⟨_, _, Tryz.underlying152, rfl, rfl, rfl, info_f (n := 3) (by kernel_rfl) (by decide)⟩
instance : TyF Tryz.prog 152 11 23 137 := ⟨_, _, Tryz.underlying152, rfl, rfl, rfl, info_f (n := 1) (by kernel_rfl) (by decide)⟩
instance : TyF Tryz.prog 152 12 24 149 := ⟨_, _, Tryz.underlying152, rfl, rfl, rfl, info_f (n := 2) (by kernel_rfl) (by decide)⟩
instance : TyF Tryz.prog 152 13 26 3 := ⟨_, _, Tryz.underlying152, rfl, rfl, rfl, info_f (n := 1) (by kernel_rfl) (by decide)⟩
instance : TyF Tryz.prog 152 14 27 150 := ⟨_, _, Tryz.underlying152, rfl, rfl, rfl, info_f (n := 3) (by kernel_rfl) (by decide)⟩
-- 154: []laws.Reservation
instance : TyN Tryz.prog 154 1 := ⟨info_n (by kernel_rfl)⟩
instance : TySc Tryz.prog 154 := ⟨fun w => by kernel_rfl, info_n (by kernel_rfl)⟩
theorem Tryz.z154 : (Tryz.prog.info? 154).map (·.zero) = some (some (.slice none 0 0)) := by kernel_rfl
instance : TyZ Tryz.prog 154 [.nil] := ⟨by obtain ⟨i, h1, h2⟩ := info_z Tryz.z154; exact ⟨i, _, h1, h2, rfl⟩⟩
instance : TyE Tryz.prog 154 [.l []] := ⟨by obtain ⟨i, h1, h2⟩ := info_z Tryz.z154; exact ⟨i, _, h1, h2, rfl⟩⟩
instance : TySl Tryz.prog 154 264 2 16 := ⟨Tryz.underlying154, info_s (z := .agg #[.int .i64 0, .int .i64 0]) (by kernel_rfl) rfl, by decide⟩
-- 156: laws.Account
instance : TyN Tryz.prog 156 4 := ⟨info_n (by kernel_rfl)⟩
instance : TyAg Tryz.prog 156 4 := ⟨fun w => by kernel_rfl, info_n (by kernel_rfl)⟩
theorem Tryz.z156 : (Tryz.prog.info? 156).map (·.zero) = some (some (.agg #[.int .i64 0, .int .i64 0, .int .i64 0, .slice none 0 0])) := by kernel_rfl
instance : TyZ Tryz.prog 156 [.d false (.i .i64 0), .d false (.i .i64 0), .d false (.i .i64 0), .nil] := ⟨by obtain ⟨i, h1, h2⟩ := info_z Tryz.z156; exact ⟨i, _, h1, h2, rfl⟩⟩
instance : TyE Tryz.prog 156 [.i .i64 0, .i .i64 0, .i .i64 0, .l []] := ⟨by obtain ⟨i, h1, h2⟩ := info_z Tryz.z156; exact ⟨i, _, h1, h2, rfl⟩⟩
instance : TyB Tryz.prog 156 [(0, 1), (1, 1), (2, 1), (3, 1)] := ⟨_, Tryz.underlying156, fun w => by kernel_rfl⟩
instance : TyF Tryz.prog 156 0 0 3 := ⟨_, _, Tryz.underlying156, rfl, rfl, rfl, info_f (n := 1) (by kernel_rfl) (by decide)⟩
instance : TyF Tryz.prog 156 1 1 3 := ⟨_, _, Tryz.underlying156, rfl, rfl, rfl, info_f (n := 1) (by kernel_rfl) (by decide)⟩
instance : TyF Tryz.prog 156 2 2 3 := ⟨_, _, Tryz.underlying156, rfl, rfl, rfl, info_f (n := 1) (by kernel_rfl) (by decide)⟩
instance : TyF Tryz.prog 156 3 3 154 := ⟨_, _, Tryz.underlying156, rfl, rfl, rfl, info_f (n := 1) (by kernel_rfl) (by decide)⟩
-- 159: laws.Signal
instance : TyN Tryz.prog 159 11 := ⟨info_n (by kernel_rfl)⟩
instance : TyAg Tryz.prog 159 11 := ⟨fun w => by kernel_rfl, info_n (by kernel_rfl)⟩
theorem Tryz.z159 : (Tryz.prog.info? 159).map (·.zero) = some (some (.agg #[.int .i64 0, .int .i64 0, .int .i64 0, .int .i64 0, .int .i64 0, .int .i64 0, .int .i64 0, .int .i64 0, .int .i64 0, .int .i64 0, .int .i64 0])) := by kernel_rfl
instance : TyZ Tryz.prog 159 [.d false (.i .i64 0), .d false (.i .i64 0), .d false (.i .i64 0), .d false (.i .i64 0), .d false (.i .i64 0), .d false (.i .i64 0), .d false (.i .i64 0), .d false (.i .i64 0), .d false (.i .i64 0), .d false (.i .i64 0), .d false (.i .i64 0)] := ⟨by obtain ⟨i, h1, h2⟩ := info_z Tryz.z159; exact ⟨i, _, h1, h2, rfl⟩⟩
instance : TyE Tryz.prog 159 [.i .i64 0, .i .i64 0, .i .i64 0, .i .i64 0, .i .i64 0, .i .i64 0, .i .i64 0, .i .i64 0, .i .i64 0, .i .i64 0, .i .i64 0] := ⟨by obtain ⟨i, h1, h2⟩ := info_z Tryz.z159; exact ⟨i, _, h1, h2, rfl⟩⟩
instance : TyB Tryz.prog 159 [(0, 1), (1, 1), (2, 1), (3, 1), (4, 1), (5, 5), (10, 1)] := ⟨_, Tryz.underlying159, fun w => by kernel_rfl⟩
instance : TyF Tryz.prog 159 0 0 3 := ⟨_, _, Tryz.underlying159, rfl, rfl, rfl, info_f (n := 1) (by kernel_rfl) (by decide)⟩
instance : TyF Tryz.prog 159 1 1 3 := ⟨_, _, Tryz.underlying159, rfl, rfl, rfl, info_f (n := 1) (by kernel_rfl) (by decide)⟩
instance : TyF Tryz.prog 159 2 2 3 := ⟨_, _, Tryz.underlying159, rfl, rfl, rfl, info_f (n := 1) (by kernel_rfl) (by decide)⟩
instance : TyF Tryz.prog 159 3 3 3 := ⟨_, _, Tryz.underlying159, rfl, rfl, rfl, info_f (n := 1) (by kernel_rfl) (by decide)⟩
instance : TyF Tryz.prog 159 4 4 3 := ⟨_, _, Tryz.underlying159, rfl, rfl, rfl, info_f (n := 1) (by kernel_rfl) (by decide)⟩
instance : TyF Tryz.prog 159 5 5 146 := ⟨_, _, Tryz.underlying159, rfl, rfl, rfl, info_f (n := 5) (by kernel_rfl) (by decide)⟩
instance : TyF Tryz.prog 159 6 10 3 := ⟨_, _, Tryz.underlying159, rfl, rfl, rfl, info_f (n := 1) (by kernel_rfl) (by decide)⟩
-- 160: laws.SecuredMessage
instance : TyN Tryz.prog 160 4 := ⟨info_n (by kernel_rfl)⟩
instance : TyAg Tryz.prog 160 4 := ⟨fun w => by kernel_rfl, info_n (by kernel_rfl)⟩
theorem Tryz.z160 : (Tryz.prog.info? 160).map (·.zero) = some (some (.agg #[.int .i64 0, .int .i64 0, .slice none 0 0, .int .i64 0])) := by kernel_rfl
instance : TyZ Tryz.prog 160 [.d false (.i .i64 0), .d false (.i .i64 0), .nil, .d false (.i .i64 0)] := ⟨by obtain ⟨i, h1, h2⟩ := info_z Tryz.z160; exact ⟨i, _, h1, h2, rfl⟩⟩
instance : TyE Tryz.prog 160 [.i .i64 0, .i .i64 0, .l [], .i .i64 0] := ⟨by obtain ⟨i, h1, h2⟩ := info_z Tryz.z160; exact ⟨i, _, h1, h2, rfl⟩⟩
instance : TyB Tryz.prog 160 [(0, 1), (1, 1), (2, 1), (3, 1)] := ⟨_, Tryz.underlying160, fun w => by kernel_rfl⟩
instance : TyF Tryz.prog 160 0 0 3 := ⟨_, _, Tryz.underlying160, rfl, rfl, rfl, info_f (n := 1) (by kernel_rfl) (by decide)⟩
instance : TyF Tryz.prog 160 1 1 3 := ⟨_, _, Tryz.underlying160, rfl, rfl, rfl, info_f (n := 1) (by kernel_rfl) (by decide)⟩
instance : TyF Tryz.prog 160 2 2 58 := ⟨_, _, Tryz.underlying160, rfl, rfl, rfl, info_f (n := 1) (by kernel_rfl) (by decide)⟩
instance : TyF Tryz.prog 160 3 3 3 := ⟨_, _, Tryz.underlying160, rfl, rfl, rfl, info_f (n := 1) (by kernel_rfl) (by decide)⟩
-- 162: laws.RadioPacket
instance : TyN Tryz.prog 162 6 := ⟨info_n (by kernel_rfl)⟩
instance : TyAg Tryz.prog 162 6 := ⟨fun w => by kernel_rfl, info_n (by kernel_rfl)⟩
theorem Tryz.z162 : (Tryz.prog.info? 162).map (·.zero) = some (some (.agg #[.int .i64 0, .int .i64 0, .int .i64 0, .int .i64 0, .slice none 0 0, .int .i64 0])) := by kernel_rfl
instance : TyZ Tryz.prog 162 [.d false (.i .i64 0), .d false (.i .i64 0), .d false (.i .i64 0), .d false (.i .i64 0), .nil, .d false (.i .i64 0)] := ⟨by obtain ⟨i, h1, h2⟩ := info_z Tryz.z162; exact ⟨i, _, h1, h2, rfl⟩⟩
instance : TyE Tryz.prog 162 [.i .i64 0, .i .i64 0, .i .i64 0, .i .i64 0, .l [], .i .i64 0] := ⟨by obtain ⟨i, h1, h2⟩ := info_z Tryz.z162; exact ⟨i, _, h1, h2, rfl⟩⟩
instance : TyB Tryz.prog 162 [(0, 1), (1, 1), (2, 4)] := ⟨_, Tryz.underlying162, fun w => by kernel_rfl⟩
instance : TyF Tryz.prog 162 0 0 3 := ⟨_, _, Tryz.underlying162, rfl, rfl, rfl, info_f (n := 1) (by kernel_rfl) (by decide)⟩
instance : TyF Tryz.prog 162 1 1 3 := ⟨_, _, Tryz.underlying162, rfl, rfl, rfl, info_f (n := 1) (by kernel_rfl) (by decide)⟩
instance : TyF Tryz.prog 162 2 2 160 := ⟨_, _, Tryz.underlying162, rfl, rfl, rfl, info_f (n := 4) (by kernel_rfl) (by decide)⟩
-- 164: laws.Flight
instance : TyN Tryz.prog 164 21 := ⟨info_n (by kernel_rfl)⟩
instance : TyAg Tryz.prog 164 21 := ⟨fun w => by kernel_rfl, info_n (by kernel_rfl)⟩
theorem Tryz.z164 : (Tryz.prog.info? 164).map (·.zero) = some (some (.agg #[.int .i64 0, .bool false, .bool false, .int .i64 0, .int .i64 0, .int .i64 0, .int .i64 0, .int .i64 0, .int .i64 0, .int .i64 0, .int .i64 0, .int .i64 0, .int .i64 0, .int .i64 0, .int .i64 0, .int .i64 0, .int .i64 0, .int .i64 0, .int .i64 0, .slice none 0 0, .int .i64 0])) := by kernel_rfl
instance : TyZ Tryz.prog 164 [.d false (.i .i64 0), .d false (.b false), .d false (.b false), .d false (.i .i64 0), .d false (.i .i64 0), .d false (.i .i64 0), .d false (.i .i64 0), .d false (.i .i64 0), .d false (.i .i64 0), .d false (.i .i64 0), .d false (.i .i64 0), .d false (.i .i64 0), .d false (.i .i64 0), .d false (.i .i64 0), .d false (.i .i64 0), .d false (.i .i64 0), .d false (.i .i64 0), .d false (.i .i64 0), .d false (.i .i64 0), .nil, .d false (.i .i64 0)] := ⟨by obtain ⟨i, h1, h2⟩ := info_z Tryz.z164; exact ⟨i, _, h1, h2, rfl⟩⟩
instance : TyE Tryz.prog 164 [.i .i64 0, .b false, .b false, .i .i64 0, .i .i64 0, .i .i64 0, .i .i64 0, .i .i64 0, .i .i64 0, .i .i64 0, .i .i64 0, .i .i64 0, .i .i64 0, .i .i64 0, .i .i64 0, .i .i64 0, .i .i64 0, .i .i64 0, .i .i64 0, .l [], .i .i64 0] := ⟨by obtain ⟨i, h1, h2⟩ := info_z Tryz.z164; exact ⟨i, _, h1, h2, rfl⟩⟩
instance : TyB Tryz.prog 164 [(0, 1), (1, 1), (2, 1), (3, 1), (4, 11), (15, 6)] := ⟨_, Tryz.underlying164, fun w => by kernel_rfl⟩
instance : TyF Tryz.prog 164 0 0 3 := ⟨_, _, Tryz.underlying164, rfl, rfl, rfl, info_f (n := 1) (by kernel_rfl) (by decide)⟩
instance : TyF Tryz.prog 164 1 1 4 := ⟨_, _, Tryz.underlying164, rfl, rfl, rfl, info_f (n := 1) (by kernel_rfl) (by decide)⟩
instance : TyF Tryz.prog 164 2 2 4 := ⟨_, _, Tryz.underlying164, rfl, rfl, rfl, info_f (n := 1) (by kernel_rfl) (by decide)⟩
instance : TyF Tryz.prog 164 3 3 3 := ⟨_, _, Tryz.underlying164, rfl, rfl, rfl, info_f (n := 1) (by kernel_rfl) (by decide)⟩
instance : TyF Tryz.prog 164 4 4 159 := ⟨_, _, Tryz.underlying164, rfl, rfl, rfl, info_f (n := 11) (by kernel_rfl) (by decide)⟩
instance : TyF Tryz.prog 164 5 15 162 := ⟨_, _, Tryz.underlying164, rfl, rfl, rfl, info_f (n := 6) (by kernel_rfl) (by decide)⟩
-- 170: impl.USIM
instance : TyN Tryz.prog 170 4 := ⟨info_n (by kernel_rfl)⟩
instance : TyAg Tryz.prog 170 4 := ⟨fun w => by kernel_rfl, info_n (by kernel_rfl)⟩
theorem Tryz.z170 : (Tryz.prog.info? 170).map (·.zero) = some (some (.agg #[.int .i64 0, .int .i64 0, .int .i64 0, .int .i64 0])) := by kernel_rfl
instance : TyZ Tryz.prog 170 [.d false (.i .i64 0), .d false (.i .i64 0), .d false (.i .i64 0), .d false (.i .i64 0)] := ⟨by obtain ⟨i, h1, h2⟩ := info_z Tryz.z170; exact ⟨i, _, h1, h2, rfl⟩⟩
instance : TyE Tryz.prog 170 [.i .i64 0, .i .i64 0, .i .i64 0, .i .i64 0] := ⟨by obtain ⟨i, h1, h2⟩ := info_z Tryz.z170; exact ⟨i, _, h1, h2, rfl⟩⟩
instance : TyB Tryz.prog 170 [(0, 2), (2, 1), (3, 1)] := ⟨_, Tryz.underlying170, fun w => by kernel_rfl⟩
instance : TyF Tryz.prog 170 0 0 111 := ⟨_, _, Tryz.underlying170, rfl, rfl, rfl, info_f (n := 2) (by kernel_rfl) (by decide)⟩
instance : TyF Tryz.prog 170 1 2 3 := ⟨_, _, Tryz.underlying170, rfl, rfl, rfl, info_f (n := 1) (by kernel_rfl) (by decide)⟩
instance : TyF Tryz.prog 170 2 3 3 := ⟨_, _, Tryz.underlying170, rfl, rfl, rfl, info_f (n := 1) (by kernel_rfl) (by decide)⟩
-- 172: impl.ReceiveWindow
instance : TyN Tryz.prog 172 3 := ⟨info_n (by kernel_rfl)⟩
instance : TyAg Tryz.prog 172 3 := ⟨fun w => by kernel_rfl, info_n (by kernel_rfl)⟩
theorem Tryz.z172 : (Tryz.prog.info? 172).map (·.zero) = some (some (.agg #[.int .i64 0, .slice none 0 0, .slice none 0 0])) := by kernel_rfl
instance : TyZ Tryz.prog 172 [.d false (.i .i64 0), .nil, .nil] := ⟨by obtain ⟨i, h1, h2⟩ := info_z Tryz.z172; exact ⟨i, _, h1, h2, rfl⟩⟩
instance : TyE Tryz.prog 172 [.i .i64 0, .l [], .l []] := ⟨by obtain ⟨i, h1, h2⟩ := info_z Tryz.z172; exact ⟨i, _, h1, h2, rfl⟩⟩
instance : TyB Tryz.prog 172 [(0, 1), (1, 1), (2, 1)] := ⟨_, Tryz.underlying172, fun w => by kernel_rfl⟩
instance : TyF Tryz.prog 172 0 0 3 := ⟨_, _, Tryz.underlying172, rfl, rfl, rfl, info_f (n := 1) (by kernel_rfl) (by decide)⟩
instance : TyF Tryz.prog 172 1 1 119 := ⟨_, _, Tryz.underlying172, rfl, rfl, rfl, info_f (n := 1) (by kernel_rfl) (by decide)⟩
instance : TyF Tryz.prog 172 2 2 118 := ⟨_, _, Tryz.underlying172, rfl, rfl, rfl, info_f (n := 1) (by kernel_rfl) (by decide)⟩
-- 174: impl.Device
instance : TyN Tryz.prog 174 14 := ⟨info_n (by kernel_rfl)⟩
instance : TyAg Tryz.prog 174 14 := ⟨fun w => by kernel_rfl, info_n (by kernel_rfl)⟩
theorem Tryz.z174 : (Tryz.prog.info? 174).map (·.zero) = some (some (.agg #[.int .i64 0, .int .i64 0, .int .i64 0, .int .i64 0, .int .i64 0, .int .i64 0, .int .i64 0, .int .i64 0, .int .i64 0, .bool false, .int .i64 0, .int .i64 0, .slice none 0 0, .slice none 0 0])) := by kernel_rfl
instance : TyZ Tryz.prog 174 [.d false (.i .i64 0), .d false (.i .i64 0), .d false (.i .i64 0), .d false (.i .i64 0), .d false (.i .i64 0), .d false (.i .i64 0), .d false (.i .i64 0), .d false (.i .i64 0), .d false (.i .i64 0), .d false (.b false), .d false (.i .i64 0), .d false (.i .i64 0), .nil, .nil] := ⟨by obtain ⟨i, h1, h2⟩ := info_z Tryz.z174; exact ⟨i, _, h1, h2, rfl⟩⟩
instance : TyE Tryz.prog 174 [.i .i64 0, .i .i64 0, .i .i64 0, .i .i64 0, .i .i64 0, .i .i64 0, .i .i64 0, .i .i64 0, .i .i64 0, .b false, .i .i64 0, .i .i64 0, .l [], .l []] := ⟨by obtain ⟨i, h1, h2⟩ := info_z Tryz.z174; exact ⟨i, _, h1, h2, rfl⟩⟩
instance : TyB Tryz.prog 174 [(0, 4), (4, 1), (5, 1), (6, 1), (7, 1), (8, 1), (9, 1), (10, 1), (11, 3)] := ⟨_, Tryz.underlying174, fun w => by kernel_rfl⟩
instance : TyF Tryz.prog 174 0 0 170 := ⟨_, _, Tryz.underlying174, rfl, rfl, rfl, info_f (n := 4) (by kernel_rfl) (by decide)⟩
instance : TyF Tryz.prog 174 1 4 3 := ⟨_, _, Tryz.underlying174, rfl, rfl, rfl, info_f (n := 1) (by kernel_rfl) (by decide)⟩
instance : TyF Tryz.prog 174 2 5 3 := ⟨_, _, Tryz.underlying174, rfl, rfl, rfl, info_f (n := 1) (by kernel_rfl) (by decide)⟩
instance : TyF Tryz.prog 174 3 6 3 := ⟨_, _, Tryz.underlying174, rfl, rfl, rfl, info_f (n := 1) (by kernel_rfl) (by decide)⟩
instance : TyF Tryz.prog 174 4 7 3 := ⟨_, _, Tryz.underlying174, rfl, rfl, rfl, info_f (n := 1) (by kernel_rfl) (by decide)⟩
instance : TyF Tryz.prog 174 5 8 3 := ⟨_, _, Tryz.underlying174, rfl, rfl, rfl, info_f (n := 1) (by kernel_rfl) (by decide)⟩
instance : TyF Tryz.prog 174 6 9 4 := ⟨_, _, Tryz.underlying174, rfl, rfl, rfl, info_f (n := 1) (by kernel_rfl) (by decide)⟩
instance : TyF Tryz.prog 174 7 10 3 := ⟨_, _, Tryz.underlying174, rfl, rfl, rfl, info_f (n := 1) (by kernel_rfl) (by decide)⟩
instance : TyF Tryz.prog 174 8 11 172 := ⟨_, _, Tryz.underlying174, rfl, rfl, rfl, info_f (n := 3) (by kernel_rfl) (by decide)⟩
-- 177: []impl.Reservation
instance : TyN Tryz.prog 177 1 := ⟨info_n (by kernel_rfl)⟩
instance : TySc Tryz.prog 177 := ⟨fun w => by kernel_rfl, info_n (by kernel_rfl)⟩
theorem Tryz.z177 : (Tryz.prog.info? 177).map (·.zero) = some (some (.slice none 0 0)) := by kernel_rfl
instance : TyZ Tryz.prog 177 [.nil] := ⟨by obtain ⟨i, h1, h2⟩ := info_z Tryz.z177; exact ⟨i, _, h1, h2, rfl⟩⟩
instance : TyE Tryz.prog 177 [.l []] := ⟨by obtain ⟨i, h1, h2⟩ := info_z Tryz.z177; exact ⟨i, _, h1, h2, rfl⟩⟩
instance : TySl Tryz.prog 177 243 2 16 := ⟨Tryz.underlying177, info_s (z := .agg #[.int .i64 0, .int .i64 0]) (by kernel_rfl) rfl, by decide⟩
-- 179: impl.Account
instance : TyN Tryz.prog 179 4 := ⟨info_n (by kernel_rfl)⟩
instance : TyAg Tryz.prog 179 4 := ⟨fun w => by kernel_rfl, info_n (by kernel_rfl)⟩
theorem Tryz.z179 : (Tryz.prog.info? 179).map (·.zero) = some (some (.agg #[.int .i64 0, .int .i64 0, .int .i64 0, .slice none 0 0])) := by kernel_rfl
instance : TyZ Tryz.prog 179 [.d false (.i .i64 0), .d false (.i .i64 0), .d false (.i .i64 0), .nil] := ⟨by obtain ⟨i, h1, h2⟩ := info_z Tryz.z179; exact ⟨i, _, h1, h2, rfl⟩⟩
instance : TyE Tryz.prog 179 [.i .i64 0, .i .i64 0, .i .i64 0, .l []] := ⟨by obtain ⟨i, h1, h2⟩ := info_z Tryz.z179; exact ⟨i, _, h1, h2, rfl⟩⟩
instance : TyB Tryz.prog 179 [(0, 1), (1, 1), (2, 1), (3, 1)] := ⟨_, Tryz.underlying179, fun w => by kernel_rfl⟩
instance : TyF Tryz.prog 179 0 0 3 := ⟨_, _, Tryz.underlying179, rfl, rfl, rfl, info_f (n := 1) (by kernel_rfl) (by decide)⟩
instance : TyF Tryz.prog 179 1 1 3 := ⟨_, _, Tryz.underlying179, rfl, rfl, rfl, info_f (n := 1) (by kernel_rfl) (by decide)⟩
instance : TyF Tryz.prog 179 2 2 3 := ⟨_, _, Tryz.underlying179, rfl, rfl, rfl, info_f (n := 1) (by kernel_rfl) (by decide)⟩
instance : TyF Tryz.prog 179 3 3 177 := ⟨_, _, Tryz.underlying179, rfl, rfl, rfl, info_f (n := 1) (by kernel_rfl) (by decide)⟩
-- 206: laws.Cell
instance : TyN Tryz.prog 206 2 := ⟨info_n (by kernel_rfl)⟩
instance : TyAg Tryz.prog 206 2 := ⟨fun w => by kernel_rfl, info_n (by kernel_rfl)⟩
theorem Tryz.z206 : (Tryz.prog.info? 206).map (·.zero) = some (some (.agg #[.int .i64 0, .slice none 0 0])) := by kernel_rfl
instance : TyZ Tryz.prog 206 [.d false (.i .i64 0), .nil] := ⟨by obtain ⟨i, h1, h2⟩ := info_z Tryz.z206; exact ⟨i, _, h1, h2, rfl⟩⟩
instance : TyE Tryz.prog 206 [.i .i64 0, .l []] := ⟨by obtain ⟨i, h1, h2⟩ := info_z Tryz.z206; exact ⟨i, _, h1, h2, rfl⟩⟩
instance : TyB Tryz.prog 206 [(0, 1), (1, 1)] := ⟨_, Tryz.underlying206, fun w => by kernel_rfl⟩
instance : TyF Tryz.prog 206 0 0 3 := ⟨_, _, Tryz.underlying206, rfl, rfl, rfl, info_f (n := 1) (by kernel_rfl) (by decide)⟩
instance : TyF Tryz.prog 206 1 1 36 := ⟨_, _, Tryz.underlying206, rfl, rfl, rfl, info_f (n := 1) (by kernel_rfl) (by decide)⟩
-- 213: impl.Cell
instance : TyN Tryz.prog 213 2 := ⟨info_n (by kernel_rfl)⟩
instance : TyAg Tryz.prog 213 2 := ⟨fun w => by kernel_rfl, info_n (by kernel_rfl)⟩
theorem Tryz.z213 : (Tryz.prog.info? 213).map (·.zero) = some (some (.agg #[.int .i64 0, .slice none 0 0])) := by kernel_rfl
instance : TyZ Tryz.prog 213 [.d false (.i .i64 0), .nil] := ⟨by obtain ⟨i, h1, h2⟩ := info_z Tryz.z213; exact ⟨i, _, h1, h2, rfl⟩⟩
instance : TyE Tryz.prog 213 [.i .i64 0, .l []] := ⟨by obtain ⟨i, h1, h2⟩ := info_z Tryz.z213; exact ⟨i, _, h1, h2, rfl⟩⟩
instance : TyB Tryz.prog 213 [(0, 1), (1, 1)] := ⟨_, Tryz.underlying213, fun w => by kernel_rfl⟩
instance : TyF Tryz.prog 213 0 0 3 := ⟨_, _, Tryz.underlying213, rfl, rfl, rfl, info_f (n := 1) (by kernel_rfl) (by decide)⟩
instance : TyF Tryz.prog 213 1 1 36 := ⟨_, _, Tryz.underlying213, rfl, rfl, rfl, info_f (n := 1) (by kernel_rfl) (by decide)⟩
-- 241: impl.Payload
instance : TyN Tryz.prog 241 1 := ⟨info_n (by kernel_rfl)⟩
instance : TyAg Tryz.prog 241 1 := ⟨fun w => by kernel_rfl, info_n (by kernel_rfl)⟩
theorem Tryz.z241 : (Tryz.prog.info? 241).map (·.zero) = some (some (.agg #[.slice none 0 0])) := by kernel_rfl
instance : TyZ Tryz.prog 241 [.nil] := ⟨by obtain ⟨i, h1, h2⟩ := info_z Tryz.z241; exact ⟨i, _, h1, h2, rfl⟩⟩
instance : TyE Tryz.prog 241 [.l []] := ⟨by obtain ⟨i, h1, h2⟩ := info_z Tryz.z241; exact ⟨i, _, h1, h2, rfl⟩⟩
instance : TyB Tryz.prog 241 [(0, 1)] := ⟨_, Tryz.underlying241, fun w => by kernel_rfl⟩
instance : TyF Tryz.prog 241 0 0 58 := ⟨_, _, Tryz.underlying241, rfl, rfl, rfl, info_f (n := 1) (by kernel_rfl) (by decide)⟩
-- 243: impl.Reservation
instance : TyN Tryz.prog 243 2 := ⟨info_n (by kernel_rfl)⟩
instance : TyAg Tryz.prog 243 2 := ⟨fun w => by kernel_rfl, info_n (by kernel_rfl)⟩
theorem Tryz.z243 : (Tryz.prog.info? 243).map (·.zero) = some (some (.agg #[.int .i64 0, .int .i64 0])) := by kernel_rfl
instance : TyZ Tryz.prog 243 [.d false (.i .i64 0), .d false (.i .i64 0)] := ⟨by obtain ⟨i, h1, h2⟩ := info_z Tryz.z243; exact ⟨i, _, h1, h2, rfl⟩⟩
instance : TyE Tryz.prog 243 [.i .i64 0, .i .i64 0] := ⟨by obtain ⟨i, h1, h2⟩ := info_z Tryz.z243; exact ⟨i, _, h1, h2, rfl⟩⟩
instance : TyB Tryz.prog 243 [(0, 1), (1, 1)] := ⟨_, Tryz.underlying243, fun w => by kernel_rfl⟩
instance : TyF Tryz.prog 243 0 0 3 := ⟨_, _, Tryz.underlying243, rfl, rfl, rfl, info_f (n := 1) (by kernel_rfl) (by decide)⟩
instance : TyF Tryz.prog 243 1 1 3 := ⟨_, _, Tryz.underlying243, rfl, rfl, rfl, info_f (n := 1) (by kernel_rfl) (by decide)⟩
-- 258: laws.Payload
instance : TyN Tryz.prog 258 1 := ⟨info_n (by kernel_rfl)⟩
instance : TyAg Tryz.prog 258 1 := ⟨fun w => by kernel_rfl, info_n (by kernel_rfl)⟩
theorem Tryz.z258 : (Tryz.prog.info? 258).map (·.zero) = some (some (.agg #[.slice none 0 0])) := by kernel_rfl
instance : TyZ Tryz.prog 258 [.nil] := ⟨by obtain ⟨i, h1, h2⟩ := info_z Tryz.z258; exact ⟨i, _, h1, h2, rfl⟩⟩
instance : TyE Tryz.prog 258 [.l []] := ⟨by obtain ⟨i, h1, h2⟩ := info_z Tryz.z258; exact ⟨i, _, h1, h2, rfl⟩⟩
instance : TyB Tryz.prog 258 [(0, 1)] := ⟨_, Tryz.underlying258, fun w => by kernel_rfl⟩
instance : TyF Tryz.prog 258 0 0 58 := ⟨_, _, Tryz.underlying258, rfl, rfl, rfl, info_f (n := 1) (by kernel_rfl) (by decide)⟩
-- 264: laws.Reservation
instance : TyN Tryz.prog 264 2 := ⟨info_n (by kernel_rfl)⟩
instance : TyAg Tryz.prog 264 2 := ⟨fun w => by kernel_rfl, info_n (by kernel_rfl)⟩
theorem Tryz.z264 : (Tryz.prog.info? 264).map (·.zero) = some (some (.agg #[.int .i64 0, .int .i64 0])) := by kernel_rfl
instance : TyZ Tryz.prog 264 [.d false (.i .i64 0), .d false (.i .i64 0)] := ⟨by obtain ⟨i, h1, h2⟩ := info_z Tryz.z264; exact ⟨i, _, h1, h2, rfl⟩⟩
instance : TyE Tryz.prog 264 [.i .i64 0, .i .i64 0] := ⟨by obtain ⟨i, h1, h2⟩ := info_z Tryz.z264; exact ⟨i, _, h1, h2, rfl⟩⟩
instance : TyB Tryz.prog 264 [(0, 1), (1, 1)] := ⟨_, Tryz.underlying264, fun w => by kernel_rfl⟩
instance : TyF Tryz.prog 264 0 0 3 := ⟨_, _, Tryz.underlying264, rfl, rfl, rfl, info_f (n := 1) (by kernel_rfl) (by decide)⟩
instance : TyF Tryz.prog 264 1 1 3 := ⟨_, _, Tryz.underlying264, rfl, rfl, rfl, info_f (n := 1) (by kernel_rfl) (by decide)⟩
-- 288: laws.NumberedPacket
instance : TyN Tryz.prog 288 2 := ⟨info_n (by kernel_rfl)⟩
instance : TyAg Tryz.prog 288 2 := ⟨fun w => by kernel_rfl, info_n (by kernel_rfl)⟩
theorem Tryz.z288 : (Tryz.prog.info? 288).map (·.zero) = some (some (.agg #[.int .i64 0, .slice none 0 0])) := by kernel_rfl
instance : TyZ Tryz.prog 288 [.d false (.i .i64 0), .nil] := ⟨by obtain ⟨i, h1, h2⟩ := info_z Tryz.z288; exact ⟨i, _, h1, h2, rfl⟩⟩
instance : TyE Tryz.prog 288 [.i .i64 0, .l []] := ⟨by obtain ⟨i, h1, h2⟩ := info_z Tryz.z288; exact ⟨i, _, h1, h2, rfl⟩⟩
instance : TyB Tryz.prog 288 [(0, 1), (1, 1)] := ⟨_, Tryz.underlying288, fun w => by kernel_rfl⟩
instance : TyF Tryz.prog 288 0 0 3 := ⟨_, _, Tryz.underlying288, rfl, rfl, rfl, info_f (n := 1) (by kernel_rfl) (by decide)⟩
instance : TyF Tryz.prog 288 1 1 58 := ⟨_, _, Tryz.underlying288, rfl, rfl, rfl, info_f (n := 1) (by kernel_rfl) (by decide)⟩
theorem Tryz.sh3 : HasSh Tryz.prog 3 [.i .i64] := .int Tryz.underlying3
theorem Tryz.sh4 : HasSh Tryz.prog 4 [.b] := .bool Tryz.underlying4
theorem Tryz.sh5 : HasSh Tryz.prog 5 [.i .u8] := .int Tryz.underlying5
theorem Tryz.sh9 : HasSh Tryz.prog 9 [.str] := .string Tryz.underlying9
theorem Tryz.sh36 : HasSh Tryz.prog 36 [.l [.i .i64]] := .slice Tryz.underlying36 Tryz.sh3 (by kernel_rfl) (by decide)
theorem Tryz.sh206 : HasSh Tryz.prog 206 [.i .i64, .l [.i .i64]] := .struct (ss := [.i .i64, .l [.i .i64]]) Tryz.underlying206 (HasFs.cons (s1 := [.i .i64]) (s2 := [.l [.i .i64]]) rfl Tryz.sh3 (by kernel_rfl) (HasFs.cons (s1 := [.l [.i .i64]]) (s2 := []) rfl Tryz.sh36 (by kernel_rfl) (HasFs.nil))) (by kernel_rfl)
theorem Tryz.sh22 : HasSh Tryz.prog 22 [.l [.i .i64, .l [.i .i64]]] := .slice Tryz.underlying22 Tryz.sh206 (by kernel_rfl) (by decide)
theorem Tryz.sh24 : HasSh Tryz.prog 24 [.l [.i .i64, .l [.i .i64]]] := .struct (ss := [.l [.i .i64, .l [.i .i64]]]) Tryz.underlying24 (HasFs.cons (s1 := [.l [.i .i64, .l [.i .i64]]]) (s2 := []) rfl Tryz.sh22 (by kernel_rfl) (HasFs.nil)) (by kernel_rfl)
theorem Tryz.sh133 : HasSh Tryz.prog 133 [.i .i64, .i .i64] := .struct (ss := [.i .i64, .i .i64]) Tryz.underlying133 (HasFs.cons (s1 := [.i .i64]) (s2 := [.i .i64]) rfl Tryz.sh3 (by kernel_rfl) (HasFs.cons (s1 := [.i .i64]) (s2 := []) rfl Tryz.sh3 (by kernel_rfl) (HasFs.nil))) (by kernel_rfl)
theorem Tryz.sh135 : HasSh Tryz.prog 135 [.i .i64, .i .i64, .i .i64, .i .i64] := .struct (ss := [.i .i64, .i .i64, .i .i64, .i .i64]) Tryz.underlying135 (HasFs.cons (s1 := [.i .i64, .i .i64]) (s2 := [.i .i64, .i .i64]) rfl Tryz.sh133 (by kernel_rfl) (HasFs.cons (s1 := [.i .i64]) (s2 := [.i .i64]) rfl Tryz.sh3 (by kernel_rfl) (HasFs.cons (s1 := [.i .i64]) (s2 := []) rfl Tryz.sh3 (by kernel_rfl) (HasFs.nil)))) (by kernel_rfl)
theorem Tryz.sh58 : HasSh Tryz.prog 58 [.l [.i .u8]] := .slice Tryz.underlying58 Tryz.sh5 (by kernel_rfl) (by decide)
theorem Tryz.sh288 : HasSh Tryz.prog 288 [.i .i64, .l [.i .u8]] := .struct (ss := [.i .i64, .l [.i .u8]]) Tryz.underlying288 (HasFs.cons (s1 := [.i .i64]) (s2 := [.l [.i .u8]]) rfl Tryz.sh3 (by kernel_rfl) (HasFs.cons (s1 := [.l [.i .u8]]) (s2 := []) rfl Tryz.sh58 (by kernel_rfl) (HasFs.nil))) (by kernel_rfl)
theorem Tryz.sh136 : HasSh Tryz.prog 136 [.l [.i .i64, .l [.i .u8]]] := .slice Tryz.underlying136 Tryz.sh288 (by kernel_rfl) (by decide)
theorem Tryz.sh258 : HasSh Tryz.prog 258 [.l [.i .u8]] := .struct (ss := [.l [.i .u8]]) Tryz.underlying258 (HasFs.cons (s1 := [.l [.i .u8]]) (s2 := []) rfl Tryz.sh58 (by kernel_rfl) (HasFs.nil)) (by kernel_rfl)
theorem Tryz.sh137 : HasSh Tryz.prog 137 [.l [.l [.i .u8]]] := .slice Tryz.underlying137 Tryz.sh258 (by kernel_rfl) (by decide)
theorem Tryz.sh139 : HasSh Tryz.prog 139 [.i .i64, .l [.i .i64, .l [.i .u8]], .l [.l [.i .u8]]] := .struct (ss := [.i .i64, .l [.i .i64, .l [.i .u8]], .l [.l [.i .u8]]]) Tryz.underlying139 (HasFs.cons (s1 := [.i .i64]) (s2 := [.l [.i .i64, .l [.i .u8]], .l [.l [.i .u8]]]) rfl Tryz.sh3 (by kernel_rfl) (HasFs.cons (s1 := [.l [.i .i64, .l [.i .u8]]]) (s2 := [.l [.l [.i .u8]]]) rfl Tryz.sh136 (by kernel_rfl) (HasFs.cons (s1 := [.l [.l [.i .u8]]]) (s2 := []) rfl Tryz.sh137 (by kernel_rfl) (HasFs.nil)))) (by kernel_rfl)
theorem Tryz.sh141 : HasSh Tryz.prog 141 [.i .i64, .i .i64, .i .i64, .i .i64, .i .i64, .i .i64, .i .i64, .i .i64, .i .i64, .b, .i .i64, .i .i64, .l [.i .i64, .l [.i .u8]], .l [.l [.i .u8]]] := .struct (ss := [.i .i64, .i .i64, .i .i64, .i .i64, .i .i64, .i .i64, .i .i64, .i .i64, .i .i64, .b, .i .i64, .i .i64, .l [.i .i64, .l [.i .u8]], .l [.l [.i .u8]]]) Tryz.underlying141 (HasFs.cons (s1 := [.i .i64, .i .i64, .i .i64, .i .i64]) (s2 := [.i .i64, .i .i64, .i .i64, .i .i64, .i .i64, .b, .i .i64, .i .i64, .l [.i .i64, .l [.i .u8]], .l [.l [.i .u8]]]) rfl Tryz.sh135 (by kernel_rfl) (HasFs.cons (s1 := [.i .i64]) (s2 := [.i .i64, .i .i64, .i .i64, .i .i64, .b, .i .i64, .i .i64, .l [.i .i64, .l [.i .u8]], .l [.l [.i .u8]]]) rfl Tryz.sh3 (by kernel_rfl) (HasFs.cons (s1 := [.i .i64]) (s2 := [.i .i64, .i .i64, .i .i64, .b, .i .i64, .i .i64, .l [.i .i64, .l [.i .u8]], .l [.l [.i .u8]]]) rfl Tryz.sh3 (by kernel_rfl) (HasFs.cons (s1 := [.i .i64]) (s2 := [.i .i64, .i .i64, .b, .i .i64, .i .i64, .l [.i .i64, .l [.i .u8]], .l [.l [.i .u8]]]) rfl Tryz.sh3 (by kernel_rfl) (HasFs.cons (s1 := [.i .i64]) (s2 := [.i .i64, .b, .i .i64, .i .i64, .l [.i .i64, .l [.i .u8]], .l [.l [.i .u8]]]) rfl Tryz.sh3 (by kernel_rfl) (HasFs.cons (s1 := [.i .i64]) (s2 := [.b, .i .i64, .i .i64, .l [.i .i64, .l [.i .u8]], .l [.l [.i .u8]]]) rfl Tryz.sh3 (by kernel_rfl) (HasFs.cons (s1 := [.b]) (s2 := [.i .i64, .i .i64, .l [.i .i64, .l [.i .u8]], .l [.l [.i .u8]]]) rfl Tryz.sh4 (by kernel_rfl) (HasFs.cons (s1 := [.i .i64]) (s2 := [.i .i64, .l [.i .i64, .l [.i .u8]], .l [.l [.i .u8]]]) rfl Tryz.sh3 (by kernel_rfl) (HasFs.cons (s1 := [.i .i64, .l [.i .i64, .l [.i .u8]], .l [.l [.i .u8]]]) (s2 := []) rfl Tryz.sh139 (by kernel_rfl) (HasFs.nil)))))))))) (by kernel_rfl)
theorem Tryz.sh25 : HasSh Tryz.prog 25 [.l [.i .i64, .i .i64, .i .i64, .i .i64, .i .i64, .i .i64, .i .i64, .i .i64, .i .i64, .b, .i .i64, .i .i64, .l [.i .i64, .l [.i .u8]], .l [.l [.i .u8]]]] := .slice Tryz.underlying25 Tryz.sh141 (by kernel_rfl) (by decide)
theorem Tryz.sh144 : HasSh Tryz.prog 144 [.i .i64, .i .i64, .i .i64, .i .i64] := .struct (ss := [.i .i64, .i .i64, .i .i64, .i .i64]) Tryz.underlying144 (HasFs.cons (s1 := [.i .i64, .i .i64]) (s2 := [.i .i64, .i .i64]) rfl Tryz.sh133 (by kernel_rfl) (HasFs.cons (s1 := [.i .i64]) (s2 := [.i .i64]) rfl Tryz.sh3 (by kernel_rfl) (HasFs.cons (s1 := [.i .i64]) (s2 := []) rfl Tryz.sh3 (by kernel_rfl) (HasFs.nil)))) (by kernel_rfl)
theorem Tryz.sh145 : HasSh Tryz.prog 145 [.i .i64, .i .i64, .i .i64, .l [.i .i64]] := .struct (ss := [.i .i64, .i .i64, .i .i64, .l [.i .i64]]) Tryz.underlying145 (HasFs.cons (s1 := [.i .i64]) (s2 := [.i .i64, .i .i64, .l [.i .i64]]) rfl Tryz.sh3 (by kernel_rfl) (HasFs.cons (s1 := [.i .i64]) (s2 := [.i .i64, .l [.i .i64]]) rfl Tryz.sh3 (by kernel_rfl) (HasFs.cons (s1 := [.i .i64]) (s2 := [.l [.i .i64]]) rfl Tryz.sh3 (by kernel_rfl) (HasFs.cons (s1 := [.l [.i .i64]]) (s2 := []) rfl Tryz.sh36 (by kernel_rfl) (HasFs.nil))))) (by kernel_rfl)
theorem Tryz.sh146 : HasSh Tryz.prog 146 [.i .i64, .i .i64, .i .i64, .i .i64, .i .i64] := .struct (ss := [.i .i64, .i .i64, .i .i64, .i .i64, .i .i64]) Tryz.underlying146 (HasFs.cons (s1 := [.i .i64]) (s2 := [.i .i64, .i .i64, .i .i64, .i .i64]) rfl Tryz.sh3 (by kernel_rfl) (HasFs.cons (s1 := [.i .i64]) (s2 := [.i .i64, .i .i64, .i .i64]) rfl Tryz.sh3 (by kernel_rfl) (HasFs.cons (s1 := [.i .i64]) (s2 := [.i .i64, .i .i64]) rfl Tryz.sh3 (by kernel_rfl) (HasFs.cons (s1 := [.i .i64]) (s2 := [.i .i64]) rfl Tryz.sh3 (by kernel_rfl) (HasFs.cons (s1 := [.i .i64]) (s2 := []) rfl Tryz.sh3 (by kernel_rfl) (HasFs.nil)))))) (by kernel_rfl)
theorem Tryz.sh147 : HasSh Tryz.prog 147 [.i .i64, .i .i64, .i .i64] := .struct (ss := [.i .i64, .i .i64, .i .i64]) Tryz.underlying147 (HasFs.cons (s1 := [.i .i64]) (s2 := [.i .i64, .i .i64]) rfl Tryz.sh3 (by kernel_rfl) (HasFs.cons (s1 := [.i .i64]) (s2 := [.i .i64]) rfl Tryz.sh3 (by kernel_rfl) (HasFs.cons (s1 := [.i .i64]) (s2 := []) rfl Tryz.sh3 (by kernel_rfl) (HasFs.nil)))) (by kernel_rfl)
theorem Tryz.sh149 : HasSh Tryz.prog 149 [.i .i64, .l [.i .i64, .l [.i .u8]]] := .struct (ss := [.i .i64, .l [.i .i64, .l [.i .u8]]]) Tryz.underlying149 (HasFs.cons (s1 := [.i .i64]) (s2 := [.l [.i .i64, .l [.i .u8]]]) rfl Tryz.sh3 (by kernel_rfl) (HasFs.cons (s1 := [.l [.i .i64, .l [.i .u8]]]) (s2 := []) rfl Tryz.sh136 (by kernel_rfl) (HasFs.nil))) (by kernel_rfl)
theorem Tryz.sh150 : HasSh Tryz.prog 150 [.i .i64, .i .i64, .i .i64] := .struct (ss := [.i .i64, .i .i64, .i .i64]) Tryz.underlying150 (HasFs.cons (s1 := [.i .i64]) (s2 := [.i .i64, .i .i64]) rfl Tryz.sh3 (by kernel_rfl) (HasFs.cons (s1 := [.i .i64]) (s2 := [.i .i64]) rfl Tryz.sh3 (by kernel_rfl) (HasFs.cons (s1 := [.i .i64]) (s2 := []) rfl Tryz.sh3 (by kernel_rfl) (HasFs.nil)))) (by kernel_rfl)
theorem Tryz.sh152 : HasSh Tryz.prog 152 [.i .i64, .i .i64, .i .i64, .i .i64, .i .i64, .i .i64, .i .i64, .l [.i .i64], .i .i64, .i .i64, .i .i64, .i .i64, .i .i64, .i .i64, .i .i64, .i .i64, .i .i64, .i .i64, .i .i64, .i .i64, .i .i64, .i .i64, .i .i64, .l [.l [.i .u8]], .i .i64, .l [.i .i64, .l [.i .u8]], .i .i64, .i .i64, .i .i64, .i .i64] := .struct (ss := [.i .i64, .i .i64, .i .i64, .i .i64, .i .i64, .i .i64, .i .i64, .l [.i .i64], .i .i64, .i .i64, .i .i64, .i .i64, .i .i64, .i .i64, .i .i64, .i .i64, .i .i64, .i .i64, .i .i64, .i .i64, .i .i64, .i .i64, .i .i64, .l [.l [.i .u8]], .i .i64, .l [.i .i64, .l [.i .u8]], .i .i64, .i .i64, .i .i64, .i .i64]) Tryz.underlying152 (HasFs.cons (s1 := [.i .i64, .i .i64, .i .i64, .i .i64]) (s2 := [.i .i64, .i .i64, .i .i64, .l [.i .i64], .i .i64, .i .i64, .i .i64, .i .i64, .i .i64, .i .i64, .i .i64, .i .i64, .i .i64, .i .i64, .i .i64, .i .i64, .i .i64, .i .i64, .i .i64, .l [.l [.i .u8]], .i .i64, .l [.i .i64, .l [.i .u8]], .i .i64, .i .i64, .i .i64, .i .i64]) rfl Tryz.sh144 (by kernel_rfl) (HasFs.cons (s1 := [.i .i64, .i .i64, .i .i64, .l [.i .i64]]) (s2 := [.i .i64, .i .i64, .i .i64, .i .i64, .i .i64, .i .i64, .i .i64, .i .i64, .i .i64, .i .i64, .i .i64, .i .i64, .i .i64, .i .i64, .i .i64, .l [.l [.i .u8]], .i .i64, .l [.i .i64, .l [.i .u8]], .i .i64, .i .i64, .i .i64, .i .i64]) rfl Tryz.sh145 (by kernel_rfl) (HasFs.cons (s1 := [.i .i64]) (s2 := [.i .i64, .i .i64, .i .i64, .i .i64, .i .i64, .i .i64, .i .i64, .i .i64, .i .i64, .i .i64, .i .i64, .i .i64, .i .i64, .i .i64, .l [.l [.i .u8]], .i .i64, .l [.i .i64, .l [.i .u8]], .i .i64, .i .i64, .i .i64, .i .i64]) rfl Tryz.sh3 (by kernel_rfl) (HasFs.cons (s1 := [.i .i64, .i .i64, .i .i64, .i .i64, .i .i64]) (s2 := [.i .i64, .i .i64, .i .i64, .i .i64, .i .i64, .i .i64, .i .i64, .i .i64, .i .i64, .l [.l [.i .u8]], .i .i64, .l [.i .i64, .l [.i .u8]], .i .i64, .i .i64, .i .i64, .i .i64]) rfl Tryz.sh146 (by kernel_rfl) (HasFs.cons (s1 := [.i .i64]) (s2 := [.i .i64, .i .i64, .i .i64, .i .i64, .i .i64, .i .i64, .i .i64, .i .i64, .l [.l [.i .u8]], .i .i64, .l [.i .i64, .l [.i .u8]], .i .i64, .i .i64, .i .i64, .i .i64]) rfl Tryz.sh3 (by kernel_rfl) (HasFs.cons (s1 := [.i .i64]) (s2 := [.i .i64, .i .i64, .i .i64, .i .i64, .i .i64, .i .i64, .i .i64, .l [.l [.i .u8]], .i .i64, .l [.i .i64, .l [.i .u8]], .i .i64, .i .i64, .i .i64, .i .i64]) rfl Tryz.sh3 (by kernel_rfl) (HasFs.cons (s1 := [.i .i64]) (s2 := [.i .i64, .i .i64, .i .i64, .i .i64, .i .i64, .i .i64, .l [.l [.i .u8]], .i .i64, .l [.i .i64, .l [.i .u8]], .i .i64, .i .i64, .i .i64, .i .i64]) rfl Tryz.sh3 (by kernel_rfl) (HasFs.cons (s1 := [.i .i64]) (s2 := [.i .i64, .i .i64, .i .i64, .i .i64, .i .i64, .l [.l [.i .u8]], .i .i64, .l [.i .i64, .l [.i .u8]], .i .i64, .i .i64, .i .i64, .i .i64]) rfl Tryz.sh3 (by kernel_rfl) (HasFs.cons (s1 := [.i .i64]) (s2 := [.i .i64, .i .i64, .i .i64, .i .i64, .l [.l [.i .u8]], .i .i64, .l [.i .i64, .l [.i .u8]], .i .i64, .i .i64, .i .i64, .i .i64]) rfl Tryz.sh3 (by kernel_rfl) (HasFs.cons (s1 := [.i .i64]) (s2 := [.i .i64, .i .i64, .i .i64, .l [.l [.i .u8]], .i .i64, .l [.i .i64, .l [.i .u8]], .i .i64, .i .i64, .i .i64, .i .i64]) rfl Tryz.sh3 (by kernel_rfl) (HasFs.cons (s1 := [.i .i64, .i .i64, .i .i64]) (s2 := [.l [.l [.i .u8]], .i .i64, .l [.i .i64, .l [.i .u8]], .i .i64, .i .i64, .i .i64, .i .i64]) rfl Tryz.sh147 (by kernel_rfl) (HasFs.cons (s1 := [.l [.l [.i .u8]]]) (s2 := [.i .i64, .l [.i .i64, .l [.i .u8]], .i .i64, .i .i64, .i .i64, .i .i64]) rfl Tryz.sh137 (by kernel_rfl) (HasFs.cons (s1 := [.i .i64, .l [.i .i64, .l [.i .u8]]]) (s2 := [.i .i64, .i .i64, .i .i64, .i .i64]) rfl Tryz.sh149 (by kernel_rfl) (HasFs.cons (s1 := [.i .i64]) (s2 := [.i .i64, .i .i64, .i .i64]) rfl Tryz.sh3 (by kernel_rfl) (HasFs.cons (s1 := [.i .i64, .i .i64, .i .i64]) (s2 := []) rfl Tryz.sh150 (by kernel_rfl) (HasFs.nil)))))))))))))))) (by kernel_rfl)
theorem Tryz.sh26 : HasSh Tryz.prog 26 [.l [.i .i64, .i .i64, .i .i64, .i .i64, .i .i64, .i .i64, .i .i64, .l [.i .i64], .i .i64, .i .i64, .i .i64, .i .i64, .i .i64, .i .i64, .i .i64, .i .i64, .i .i64, .i .i64, .i .i64, .i .i64, .i .i64, .i .i64, .i .i64, .l [.l [.i .u8]], .i .i64, .l [.i .i64, .l [.i .u8]], .i .i64, .i .i64, .i .i64, .i .i64]] := .slice Tryz.underlying26 Tryz.sh152 (by kernel_rfl) (by decide)
theorem Tryz.sh264 : HasSh Tryz.prog 264 [.i .i64, .i .i64] := .struct (ss := [.i .i64, .i .i64]) Tryz.underlying264 (HasFs.cons (s1 := [.i .i64]) (s2 := [.i .i64]) rfl Tryz.sh3 (by kernel_rfl) (HasFs.cons (s1 := [.i .i64]) (s2 := []) rfl Tryz.sh3 (by kernel_rfl) (HasFs.nil))) (by kernel_rfl)
theorem Tryz.sh154 : HasSh Tryz.prog 154 [.l [.i .i64, .i .i64]] := .slice Tryz.underlying154 Tryz.sh264 (by kernel_rfl) (by decide)
theorem Tryz.sh156 : HasSh Tryz.prog 156 [.i .i64, .i .i64, .i .i64, .l [.i .i64, .i .i64]] := .struct (ss := [.i .i64, .i .i64, .i .i64, .l [.i .i64, .i .i64]]) Tryz.underlying156 (HasFs.cons (s1 := [.i .i64]) (s2 := [.i .i64, .i .i64, .l [.i .i64, .i .i64]]) rfl Tryz.sh3 (by kernel_rfl) (HasFs.cons (s1 := [.i .i64]) (s2 := [.i .i64, .l [.i .i64, .i .i64]]) rfl Tryz.sh3 (by kernel_rfl) (HasFs.cons (s1 := [.i .i64]) (s2 := [.l [.i .i64, .i .i64]]) rfl Tryz.sh3 (by kernel_rfl) (HasFs.cons (s1 := [.l [.i .i64, .i .i64]]) (s2 := []) rfl Tryz.sh154 (by kernel_rfl) (HasFs.nil))))) (by kernel_rfl)
theorem Tryz.sh27 : HasSh Tryz.prog 27 [.l [.i .i64, .i .i64, .i .i64, .l [.i .i64, .i .i64]]] := .slice Tryz.underlying27 Tryz.sh156 (by kernel_rfl) (by decide)
theorem Tryz.sh159 : HasSh Tryz.prog 159 [.i .i64, .i .i64, .i .i64, .i .i64, .i .i64, .i .i64, .i .i64, .i .i64, .i .i64, .i .i64, .i .i64] := .struct (ss := [.i .i64, .i .i64, .i .i64, .i .i64, .i .i64, .i .i64, .i .i64, .i .i64, .i .i64, .i .i64, .i .i64]) Tryz.underlying159 (HasFs.cons (s1 := [.i .i64]) (s2 := [.i .i64, .i .i64, .i .i64, .i .i64, .i .i64, .i .i64, .i .i64, .i .i64, .i .i64, .i .i64]) rfl Tryz.sh3 (by kernel_rfl) (HasFs.cons (s1 := [.i .i64]) (s2 := [.i .i64, .i .i64, .i .i64, .i .i64, .i .i64, .i .i64, .i .i64, .i .i64, .i .i64]) rfl Tryz.sh3 (by kernel_rfl) (HasFs.cons (s1 := [.i .i64]) (s2 := [.i .i64, .i .i64, .i .i64, .i .i64, .i .i64, .i .i64, .i .i64, .i .i64]) rfl Tryz.sh3 (by kernel_rfl) (HasFs.cons (s1 := [.i .i64]) (s2 := [.i .i64, .i .i64, .i .i64, .i .i64, .i .i64, .i .i64, .i .i64]) rfl Tryz.sh3 (by kernel_rfl) (HasFs.cons (s1 := [.i .i64]) (s2 := [.i .i64, .i .i64, .i .i64, .i .i64, .i .i64, .i .i64]) rfl Tryz.sh3 (by kernel_rfl) (HasFs.cons (s1 := [.i .i64, .i .i64, .i .i64, .i .i64, .i .i64]) (s2 := [.i .i64]) rfl Tryz.sh146 (by kernel_rfl) (HasFs.cons (s1 := [.i .i64]) (s2 := []) rfl Tryz.sh3 (by kernel_rfl) (HasFs.nil)))))))) (by kernel_rfl)
theorem Tryz.sh160 : HasSh Tryz.prog 160 [.i .i64, .i .i64, .l [.i .u8], .i .i64] := .struct (ss := [.i .i64, .i .i64, .l [.i .u8], .i .i64]) Tryz.underlying160 (HasFs.cons (s1 := [.i .i64]) (s2 := [.i .i64, .l [.i .u8], .i .i64]) rfl Tryz.sh3 (by kernel_rfl) (HasFs.cons (s1 := [.i .i64]) (s2 := [.l [.i .u8], .i .i64]) rfl Tryz.sh3 (by kernel_rfl) (HasFs.cons (s1 := [.l [.i .u8]]) (s2 := [.i .i64]) rfl Tryz.sh58 (by kernel_rfl) (HasFs.cons (s1 := [.i .i64]) (s2 := []) rfl Tryz.sh3 (by kernel_rfl) (HasFs.nil))))) (by kernel_rfl)
theorem Tryz.sh162 : HasSh Tryz.prog 162 [.i .i64, .i .i64, .i .i64, .i .i64, .l [.i .u8], .i .i64] := .struct (ss := [.i .i64, .i .i64, .i .i64, .i .i64, .l [.i .u8], .i .i64]) Tryz.underlying162 (HasFs.cons (s1 := [.i .i64]) (s2 := [.i .i64, .i .i64, .i .i64, .l [.i .u8], .i .i64]) rfl Tryz.sh3 (by kernel_rfl) (HasFs.cons (s1 := [.i .i64]) (s2 := [.i .i64, .i .i64, .l [.i .u8], .i .i64]) rfl Tryz.sh3 (by kernel_rfl) (HasFs.cons (s1 := [.i .i64, .i .i64, .l [.i .u8], .i .i64]) (s2 := []) rfl Tryz.sh160 (by kernel_rfl) (HasFs.nil)))) (by kernel_rfl)
theorem Tryz.sh164 : HasSh Tryz.prog 164 [.i .i64, .b, .b, .i .i64, .i .i64, .i .i64, .i .i64, .i .i64, .i .i64, .i .i64, .i .i64, .i .i64, .i .i64, .i .i64, .i .i64, .i .i64, .i .i64, .i .i64, .i .i64, .l [.i .u8], .i .i64] := .struct (ss := [.i .i64, .b, .b, .i .i64, .i .i64, .i .i64, .i .i64, .i .i64, .i .i64, .i .i64, .i .i64, .i .i64, .i .i64, .i .i64, .i .i64, .i .i64, .i .i64, .i .i64, .i .i64, .l [.i .u8], .i .i64]) Tryz.underlying164 (HasFs.cons (s1 := [.i .i64]) (s2 := [.b, .b, .i .i64, .i .i64, .i .i64, .i .i64, .i .i64, .i .i64, .i .i64, .i .i64, .i .i64, .i .i64, .i .i64, .i .i64, .i .i64, .i .i64, .i .i64, .i .i64, .l [.i .u8], .i .i64]) rfl Tryz.sh3 (by kernel_rfl) (HasFs.cons (s1 := [.b]) (s2 := [.b, .i .i64, .i .i64, .i .i64, .i .i64, .i .i64, .i .i64, .i .i64, .i .i64, .i .i64, .i .i64, .i .i64, .i .i64, .i .i64, .i .i64, .i .i64, .i .i64, .l [.i .u8], .i .i64]) rfl Tryz.sh4 (by kernel_rfl) (HasFs.cons (s1 := [.b]) (s2 := [.i .i64, .i .i64, .i .i64, .i .i64, .i .i64, .i .i64, .i .i64, .i .i64, .i .i64, .i .i64, .i .i64, .i .i64, .i .i64, .i .i64, .i .i64, .i .i64, .l [.i .u8], .i .i64]) rfl Tryz.sh4 (by kernel_rfl) (HasFs.cons (s1 := [.i .i64]) (s2 := [.i .i64, .i .i64, .i .i64, .i .i64, .i .i64, .i .i64, .i .i64, .i .i64, .i .i64, .i .i64, .i .i64, .i .i64, .i .i64, .i .i64, .i .i64, .l [.i .u8], .i .i64]) rfl Tryz.sh3 (by kernel_rfl) (HasFs.cons (s1 := [.i .i64, .i .i64, .i .i64, .i .i64, .i .i64, .i .i64, .i .i64, .i .i64, .i .i64, .i .i64, .i .i64]) (s2 := [.i .i64, .i .i64, .i .i64, .i .i64, .l [.i .u8], .i .i64]) rfl Tryz.sh159 (by kernel_rfl) (HasFs.cons (s1 := [.i .i64, .i .i64, .i .i64, .i .i64, .l [.i .u8], .i .i64]) (s2 := []) rfl Tryz.sh162 (by kernel_rfl) (HasFs.nil))))))) (by kernel_rfl)
theorem Tryz.sh28 : HasSh Tryz.prog 28 [.l [.i .i64, .b, .b, .i .i64, .i .i64, .i .i64, .i .i64, .i .i64, .i .i64, .i .i64, .i .i64, .i .i64, .i .i64, .i .i64, .i .i64, .i .i64, .i .i64, .i .i64, .i .i64, .l [.i .u8], .i .i64]] := .slice Tryz.underlying28 Tryz.sh164 (by kernel_rfl) (by decide)
theorem Tryz.sh30 : HasSh Tryz.prog 30 [.i .i64, .i .i64] := .struct (ss := [.i .i64, .i .i64]) Tryz.underlying30 (HasFs.cons (s1 := [.i .i64]) (s2 := [.i .i64]) rfl Tryz.sh3 (by kernel_rfl) (HasFs.cons (s1 := [.i .i64]) (s2 := []) rfl Tryz.sh3 (by kernel_rfl) (HasFs.nil))) (by kernel_rfl)
theorem Tryz.sh32 : HasSh Tryz.prog 32 [.l [.i .i64, .l [.i .i64]], .l [.i .i64, .i .i64, .i .i64, .i .i64, .i .i64, .i .i64, .i .i64, .i .i64, .i .i64, .b, .i .i64, .i .i64, .l [.i .i64, .l [.i .u8]], .l [.l [.i .u8]]], .l [.i .i64, .i .i64, .i .i64, .i .i64, .i .i64, .i .i64, .i .i64, .l [.i .i64], .i .i64, .i .i64, .i .i64, .i .i64, .i .i64, .i .i64, .i .i64, .i .i64, .i .i64, .i .i64, .i .i64, .i .i64, .i .i64, .i .i64, .i .i64, .l [.l [.i .u8]], .i .i64, .l [.i .i64, .l [.i .u8]], .i .i64, .i .i64, .i .i64, .i .i64], .l [.i .i64, .i .i64, .i .i64, .l [.i .i64, .i .i64]], .l [.i .i64, .b, .b, .i .i64, .i .i64, .i .i64, .i .i64, .i .i64, .i .i64, .i .i64, .i .i64, .i .i64, .i .i64, .i .i64, .i .i64, .i .i64, .i .i64, .i .i64, .i .i64, .l [.i .u8], .i .i64], .i .i64, .i .i64, .i .i64, .i .i64, .i .i64] := .struct (ss := [.l [.i .i64, .l [.i .i64]], .l [.i .i64, .i .i64, .i .i64, .i .i64, .i .i64, .i .i64, .i .i64, .i .i64, .i .i64, .b, .i .i64, .i .i64, .l [.i .i64, .l [.i .u8]], .l [.l [.i .u8]]], .l [.i .i64, .i .i64, .i .i64, .i .i64, .i .i64, .i .i64, .i .i64, .l [.i .i64], .i .i64, .i .i64, .i .i64, .i .i64, .i .i64, .i .i64, .i .i64, .i .i64, .i .i64, .i .i64, .i .i64, .i .i64, .i .i64, .i .i64, .i .i64, .l [.l [.i .u8]], .i .i64, .l [.i .i64, .l [.i .u8]], .i .i64, .i .i64, .i .i64, .i .i64], .l [.i .i64, .i .i64, .i .i64, .l [.i .i64, .i .i64]], .l [.i .i64, .b, .b, .i .i64, .i .i64, .i .i64, .i .i64, .i .i64, .i .i64, .i .i64, .i .i64, .i .i64, .i .i64, .i .i64, .i .i64, .i .i64, .i .i64, .i .i64, .i .i64, .l [.i .u8], .i .i64], .i .i64, .i .i64, .i .i64, .i .i64, .i .i64]) Tryz.underlying32 (HasFs.cons (s1 := [.l [.i .i64, .l [.i .i64]]]) (s2 := [.l [.i .i64, .i .i64, .i .i64, .i .i64, .i .i64, .i .i64, .i .i64, .i .i64, .i .i64, .b, .i .i64, .i .i64, .l [.i .i64, .l [.i .u8]], .l [.l [.i .u8]]], .l [.i .i64, .i .i64, .i .i64, .i .i64, .i .i64, .i .i64, .i .i64, .l [.i .i64], .i .i64, .i .i64, .i .i64, .i .i64, .i .i64, .i .i64, .i .i64, .i .i64, .i .i64, .i .i64, .i .i64, .i .i64, .i .i64, .i .i64, .i .i64, .l [.l [.i .u8]], .i .i64, .l [.i .i64, .l [.i .u8]], .i .i64, .i .i64, .i .i64, .i .i64], .l [.i .i64, .i .i64, .i .i64, .l [.i .i64, .i .i64]], .l [.i .i64, .b, .b, .i .i64, .i .i64, .i .i64, .i .i64, .i .i64, .i .i64, .i .i64, .i .i64, .i .i64, .i .i64, .i .i64, .i .i64, .i .i64, .i .i64, .i .i64, .i .i64, .l [.i .u8], .i .i64], .i .i64, .i .i64, .i .i64, .i .i64, .i .i64]) rfl Tryz.sh24 (by kernel_rfl) (HasFs.cons (s1 := [.l [.i .i64, .i .i64, .i .i64, .i .i64, .i .i64, .i .i64, .i .i64, .i .i64, .i .i64, .b, .i .i64, .i .i64, .l [.i .i64, .l [.i .u8]], .l [.l [.i .u8]]]]) (s2 := [.l [.i .i64, .i .i64, .i .i64, .i .i64, .i .i64, .i .i64, .i .i64, .l [.i .i64], .i .i64, .i .i64, .i .i64, .i .i64, .i .i64, .i .i64, .i .i64, .i .i64, .i .i64, .i .i64, .i .i64, .i .i64, .i .i64, .i .i64, .i .i64, .l [.l [.i .u8]], .i .i64, .l [.i .i64, .l [.i .u8]], .i .i64, .i .i64, .i .i64, .i .i64], .l [.i .i64, .i .i64, .i .i64, .l [.i .i64, .i .i64]], .l [.i .i64, .b, .b, .i .i64, .i .i64, .i .i64, .i .i64, .i .i64, .i .i64, .i .i64, .i .i64, .i .i64, .i .i64, .i .i64, .i .i64, .i .i64, .i .i64, .i .i64, .i .i64, .l [.i .u8], .i .i64], .i .i64, .i .i64, .i .i64, .i .i64, .i .i64]) rfl Tryz.sh25 (by kernel_rfl) (HasFs.cons (s1 := [.l [.i .i64, .i .i64, .i .i64, .i .i64, .i .i64, .i .i64, .i .i64, .l [.i .i64], .i .i64, .i .i64, .i .i64, .i .i64, .i .i64, .i .i64, .i .i64, .i .i64, .i .i64, .i .i64, .i .i64, .i .i64, .i .i64, .i .i64, .i .i64, .l [.l [.i .u8]], .i .i64, .l [.i .i64, .l [.i .u8]], .i .i64, .i .i64, .i .i64, .i .i64]]) (s2 := [.l [.i .i64, .i .i64, .i .i64, .l [.i .i64, .i .i64]], .l [.i .i64, .b, .b, .i .i64, .i .i64, .i .i64, .i .i64, .i .i64, .i .i64, .i .i64, .i .i64, .i .i64, .i .i64, .i .i64, .i .i64, .i .i64, .i .i64, .i .i64, .i .i64, .l [.i .u8], .i .i64], .i .i64, .i .i64, .i .i64, .i .i64, .i .i64]) rfl Tryz.sh26 (by kernel_rfl) (HasFs.cons (s1 := [.l [.i .i64, .i .i64, .i .i64, .l [.i .i64, .i .i64]]]) (s2 := [.l [.i .i64, .b, .b, .i .i64, .i .i64, .i .i64, .i .i64, .i .i64, .i .i64, .i .i64, .i .i64, .i .i64, .i .i64, .i .i64, .i .i64, .i .i64, .i .i64, .i .i64, .i .i64, .l [.i .u8], .i .i64], .i .i64, .i .i64, .i .i64, .i .i64, .i .i64]) rfl Tryz.sh27 (by kernel_rfl) (HasFs.cons (s1 := [.l [.i .i64, .b, .b, .i .i64, .i .i64, .i .i64, .i .i64, .i .i64, .i .i64, .i .i64, .i .i64, .i .i64, .i .i64, .i .i64, .i .i64, .i .i64, .i .i64, .i .i64, .i .i64, .l [.i .u8], .i .i64]]) (s2 := [.i .i64, .i .i64, .i .i64, .i .i64, .i .i64]) rfl Tryz.sh28 (by kernel_rfl) (HasFs.cons (s1 := [.i .i64]) (s2 := [.i .i64, .i .i64, .i .i64, .i .i64]) rfl Tryz.sh3 (by kernel_rfl) (HasFs.cons (s1 := [.i .i64, .i .i64]) (s2 := [.i .i64, .i .i64]) rfl Tryz.sh30 (by kernel_rfl) (HasFs.cons (s1 := [.i .i64]) (s2 := [.i .i64]) rfl Tryz.sh3 (by kernel_rfl) (HasFs.cons (s1 := [.i .i64]) (s2 := []) rfl Tryz.sh3 (by kernel_rfl) (HasFs.nil)))))))))) (by kernel_rfl)
theorem Tryz.sh72 : HasSh Tryz.prog 72 [.l [.i .i64]] := .struct (ss := [.l [.i .i64]]) Tryz.underlying72 (HasFs.cons (s1 := [.l [.i .i64]]) (s2 := []) rfl Tryz.sh36 (by kernel_rfl) (HasFs.nil)) (by kernel_rfl)
theorem Tryz.sh74 : HasSh Tryz.prog 74 [.i .i64, .l [.i .i64]] := .struct (ss := [.i .i64, .l [.i .i64]]) Tryz.underlying74 (HasFs.cons (s1 := [.i .i64]) (s2 := [.l [.i .i64]]) rfl Tryz.sh3 (by kernel_rfl) (HasFs.cons (s1 := [.l [.i .i64]]) (s2 := []) rfl Tryz.sh72 (by kernel_rfl) (HasFs.nil))) (by kernel_rfl)
theorem Tryz.sh33 : HasSh Tryz.prog 33 [.l [.i .i64, .l [.i .i64]]] := .slice Tryz.underlying33 Tryz.sh74 (by kernel_rfl) (by decide)
theorem Tryz.sh213 : HasSh Tryz.prog 213 [.i .i64, .l [.i .i64]] := .struct (ss := [.i .i64, .l [.i .i64]]) Tryz.underlying213 (HasFs.cons (s1 := [.i .i64]) (s2 := [.l [.i .i64]]) rfl Tryz.sh3 (by kernel_rfl) (HasFs.cons (s1 := [.l [.i .i64]]) (s2 := []) rfl Tryz.sh36 (by kernel_rfl) (HasFs.nil))) (by kernel_rfl)
theorem Tryz.sh38 : HasSh Tryz.prog 38 [.l [.i .i64, .l [.i .i64]]] := .slice Tryz.underlying38 Tryz.sh213 (by kernel_rfl) (by decide)
theorem Tryz.sh40 : HasSh Tryz.prog 40 [.l [.i .i64, .l [.i .i64]]] := .struct (ss := [.l [.i .i64, .l [.i .i64]]]) Tryz.underlying40 (HasFs.cons (s1 := [.l [.i .i64, .l [.i .i64]]]) (s2 := []) rfl Tryz.sh38 (by kernel_rfl) (HasFs.nil)) (by kernel_rfl)
theorem Tryz.sh111 : HasSh Tryz.prog 111 [.i .i64, .i .i64] := .struct (ss := [.i .i64, .i .i64]) Tryz.underlying111 (HasFs.cons (s1 := [.i .i64]) (s2 := [.i .i64]) rfl Tryz.sh3 (by kernel_rfl) (HasFs.cons (s1 := [.i .i64]) (s2 := []) rfl Tryz.sh3 (by kernel_rfl) (HasFs.nil))) (by kernel_rfl)
theorem Tryz.sh170 : HasSh Tryz.prog 170 [.i .i64, .i .i64, .i .i64, .i .i64] := .struct (ss := [.i .i64, .i .i64, .i .i64, .i .i64]) Tryz.underlying170 (HasFs.cons (s1 := [.i .i64, .i .i64]) (s2 := [.i .i64, .i .i64]) rfl Tryz.sh111 (by kernel_rfl) (HasFs.cons (s1 := [.i .i64]) (s2 := [.i .i64]) rfl Tryz.sh3 (by kernel_rfl) (HasFs.cons (s1 := [.i .i64]) (s2 := []) rfl Tryz.sh3 (by kernel_rfl) (HasFs.nil)))) (by kernel_rfl)
theorem Tryz.sh127 : HasSh Tryz.prog 127 [.i .i64, .l [.i .u8]] := .struct (ss := [.i .i64, .l [.i .u8]]) Tryz.underlying127 (HasFs.cons (s1 := [.i .i64]) (s2 := [.l [.i .u8]]) rfl Tryz.sh3 (by kernel_rfl) (HasFs.cons (s1 := [.l [.i .u8]]) (s2 := []) rfl Tryz.sh58 (by kernel_rfl) (HasFs.nil))) (by kernel_rfl)
theorem Tryz.sh119 : HasSh Tryz.prog 119 [.l [.i .i64, .l [.i .u8]]] := .slice Tryz.underlying119 Tryz.sh127 (by kernel_rfl) (by decide)
theorem Tryz.sh241 : HasSh Tryz.prog 241 [.l [.i .u8]] := .struct (ss := [.l [.i .u8]]) Tryz.underlying241 (HasFs.cons (s1 := [.l [.i .u8]]) (s2 := []) rfl Tryz.sh58 (by kernel_rfl) (HasFs.nil)) (by kernel_rfl)
theorem Tryz.sh118 : HasSh Tryz.prog 118 [.l [.l [.i .u8]]] := .slice Tryz.underlying118 Tryz.sh241 (by kernel_rfl) (by decide)
theorem Tryz.sh172 : HasSh Tryz.prog 172 [.i .i64, .l [.i .i64, .l [.i .u8]], .l [.l [.i .u8]]] := .struct (ss := [.i .i64, .l [.i .i64, .l [.i .u8]], .l [.l [.i .u8]]]) Tryz.underlying172 (HasFs.cons (s1 := [.i .i64]) (s2 := [.l [.i .i64, .l [.i .u8]], .l [.l [.i .u8]]]) rfl Tryz.sh3 (by kernel_rfl) (HasFs.cons (s1 := [.l [.i .i64, .l [.i .u8]]]) (s2 := [.l [.l [.i .u8]]]) rfl Tryz.sh119 (by kernel_rfl) (HasFs.cons (s1 := [.l [.l [.i .u8]]]) (s2 := []) rfl Tryz.sh118 (by kernel_rfl) (HasFs.nil)))) (by kernel_rfl)
theorem Tryz.sh174 : HasSh Tryz.prog 174 [.i .i64, .i .i64, .i .i64, .i .i64, .i .i64, .i .i64, .i .i64, .i .i64, .i .i64, .b, .i .i64, .i .i64, .l [.i .i64, .l [.i .u8]], .l [.l [.i .u8]]] := .struct (ss := [.i .i64, .i .i64, .i .i64, .i .i64, .i .i64, .i .i64, .i .i64, .i .i64, .i .i64, .b, .i .i64, .i .i64, .l [.i .i64, .l [.i .u8]], .l [.l [.i .u8]]]) Tryz.underlying174 (HasFs.cons (s1 := [.i .i64, .i .i64, .i .i64, .i .i64]) (s2 := [.i .i64, .i .i64, .i .i64, .i .i64, .i .i64, .b, .i .i64, .i .i64, .l [.i .i64, .l [.i .u8]], .l [.l [.i .u8]]]) rfl Tryz.sh170 (by kernel_rfl) (HasFs.cons (s1 := [.i .i64]) (s2 := [.i .i64, .i .i64, .i .i64, .i .i64, .b, .i .i64, .i .i64, .l [.i .i64, .l [.i .u8]], .l [.l [.i .u8]]]) rfl Tryz.sh3 (by kernel_rfl) (HasFs.cons (s1 := [.i .i64]) (s2 := [.i .i64, .i .i64, .i .i64, .b, .i .i64, .i .i64, .l [.i .i64, .l [.i .u8]], .l [.l [.i .u8]]]) rfl Tryz.sh3 (by kernel_rfl) (HasFs.cons (s1 := [.i .i64]) (s2 := [.i .i64, .i .i64, .b, .i .i64, .i .i64, .l [.i .i64, .l [.i .u8]], .l [.l [.i .u8]]]) rfl Tryz.sh3 (by kernel_rfl) (HasFs.cons (s1 := [.i .i64]) (s2 := [.i .i64, .b, .i .i64, .i .i64, .l [.i .i64, .l [.i .u8]], .l [.l [.i .u8]]]) rfl Tryz.sh3 (by kernel_rfl) (HasFs.cons (s1 := [.i .i64]) (s2 := [.b, .i .i64, .i .i64, .l [.i .i64, .l [.i .u8]], .l [.l [.i .u8]]]) rfl Tryz.sh3 (by kernel_rfl) (HasFs.cons (s1 := [.b]) (s2 := [.i .i64, .i .i64, .l [.i .i64, .l [.i .u8]], .l [.l [.i .u8]]]) rfl Tryz.sh4 (by kernel_rfl) (HasFs.cons (s1 := [.i .i64]) (s2 := [.i .i64, .l [.i .i64, .l [.i .u8]], .l [.l [.i .u8]]]) rfl Tryz.sh3 (by kernel_rfl) (HasFs.cons (s1 := [.i .i64, .l [.i .i64, .l [.i .u8]], .l [.l [.i .u8]]]) (s2 := []) rfl Tryz.sh172 (by kernel_rfl) (HasFs.nil)))))))))) (by kernel_rfl)
theorem Tryz.sh41 : HasSh Tryz.prog 41 [.l [.i .i64, .i .i64, .i .i64, .i .i64, .i .i64, .i .i64, .i .i64, .i .i64, .i .i64, .b, .i .i64, .i .i64, .l [.i .i64, .l [.i .u8]], .l [.l [.i .u8]]]] := .slice Tryz.underlying41 Tryz.sh174 (by kernel_rfl) (by decide)
theorem Tryz.sh113 : HasSh Tryz.prog 113 [.i .i64, .i .i64, .i .i64, .i .i64] := .struct (ss := [.i .i64, .i .i64, .i .i64, .i .i64]) Tryz.underlying113 (HasFs.cons (s1 := [.i .i64, .i .i64]) (s2 := [.i .i64, .i .i64]) rfl Tryz.sh111 (by kernel_rfl) (HasFs.cons (s1 := [.i .i64]) (s2 := [.i .i64]) rfl Tryz.sh3 (by kernel_rfl) (HasFs.cons (s1 := [.i .i64]) (s2 := []) rfl Tryz.sh3 (by kernel_rfl) (HasFs.nil)))) (by kernel_rfl)
theorem Tryz.sh115 : HasSh Tryz.prog 115 [.i .i64, .i .i64, .i .i64, .l [.i .i64]] := .struct (ss := [.i .i64, .i .i64, .i .i64, .l [.i .i64]]) Tryz.underlying115 (HasFs.cons (s1 := [.i .i64]) (s2 := [.i .i64, .i .i64, .l [.i .i64]]) rfl Tryz.sh3 (by kernel_rfl) (HasFs.cons (s1 := [.i .i64]) (s2 := [.i .i64, .l [.i .i64]]) rfl Tryz.sh3 (by kernel_rfl) (HasFs.cons (s1 := [.i .i64]) (s2 := [.l [.i .i64]]) rfl Tryz.sh3 (by kernel_rfl) (HasFs.cons (s1 := [.l [.i .i64]]) (s2 := []) rfl Tryz.sh36 (by kernel_rfl) (HasFs.nil))))) (by kernel_rfl)
theorem Tryz.sh76 : HasSh Tryz.prog 76 [.i .i64, .i .i64, .i .i64, .i .i64, .i .i64] := .struct (ss := [.i .i64, .i .i64, .i .i64, .i .i64, .i .i64]) Tryz.underlying76 (HasFs.cons (s1 := [.i .i64]) (s2 := [.i .i64, .i .i64, .i .i64, .i .i64]) rfl Tryz.sh3 (by kernel_rfl) (HasFs.cons (s1 := [.i .i64]) (s2 := [.i .i64, .i .i64, .i .i64]) rfl Tryz.sh3 (by kernel_rfl) (HasFs.cons (s1 := [.i .i64]) (s2 := [.i .i64, .i .i64]) rfl Tryz.sh3 (by kernel_rfl) (HasFs.cons (s1 := [.i .i64]) (s2 := [.i .i64]) rfl Tryz.sh3 (by kernel_rfl) (HasFs.cons (s1 := [.i .i64]) (s2 := []) rfl Tryz.sh3 (by kernel_rfl) (HasFs.nil)))))) (by kernel_rfl)
theorem Tryz.sh117 : HasSh Tryz.prog 117 [.i .i64, .i .i64, .i .i64] := .struct (ss := [.i .i64, .i .i64, .i .i64]) Tryz.underlying117 (HasFs.cons (s1 := [.i .i64]) (s2 := [.i .i64, .i .i64]) rfl Tryz.sh3 (by kernel_rfl) (HasFs.cons (s1 := [.i .i64]) (s2 := [.i .i64]) rfl Tryz.sh3 (by kernel_rfl) (HasFs.cons (s1 := [.i .i64]) (s2 := []) rfl Tryz.sh3 (by kernel_rfl) (HasFs.nil)))) (by kernel_rfl)
theorem Tryz.sh121 : HasSh Tryz.prog 121 [.i .i64, .l [.i .i64, .l [.i .u8]]] := .struct (ss := [.i .i64, .l [.i .i64, .l [.i .u8]]]) Tryz.underlying121 (HasFs.cons (s1 := [.i .i64]) (s2 := [.l [.i .i64, .l [.i .u8]]]) rfl Tryz.sh3 (by kernel_rfl) (HasFs.cons (s1 := [.l [.i .i64, .l [.i .u8]]]) (s2 := []) rfl Tryz.sh119 (by kernel_rfl) (HasFs.nil))) (by kernel_rfl)
theorem Tryz.sh123 : HasSh Tryz.prog 123 [.i .i64, .i .i64, .i .i64] := .struct (ss := [.i .i64, .i .i64, .i .i64]) Tryz.underlying123 (HasFs.cons (s1 := [.i .i64]) (s2 := [.i .i64, .i .i64]) rfl Tryz.sh3 (by kernel_rfl) (HasFs.cons (s1 := [.i .i64]) (s2 := [.i .i64]) rfl Tryz.sh3 (by kernel_rfl) (HasFs.cons (s1 := [.i .i64]) (s2 := []) rfl Tryz.sh3 (by kernel_rfl) (HasFs.nil)))) (by kernel_rfl)
theorem Tryz.sh125 : HasSh Tryz.prog 125 [.i .i64, .i .i64, .i .i64, .i .i64, .i .i64, .i .i64, .i .i64, .l [.i .i64], .i .i64, .i .i64, .i .i64, .i .i64, .i .i64, .i .i64, .i .i64, .i .i64, .i .i64, .i .i64, .i .i64, .i .i64, .i .i64, .i .i64, .i .i64, .l [.l [.i .u8]], .i .i64, .l [.i .i64, .l [.i .u8]], .i .i64, .i .i64, .i .i64, .i .i64] := .struct (ss := [.i .i64, .i .i64, .i .i64, .i .i64, .i .i64, .i .i64, .i .i64, .l [.i .i64], .i .i64, .i .i64, .i .i64, .i .i64, .i .i64, .i .i64, .i .i64, .i .i64, .i .i64, .i .i64, .i .i64, .i .i64, .i .i64, .i .i64, .i .i64, .l [.l [.i .u8]], .i .i64, .l [.i .i64, .l [.i .u8]], .i .i64, .i .i64, .i .i64, .i .i64]) Tryz.underlying125 (HasFs.cons (s1 := [.i .i64, .i .i64, .i .i64, .i .i64]) (s2 := [.i .i64, .i .i64, .i .i64, .l [.i .i64], .i .i64, .i .i64, .i .i64, .i .i64, .i .i64, .i .i64, .i .i64, .i .i64, .i .i64, .i .i64, .i .i64, .i .i64, .i .i64, .i .i64, .i .i64, .l [.l [.i .u8]], .i .i64, .l [.i .i64, .l [.i .u8]], .i .i64, .i .i64, .i .i64, .i .i64]) rfl Tryz.sh113 (by kernel_rfl) (HasFs.cons (s1 := [.i .i64, .i .i64, .i .i64, .l [.i .i64]]) (s2 := [.i .i64, .i .i64, .i .i64, .i .i64, .i .i64, .i .i64, .i .i64, .i .i64, .i .i64, .i .i64, .i .i64, .i .i64, .i .i64, .i .i64, .i .i64, .l [.l [.i .u8]], .i .i64, .l [.i .i64, .l [.i .u8]], .i .i64, .i .i64, .i .i64, .i .i64]) rfl Tryz.sh115 (by kernel_rfl) (HasFs.cons (s1 := [.i .i64]) (s2 := [.i .i64, .i .i64, .i .i64, .i .i64, .i .i64, .i .i64, .i .i64, .i .i64, .i .i64, .i .i64, .i .i64, .i .i64, .i .i64, .i .i64, .l [.l [.i .u8]], .i .i64, .l [.i .i64, .l [.i .u8]], .i .i64, .i .i64, .i .i64, .i .i64]) rfl Tryz.sh3 (by kernel_rfl) (HasFs.cons (s1 := [.i .i64, .i .i64, .i .i64, .i .i64, .i .i64]) (s2 := [.i .i64, .i .i64, .i .i64, .i .i64, .i .i64, .i .i64, .i .i64, .i .i64, .i .i64, .l [.l [.i .u8]], .i .i64, .l [.i .i64, .l [.i .u8]], .i .i64, .i .i64, .i .i64, .i .i64]) rfl Tryz.sh76 (by kernel_rfl) (HasFs.cons (s1 := [.i .i64]) (s2 := [.i .i64, .i .i64, .i .i64, .i .i64, .i .i64, .i .i64, .i .i64, .i .i64, .l [.l [.i .u8]], .i .i64, .l [.i .i64, .l [.i .u8]], .i .i64, .i .i64, .i .i64, .i .i64]) rfl Tryz.sh3 (by kernel_rfl) (HasFs.cons (s1 := [.i .i64]) (s2 := [.i .i64, .i .i64, .i .i64, .i .i64, .i .i64, .i .i64, .i .i64, .l [.l [.i .u8]], .i .i64, .l [.i .i64, .l [.i .u8]], .i .i64, .i .i64, .i .i64, .i .i64]) rfl Tryz.sh3 (by kernel_rfl) (HasFs.cons (s1 := [.i .i64]) (s2 := [.i .i64, .i .i64, .i .i64, .i .i64, .i .i64, .i .i64, .l [.l [.i .u8]], .i .i64, .l [.i .i64, .l [.i .u8]], .i .i64, .i .i64, .i .i64, .i .i64]) rfl Tryz.sh3 (by kernel_rfl) (HasFs.cons (s1 := [.i .i64]) (s2 := [.i .i64, .i .i64, .i .i64, .i .i64, .i .i64, .l [.l [.i .u8]], .i .i64, .l [.i .i64, .l [.i .u8]], .i .i64, .i .i64, .i .i64, .i .i64]) rfl Tryz.sh3 (by kernel_rfl) (HasFs.cons (s1 := [.i .i64]) (s2 := [.i .i64, .i .i64, .i .i64, .i .i64, .l [.l [.i .u8]], .i .i64, .l [.i .i64, .l [.i .u8]], .i .i64, .i .i64, .i .i64, .i .i64]) rfl Tryz.sh3 (by kernel_rfl) (HasFs.cons (s1 := [.i .i64]) (s2 := [.i .i64, .i .i64, .i .i64, .l [.l [.i .u8]], .i .i64, .l [.i .i64, .l [.i .u8]], .i .i64, .i .i64, .i .i64, .i .i64]) rfl Tryz.sh3 (by kernel_rfl) (HasFs.cons (s1 := [.i .i64, .i .i64, .i .i64]) (s2 := [.l [.l [.i .u8]], .i .i64, .l [.i .i64, .l [.i .u8]], .i .i64, .i .i64, .i .i64, .i .i64]) rfl Tryz.sh117 (by kernel_rfl) (HasFs.cons (s1 := [.l [.l [.i .u8]]]) (s2 := [.i .i64, .l [.i .i64, .l [.i .u8]], .i .i64, .i .i64, .i .i64, .i .i64]) rfl Tryz.sh118 (by kernel_rfl) (HasFs.cons (s1 := [.i .i64, .l [.i .i64, .l [.i .u8]]]) (s2 := [.i .i64, .i .i64, .i .i64, .i .i64]) rfl Tryz.sh121 (by kernel_rfl) (HasFs.cons (s1 := [.i .i64]) (s2 := [.i .i64, .i .i64, .i .i64]) rfl Tryz.sh3 (by kernel_rfl) (HasFs.cons (s1 := [.i .i64, .i .i64, .i .i64]) (s2 := []) rfl Tryz.sh123 (by kernel_rfl) (HasFs.nil)))))))))))))))) (by kernel_rfl)
theorem Tryz.sh42 : HasSh Tryz.prog 42 [.l [.i .i64, .i .i64, .i .i64, .i .i64, .i .i64, .i .i64, .i .i64, .l [.i .i64], .i .i64, .i .i64, .i .i64, .i .i64, .i .i64, .i .i64, .i .i64, .i .i64, .i .i64, .i .i64, .i .i64, .i .i64, .i .i64, .i .i64, .i .i64, .l [.l [.i .u8]], .i .i64, .l [.i .i64, .l [.i .u8]], .i .i64, .i .i64, .i .i64, .i .i64]] := .slice Tryz.underlying42 Tryz.sh125 (by kernel_rfl) (by decide)
theorem Tryz.sh243 : HasSh Tryz.prog 243 [.i .i64, .i .i64] := .struct (ss := [.i .i64, .i .i64]) Tryz.underlying243 (HasFs.cons (s1 := [.i .i64]) (s2 := [.i .i64]) rfl Tryz.sh3 (by kernel_rfl) (HasFs.cons (s1 := [.i .i64]) (s2 := []) rfl Tryz.sh3 (by kernel_rfl) (HasFs.nil))) (by kernel_rfl)
theorem Tryz.sh177 : HasSh Tryz.prog 177 [.l [.i .i64, .i .i64]] := .slice Tryz.underlying177 Tryz.sh243 (by kernel_rfl) (by decide)
theorem Tryz.sh179 : HasSh Tryz.prog 179 [.i .i64, .i .i64, .i .i64, .l [.i .i64, .i .i64]] := .struct (ss := [.i .i64, .i .i64, .i .i64, .l [.i .i64, .i .i64]]) Tryz.underlying179 (HasFs.cons (s1 := [.i .i64]) (s2 := [.i .i64, .i .i64, .l [.i .i64, .i .i64]]) rfl Tryz.sh3 (by kernel_rfl) (HasFs.cons (s1 := [.i .i64]) (s2 := [.i .i64, .l [.i .i64, .i .i64]]) rfl Tryz.sh3 (by kernel_rfl) (HasFs.cons (s1 := [.i .i64]) (s2 := [.l [.i .i64, .i .i64]]) rfl Tryz.sh3 (by kernel_rfl) (HasFs.cons (s1 := [.l [.i .i64, .i .i64]]) (s2 := []) rfl Tryz.sh177 (by kernel_rfl) (HasFs.nil))))) (by kernel_rfl)
theorem Tryz.sh43 : HasSh Tryz.prog 43 [.l [.i .i64, .i .i64, .i .i64, .l [.i .i64, .i .i64]]] := .slice Tryz.underlying43 Tryz.sh179 (by kernel_rfl) (by decide)
theorem Tryz.sh78 : HasSh Tryz.prog 78 [.i .i64, .i .i64, .i .i64, .i .i64, .i .i64, .i .i64, .i .i64, .i .i64, .i .i64, .i .i64, .i .i64] := .struct (ss := [.i .i64, .i .i64, .i .i64, .i .i64, .i .i64, .i .i64, .i .i64, .i .i64, .i .i64, .i .i64, .i .i64]) Tryz.underlying78 (HasFs.cons (s1 := [.i .i64]) (s2 := [.i .i64, .i .i64, .i .i64, .i .i64, .i .i64, .i .i64, .i .i64, .i .i64, .i .i64, .i .i64]) rfl Tryz.sh3 (by kernel_rfl) (HasFs.cons (s1 := [.i .i64]) (s2 := [.i .i64, .i .i64, .i .i64, .i .i64, .i .i64, .i .i64, .i .i64, .i .i64, .i .i64]) rfl Tryz.sh3 (by kernel_rfl) (HasFs.cons (s1 := [.i .i64]) (s2 := [.i .i64, .i .i64, .i .i64, .i .i64, .i .i64, .i .i64, .i .i64, .i .i64]) rfl Tryz.sh3 (by kernel_rfl) (HasFs.cons (s1 := [.i .i64]) (s2 := [.i .i64, .i .i64, .i .i64, .i .i64, .i .i64, .i .i64, .i .i64]) rfl Tryz.sh3 (by kernel_rfl) (HasFs.cons (s1 := [.i .i64]) (s2 := [.i .i64, .i .i64, .i .i64, .i .i64, .i .i64, .i .i64]) rfl Tryz.sh3 (by kernel_rfl) (HasFs.cons (s1 := [.i .i64, .i .i64, .i .i64, .i .i64, .i .i64]) (s2 := [.i .i64]) rfl Tryz.sh76 (by kernel_rfl) (HasFs.cons (s1 := [.i .i64]) (s2 := []) rfl Tryz.sh3 (by kernel_rfl) (HasFs.nil)))))))) (by kernel_rfl)
theorem Tryz.sh80 : HasSh Tryz.prog 80 [.i .i64, .i .i64, .l [.i .u8], .i .i64] := .struct (ss := [.i .i64, .i .i64, .l [.i .u8], .i .i64]) Tryz.underlying80 (HasFs.cons (s1 := [.i .i64]) (s2 := [.i .i64, .l [.i .u8], .i .i64]) rfl Tryz.sh3 (by kernel_rfl) (HasFs.cons (s1 := [.i .i64]) (s2 := [.l [.i .u8], .i .i64]) rfl Tryz.sh3 (by kernel_rfl) (HasFs.cons (s1 := [.l [.i .u8]]) (s2 := [.i .i64]) rfl Tryz.sh58 (by kernel_rfl) (HasFs.cons (s1 := [.i .i64]) (s2 := []) rfl Tryz.sh3 (by kernel_rfl) (HasFs.nil))))) (by kernel_rfl)
theorem Tryz.sh82 : HasSh Tryz.prog 82 [.i .i64, .i .i64, .i .i64, .i .i64, .l [.i .u8], .i .i64] := .struct (ss := [.i .i64, .i .i64, .i .i64, .i .i64, .l [.i .u8], .i .i64]) Tryz.underlying82 (HasFs.cons (s1 := [.i .i64]) (s2 := [.i .i64, .i .i64, .i .i64, .l [.i .u8], .i .i64]) rfl Tryz.sh3 (by kernel_rfl) (HasFs.cons (s1 := [.i .i64]) (s2 := [.i .i64, .i .i64, .l [.i .u8], .i .i64]) rfl Tryz.sh3 (by kernel_rfl) (HasFs.cons (s1 := [.i .i64, .i .i64, .l [.i .u8], .i .i64]) (s2 := []) rfl Tryz.sh80 (by kernel_rfl) (HasFs.nil)))) (by kernel_rfl)
theorem Tryz.sh84 : HasSh Tryz.prog 84 [.i .i64, .b, .b, .i .i64, .i .i64, .i .i64, .i .i64, .i .i64, .i .i64, .i .i64, .i .i64, .i .i64, .i .i64, .i .i64, .i .i64, .i .i64, .i .i64, .i .i64, .i .i64, .l [.i .u8], .i .i64] := .struct (ss := [.i .i64, .b, .b, .i .i64, .i .i64, .i .i64, .i .i64, .i .i64, .i .i64, .i .i64, .i .i64, .i .i64, .i .i64, .i .i64, .i .i64, .i .i64, .i .i64, .i .i64, .i .i64, .l [.i .u8], .i .i64]) Tryz.underlying84 (HasFs.cons (s1 := [.i .i64]) (s2 := [.b, .b, .i .i64, .i .i64, .i .i64, .i .i64, .i .i64, .i .i64, .i .i64, .i .i64, .i .i64, .i .i64, .i .i64, .i .i64, .i .i64, .i .i64, .i .i64, .i .i64, .l [.i .u8], .i .i64]) rfl Tryz.sh3 (by kernel_rfl) (HasFs.cons (s1 := [.b]) (s2 := [.b, .i .i64, .i .i64, .i .i64, .i .i64, .i .i64, .i .i64, .i .i64, .i .i64, .i .i64, .i .i64, .i .i64, .i .i64, .i .i64, .i .i64, .i .i64, .i .i64, .l [.i .u8], .i .i64]) rfl Tryz.sh4 (by kernel_rfl) (HasFs.cons (s1 := [.b]) (s2 := [.i .i64, .i .i64, .i .i64, .i .i64, .i .i64, .i .i64, .i .i64, .i .i64, .i .i64, .i .i64, .i .i64, .i .i64, .i .i64, .i .i64, .i .i64, .i .i64, .l [.i .u8], .i .i64]) rfl Tryz.sh4 (by kernel_rfl) (HasFs.cons (s1 := [.i .i64]) (s2 := [.i .i64, .i .i64, .i .i64, .i .i64, .i .i64, .i .i64, .i .i64, .i .i64, .i .i64, .i .i64, .i .i64, .i .i64, .i .i64, .i .i64, .i .i64, .l [.i .u8], .i .i64]) rfl Tryz.sh3 (by kernel_rfl) (HasFs.cons (s1 := [.i .i64, .i .i64, .i .i64, .i .i64, .i .i64, .i .i64, .i .i64, .i .i64, .i .i64, .i .i64, .i .i64]) (s2 := [.i .i64, .i .i64, .i .i64, .i .i64, .l [.i .u8], .i .i64]) rfl Tryz.sh78 (by kernel_rfl) (HasFs.cons (s1 := [.i .i64, .i .i64, .i .i64, .i .i64, .l [.i .u8], .i .i64]) (s2 := []) rfl Tryz.sh82 (by kernel_rfl) (HasFs.nil))))))) (by kernel_rfl)
theorem Tryz.sh44 : HasSh Tryz.prog 44 [.l [.i .i64, .b, .b, .i .i64, .i .i64, .i .i64, .i .i64, .i .i64, .i .i64, .i .i64, .i .i64, .i .i64, .i .i64, .i .i64, .i .i64, .i .i64, .i .i64, .i .i64, .i .i64, .l [.i .u8], .i .i64]] := .slice Tryz.underlying44 Tryz.sh84 (by kernel_rfl) (by decide)
theorem Tryz.sh45 : HasSh Tryz.prog 45 [.i .i64, .i .i64] := .struct (ss := [.i .i64, .i .i64]) Tryz.underlying45 (HasFs.cons (s1 := [.i .i64]) (s2 := [.i .i64]) rfl Tryz.sh3 (by kernel_rfl) (HasFs.cons (s1 := [.i .i64]) (s2 := []) rfl Tryz.sh3 (by kernel_rfl) (HasFs.nil))) (by kernel_rfl)
theorem Tryz.sh47 : HasSh Tryz.prog 47 [.l [.i .i64, .l [.i .i64]], .l [.i .i64, .i .i64, .i .i64, .i .i64, .i .i64, .i .i64, .i .i64, .i .i64, .i .i64, .b, .i .i64, .i .i64, .l [.i .i64, .l [.i .u8]], .l [.l [.i .u8]]], .l [.i .i64, .i .i64, .i .i64, .i .i64, .i .i64, .i .i64, .i .i64, .l [.i .i64], .i .i64, .i .i64, .i .i64, .i .i64, .i .i64, .i .i64, .i .i64, .i .i64, .i .i64, .i .i64, .i .i64, .i .i64, .i .i64, .i .i64, .i .i64, .l [.l [.i .u8]], .i .i64, .l [.i .i64, .l [.i .u8]], .i .i64, .i .i64, .i .i64, .i .i64], .l [.i .i64, .i .i64, .i .i64, .l [.i .i64, .i .i64]], .l [.i .i64, .b, .b, .i .i64, .i .i64, .i .i64, .i .i64, .i .i64, .i .i64, .i .i64, .i .i64, .i .i64, .i .i64, .i .i64, .i .i64, .i .i64, .i .i64, .i .i64, .i .i64, .l [.i .u8], .i .i64], .i .i64, .i .i64, .i .i64, .i .i64, .i .i64] := .struct (ss := [.l [.i .i64, .l [.i .i64]], .l [.i .i64, .i .i64, .i .i64, .i .i64, .i .i64, .i .i64, .i .i64, .i .i64, .i .i64, .b, .i .i64, .i .i64, .l [.i .i64, .l [.i .u8]], .l [.l [.i .u8]]], .l [.i .i64, .i .i64, .i .i64, .i .i64, .i .i64, .i .i64, .i .i64, .l [.i .i64], .i .i64, .i .i64, .i .i64, .i .i64, .i .i64, .i .i64, .i .i64, .i .i64, .i .i64, .i .i64, .i .i64, .i .i64, .i .i64, .i .i64, .i .i64, .l [.l [.i .u8]], .i .i64, .l [.i .i64, .l [.i .u8]], .i .i64, .i .i64, .i .i64, .i .i64], .l [.i .i64, .i .i64, .i .i64, .l [.i .i64, .i .i64]], .l [.i .i64, .b, .b, .i .i64, .i .i64, .i .i64, .i .i64, .i .i64, .i .i64, .i .i64, .i .i64, .i .i64, .i .i64, .i .i64, .i .i64, .i .i64, .i .i64, .i .i64, .i .i64, .l [.i .u8], .i .i64], .i .i64, .i .i64, .i .i64, .i .i64, .i .i64]) Tryz.underlying47 (HasFs.cons (s1 := [.l [.i .i64, .l [.i .i64]]]) (s2 := [.l [.i .i64, .i .i64, .i .i64, .i .i64, .i .i64, .i .i64, .i .i64, .i .i64, .i .i64, .b, .i .i64, .i .i64, .l [.i .i64, .l [.i .u8]], .l [.l [.i .u8]]], .l [.i .i64, .i .i64, .i .i64, .i .i64, .i .i64, .i .i64, .i .i64, .l [.i .i64], .i .i64, .i .i64, .i .i64, .i .i64, .i .i64, .i .i64, .i .i64, .i .i64, .i .i64, .i .i64, .i .i64, .i .i64, .i .i64, .i .i64, .i .i64, .l [.l [.i .u8]], .i .i64, .l [.i .i64, .l [.i .u8]], .i .i64, .i .i64, .i .i64, .i .i64], .l [.i .i64, .i .i64, .i .i64, .l [.i .i64, .i .i64]], .l [.i .i64, .b, .b, .i .i64, .i .i64, .i .i64, .i .i64, .i .i64, .i .i64, .i .i64, .i .i64, .i .i64, .i .i64, .i .i64, .i .i64, .i .i64, .i .i64, .i .i64, .i .i64, .l [.i .u8], .i .i64], .i .i64, .i .i64, .i .i64, .i .i64, .i .i64]) rfl Tryz.sh40 (by kernel_rfl) (HasFs.cons (s1 := [.l [.i .i64, .i .i64, .i .i64, .i .i64, .i .i64, .i .i64, .i .i64, .i .i64, .i .i64, .b, .i .i64, .i .i64, .l [.i .i64, .l [.i .u8]], .l [.l [.i .u8]]]]) (s2 := [.l [.i .i64, .i .i64, .i .i64, .i .i64, .i .i64, .i .i64, .i .i64, .l [.i .i64], .i .i64, .i .i64, .i .i64, .i .i64, .i .i64, .i .i64, .i .i64, .i .i64, .i .i64, .i .i64, .i .i64, .i .i64, .i .i64, .i .i64, .i .i64, .l [.l [.i .u8]], .i .i64, .l [.i .i64, .l [.i .u8]], .i .i64, .i .i64, .i .i64, .i .i64], .l [.i .i64, .i .i64, .i .i64, .l [.i .i64, .i .i64]], .l [.i .i64, .b, .b, .i .i64, .i .i64, .i .i64, .i .i64, .i .i64, .i .i64, .i .i64, .i .i64, .i .i64, .i .i64, .i .i64, .i .i64, .i .i64, .i .i64, .i .i64, .i .i64, .l [.i .u8], .i .i64], .i .i64, .i .i64, .i .i64, .i .i64, .i .i64]) rfl Tryz.sh41 (by kernel_rfl) (HasFs.cons (s1 := [.l [.i .i64, .i .i64, .i .i64, .i .i64, .i .i64, .i .i64, .i .i64, .l [.i .i64], .i .i64, .i .i64, .i .i64, .i .i64, .i .i64, .i .i64, .i .i64, .i .i64, .i .i64, .i .i64, .i .i64, .i .i64, .i .i64, .i .i64, .i .i64, .l [.l [.i .u8]], .i .i64, .l [.i .i64, .l [.i .u8]], .i .i64, .i .i64, .i .i64, .i .i64]]) (s2 := [.l [.i .i64, .i .i64, .i .i64, .l [.i .i64, .i .i64]], .l [.i .i64, .b, .b, .i .i64, .i .i64, .i .i64, .i .i64, .i .i64, .i .i64, .i .i64, .i .i64, .i .i64, .i .i64, .i .i64, .i .i64, .i .i64, .i .i64, .i .i64, .i .i64, .l [.i .u8], .i .i64], .i .i64, .i .i64, .i .i64, .i .i64, .i .i64]) rfl Tryz.sh42 (by kernel_rfl) (HasFs.cons (s1 := [.l [.i .i64, .i .i64, .i .i64, .l [.i .i64, .i .i64]]]) (s2 := [.l [.i .i64, .b, .b, .i .i64, .i .i64, .i .i64, .i .i64, .i .i64, .i .i64, .i .i64, .i .i64, .i .i64, .i .i64, .i .i64, .i .i64, .i .i64, .i .i64, .i .i64, .i .i64, .l [.i .u8], .i .i64], .i .i64, .i .i64, .i .i64, .i .i64, .i .i64]) rfl Tryz.sh43 (by kernel_rfl) (HasFs.cons (s1 := [.l [.i .i64, .b, .b, .i .i64, .i .i64, .i .i64, .i .i64, .i .i64, .i .i64, .i .i64, .i .i64, .i .i64, .i .i64, .i .i64, .i .i64, .i .i64, .i .i64, .i .i64, .i .i64, .l [.i .u8], .i .i64]]) (s2 := [.i .i64, .i .i64, .i .i64, .i .i64, .i .i64]) rfl Tryz.sh44 (by kernel_rfl) (HasFs.cons (s1 := [.i .i64]) (s2 := [.i .i64, .i .i64, .i .i64, .i .i64]) rfl Tryz.sh3 (by kernel_rfl) (HasFs.cons (s1 := [.i .i64, .i .i64]) (s2 := [.i .i64, .i .i64]) rfl Tryz.sh45 (by kernel_rfl) (HasFs.cons (s1 := [.i .i64]) (s2 := [.i .i64]) rfl Tryz.sh3 (by kernel_rfl) (HasFs.cons (s1 := [.i .i64]) (s2 := []) rfl Tryz.sh3 (by kernel_rfl) (HasFs.nil)))))))))) (by kernel_rfl)
theorem Tryz.sh92 : HasSh Tryz.prog 92 [.l [.i .i64]] := .struct (ss := [.l [.i .i64]]) Tryz.underlying92 (HasFs.cons (s1 := [.l [.i .i64]]) (s2 := []) rfl Tryz.sh36 (by kernel_rfl) (HasFs.nil)) (by kernel_rfl)
theorem Tryz.sh94 : HasSh Tryz.prog 94 [.i .i64, .l [.i .i64]] := .struct (ss := [.i .i64, .l [.i .i64]]) Tryz.underlying94 (HasFs.cons (s1 := [.i .i64]) (s2 := [.l [.i .i64]]) rfl Tryz.sh3 (by kernel_rfl) (HasFs.cons (s1 := [.l [.i .i64]]) (s2 := []) rfl Tryz.sh92 (by kernel_rfl) (HasFs.nil))) (by kernel_rfl)
theorem Tryz.sh49 : HasSh Tryz.prog 49 [.l [.i .i64, .l [.i .i64]]] := .slice Tryz.underlying49 Tryz.sh94 (by kernel_rfl) (by decide)
theorem Tryz.eqa30 : EqA Tryz.prog 2 30 [.i .i64, .i .i64] := eqA_struct (k := 1) Tryz.underlying30 (by kernel_rfl) (eqF_s rfl (by decide) inferInstance (eqS_int Tryz.underlying3) (eqF_s rfl (by decide) inferInstance (eqS_int Tryz.underlying3) (eqF_nil)))
instance : TyEq Tryz.prog 30 [.i .i64, .i .i64] := ⟨⟨2, by decide, Tryz.eqa30⟩, by kernel_rfl⟩
theorem Tryz.eqa45 : EqA Tryz.prog 2 45 [.i .i64, .i .i64] := eqA_struct (k := 1) Tryz.underlying45 (by kernel_rfl) (eqF_s rfl (by decide) inferInstance (eqS_int Tryz.underlying3) (eqF_s rfl (by decide) inferInstance (eqS_int Tryz.underlying3) (eqF_nil)))
instance : TyEq Tryz.prog 45 [.i .i64, .i .i64] := ⟨⟨2, by decide, Tryz.eqa45⟩, by kernel_rfl⟩
theorem Tryz.eqa76 : EqA Tryz.prog 2 76 [.i .i64, .i .i64, .i .i64, .i .i64, .i .i64] := eqA_struct (k := 1) Tryz.underlying76 (by kernel_rfl) (eqF_s rfl (by decide) inferInstance (eqS_int Tryz.underlying3) (eqF_s rfl (by decide) inferInstance (eqS_int Tryz.underlying3) (eqF_s rfl (by decide) inferInstance (eqS_int Tryz.underlying3) (eqF_s rfl (by decide) inferInstance (eqS_int Tryz.underlying3) (eqF_s rfl (by decide) inferInstance (eqS_int Tryz.underlying3) (eqF_nil))))))
instance : TyEq Tryz.prog 76 [.i .i64, .i .i64, .i .i64, .i .i64, .i .i64] := ⟨⟨2, by decide, Tryz.eqa76⟩, by kernel_rfl⟩
theorem Tryz.eqa78 : EqA Tryz.prog 3 78 [.i .i64, .i .i64, .i .i64, .i .i64, .i .i64, .i .i64, .i .i64, .i .i64, .i .i64, .i .i64, .i .i64] := eqA_struct (k := 2) Tryz.underlying78 (by kernel_rfl) (eqF_s rfl (by decide) inferInstance (eqS_int Tryz.underlying3) (eqF_s rfl (by decide) inferInstance (eqS_int Tryz.underlying3) (eqF_s rfl (by decide) inferInstance (eqS_int Tryz.underlying3) (eqF_s rfl (by decide) inferInstance (eqS_int Tryz.underlying3) (eqF_s rfl (by decide) inferInstance (eqS_int Tryz.underlying3) (eqF_a (n := 5) (s1 := [.i .i64, .i .i64, .i .i64, .i .i64, .i .i64]) rfl (by decide) inferInstance rfl (by decide) Tryz.eqa76 (eqF_s rfl (by decide) inferInstance (eqS_int Tryz.underlying3) (eqF_nil))))))))
instance : TyEq Tryz.prog 78 [.i .i64, .i .i64, .i .i64, .i .i64, .i .i64, .i .i64, .i .i64, .i .i64, .i .i64, .i .i64, .i .i64] := ⟨⟨3, by decide, Tryz.eqa78⟩, by kernel_rfl⟩
theorem Tryz.eqa111 : EqA Tryz.prog 2 111 [.i .i64, .i .i64] := eqA_struct (k := 1) Tryz.underlying111 (by kernel_rfl) (eqF_s rfl (by decide) inferInstance (eqS_int Tryz.underlying3) (eqF_s rfl (by decide) inferInstance (eqS_int Tryz.underlying3) (eqF_nil)))
instance : TyEq Tryz.prog 111 [.i .i64, .i .i64] := ⟨⟨2, by decide, Tryz.eqa111⟩, by kernel_rfl⟩
theorem Tryz.eqa113 : EqA Tryz.prog 3 113 [.i .i64, .i .i64, .i .i64, .i .i64] := eqA_struct (k := 2) Tryz.underlying113 (by kernel_rfl) (eqF_a (n := 2) (s1 := [.i .i64, .i .i64]) rfl (by decide) inferInstance rfl (by decide) Tryz.eqa111 (eqF_s rfl (by decide) inferInstance (eqS_int Tryz.underlying3) (eqF_s rfl (by decide) inferInstance (eqS_int Tryz.underlying3) (eqF_nil))))
instance : TyEq Tryz.prog 113 [.i .i64, .i .i64, .i .i64, .i .i64] := ⟨⟨3, by decide, Tryz.eqa113⟩, by kernel_rfl⟩
theorem Tryz.eqa117 : EqA Tryz.prog 2 117 [.i .i64, .i .i64, .i .i64] := eqA_struct (k := 1) Tryz.underlying117 (by kernel_rfl) (eqF_s rfl (by decide) inferInstance (eqS_int Tryz.underlying3) (eqF_s rfl (by decide) inferInstance (eqS_int Tryz.underlying3) (eqF_s rfl (by decide) inferInstance (eqS_int Tryz.underlying3) (eqF_nil))))
instance : TyEq Tryz.prog 117 [.i .i64, .i .i64, .i .i64] := ⟨⟨2, by decide, Tryz.eqa117⟩, by kernel_rfl⟩
theorem Tryz.eqa123 : EqA Tryz.prog 2 123 [.i .i64, .i .i64, .i .i64] := eqA_struct (k := 1) Tryz.underlying123 (by kernel_rfl) (eqF_s rfl (by decide) inferInstance (eqS_int Tryz.underlying3) (eqF_s rfl (by decide) inferInstance (eqS_int Tryz.underlying3) (eqF_s rfl (by decide) inferInstance (eqS_int Tryz.underlying3) (eqF_nil))))
instance : TyEq Tryz.prog 123 [.i .i64, .i .i64, .i .i64] := ⟨⟨2, by decide, Tryz.eqa123⟩, by kernel_rfl⟩
theorem Tryz.eqa133 : EqA Tryz.prog 2 133 [.i .i64, .i .i64] := eqA_struct (k := 1) Tryz.underlying133 (by kernel_rfl) (eqF_s rfl (by decide) inferInstance (eqS_int Tryz.underlying3) (eqF_s rfl (by decide) inferInstance (eqS_int Tryz.underlying3) (eqF_nil)))
instance : TyEq Tryz.prog 133 [.i .i64, .i .i64] := ⟨⟨2, by decide, Tryz.eqa133⟩, by kernel_rfl⟩
theorem Tryz.eqa135 : EqA Tryz.prog 3 135 [.i .i64, .i .i64, .i .i64, .i .i64] := eqA_struct (k := 2) Tryz.underlying135 (by kernel_rfl) (eqF_a (n := 2) (s1 := [.i .i64, .i .i64]) rfl (by decide) inferInstance rfl (by decide) Tryz.eqa133 (eqF_s rfl (by decide) inferInstance (eqS_int Tryz.underlying3) (eqF_s rfl (by decide) inferInstance (eqS_int Tryz.underlying3) (eqF_nil))))
instance : TyEq Tryz.prog 135 [.i .i64, .i .i64, .i .i64, .i .i64] := ⟨⟨3, by decide, Tryz.eqa135⟩, by kernel_rfl⟩
theorem Tryz.eqa144 : EqA Tryz.prog 3 144 [.i .i64, .i .i64, .i .i64, .i .i64] := eqA_struct (k := 2) Tryz.underlying144 (by kernel_rfl) (eqF_a (n := 2) (s1 := [.i .i64, .i .i64]) rfl (by decide) inferInstance rfl (by decide) Tryz.eqa133 (eqF_s rfl (by decide) inferInstance (eqS_int Tryz.underlying3) (eqF_s rfl (by decide) inferInstance (eqS_int Tryz.underlying3) (eqF_nil))))
instance : TyEq Tryz.prog 144 [.i .i64, .i .i64, .i .i64, .i .i64] := ⟨⟨3, by decide, Tryz.eqa144⟩, by kernel_rfl⟩
theorem Tryz.eqa146 : EqA Tryz.prog 2 146 [.i .i64, .i .i64, .i .i64, .i .i64, .i .i64] := eqA_struct (k := 1) Tryz.underlying146 (by kernel_rfl) (eqF_s rfl (by decide) inferInstance (eqS_int Tryz.underlying3) (eqF_s rfl (by decide) inferInstance (eqS_int Tryz.underlying3) (eqF_s rfl (by decide) inferInstance (eqS_int Tryz.underlying3) (eqF_s rfl (by decide) inferInstance (eqS_int Tryz.underlying3) (eqF_s rfl (by decide) inferInstance (eqS_int Tryz.underlying3) (eqF_nil))))))
instance : TyEq Tryz.prog 146 [.i .i64, .i .i64, .i .i64, .i .i64, .i .i64] := ⟨⟨2, by decide, Tryz.eqa146⟩, by kernel_rfl⟩
theorem Tryz.eqa147 : EqA Tryz.prog 2 147 [.i .i64, .i .i64, .i .i64] := eqA_struct (k := 1) Tryz.underlying147 (by kernel_rfl) (eqF_s rfl (by decide) inferInstance (eqS_int Tryz.underlying3) (eqF_s rfl (by decide) inferInstance (eqS_int Tryz.underlying3) (eqF_s rfl (by decide) inferInstance (eqS_int Tryz.underlying3) (eqF_nil))))
instance : TyEq Tryz.prog 147 [.i .i64, .i .i64, .i .i64] := ⟨⟨2, by decide, Tryz.eqa147⟩, by kernel_rfl⟩
theorem Tryz.eqa150 : EqA Tryz.prog 2 150 [.i .i64, .i .i64, .i .i64] := eqA_struct (k := 1) Tryz.underlying150 (by kernel_rfl) (eqF_s rfl (by decide) inferInstance (eqS_int Tryz.underlying3) (eqF_s rfl (by decide) inferInstance (eqS_int Tryz.underlying3) (eqF_s rfl (by decide) inferInstance (eqS_int Tryz.underlying3) (eqF_nil))))
instance : TyEq Tryz.prog 150 [.i .i64, .i .i64, .i .i64] := ⟨⟨2, by decide, Tryz.eqa150⟩, by kernel_rfl⟩
theorem Tryz.eqa159 : EqA Tryz.prog 3 159 [.i .i64, .i .i64, .i .i64, .i .i64, .i .i64, .i .i64, .i .i64, .i .i64, .i .i64, .i .i64, .i .i64] := eqA_struct (k := 2) Tryz.underlying159 (by kernel_rfl) (eqF_s rfl (by decide) inferInstance (eqS_int Tryz.underlying3) (eqF_s rfl (by decide) inferInstance (eqS_int Tryz.underlying3) (eqF_s rfl (by decide) inferInstance (eqS_int Tryz.underlying3) (eqF_s rfl (by decide) inferInstance (eqS_int Tryz.underlying3) (eqF_s rfl (by decide) inferInstance (eqS_int Tryz.underlying3) (eqF_a (n := 5) (s1 := [.i .i64, .i .i64, .i .i64, .i .i64, .i .i64]) rfl (by decide) inferInstance rfl (by decide) Tryz.eqa146 (eqF_s rfl (by decide) inferInstance (eqS_int Tryz.underlying3) (eqF_nil))))))))
instance : TyEq Tryz.prog 159 [.i .i64, .i .i64, .i .i64, .i .i64, .i .i64, .i .i64, .i .i64, .i .i64, .i .i64, .i .i64, .i .i64] := ⟨⟨3, by decide, Tryz.eqa159⟩, by kernel_rfl⟩
theorem Tryz.eqa170 : EqA Tryz.prog 3 170 [.i .i64, .i .i64, .i .i64, .i .i64] := eqA_struct (k := 2) Tryz.underlying170 (by kernel_rfl) (eqF_a (n := 2) (s1 := [.i .i64, .i .i64]) rfl (by decide) inferInstance rfl (by decide) Tryz.eqa111 (eqF_s rfl (by decide) inferInstance (eqS_int Tryz.underlying3) (eqF_s rfl (by decide) inferInstance (eqS_int Tryz.underlying3) (eqF_nil))))
instance : TyEq Tryz.prog 170 [.i .i64, .i .i64, .i .i64, .i .i64] := ⟨⟨3, by decide, Tryz.eqa170⟩, by kernel_rfl⟩
theorem Tryz.eqa243 : EqA Tryz.prog 2 243 [.i .i64, .i .i64] := eqA_struct (k := 1) Tryz.underlying243 (by kernel_rfl) (eqF_s rfl (by decide) inferInstance (eqS_int Tryz.underlying3) (eqF_s rfl (by decide) inferInstance (eqS_int Tryz.underlying3) (eqF_nil)))
instance : TyEq Tryz.prog 243 [.i .i64, .i .i64] := ⟨⟨2, by decide, Tryz.eqa243⟩, by kernel_rfl⟩
theorem Tryz.eqa264 : EqA Tryz.prog 2 264 [.i .i64, .i .i64] := eqA_struct (k := 1) Tryz.underlying264 (by kernel_rfl) (eqF_s rfl (by decide) inferInstance (eqS_int Tryz.underlying3) (eqF_s rfl (by decide) inferInstance (eqS_int Tryz.underlying3) (eqF_nil)))
instance : TyEq Tryz.prog 264 [.i .i64, .i .i64] := ⟨⟨2, by decide, Tryz.eqa264⟩, by kernel_rfl⟩
theorem Tryz.follows : Tryz.prog.follows .mixedOrders = true := by kernel_rfl
structure TCell where
  Area : Int
  Neighbors : List Int
  deriving DecidableEq, Inhabited
def eTCell (a : TCell) : List D := [.i .i64 a.Area, .l (a.Neighbors.map eI)]
structure TCellMap where
  Cells : List TCell
  deriving DecidableEq, Inhabited
def eTCellMap (a : TCellMap) : List D := [.l (a.Cells.map eTCell)]
structure TServerPool where
  Size : Int
  UpMask : Int
  deriving DecidableEq, Inhabited
def eTServerPool (a : TServerPool) : List D := [.i .i64 a.Size, .i .i64 a.UpMask]
structure TSubscriberID where
  Network : Int
  Number : Int
  deriving DecidableEq, Inhabited
def eTSubscriberID (a : TSubscriberID) : List D := [.i .i64 a.Network, .i .i64 a.Number]
structure TUSIM where
  ID : TSubscriberID
  Key : Int
  LastSeq : Int
  deriving DecidableEq, Inhabited
def eTUSIM (a : TUSIM) : List D := [.i .i64 a.ID.Network, .i .i64 a.ID.Number, .i .i64 a.Key, .i .i64 a.LastSeq]
structure TNumberedPacket where
  Seq : Int
  Data : List Int
  deriving DecidableEq, Inhabited
def eTNumberedPacket (a : TNumberedPacket) : List D := [.i .i64 a.Seq, .l (a.Data.map eU8)]
structure TPayload where
  Data : List Int
  deriving DecidableEq, Inhabited
def eTPayload (a : TPayload) : List D := [.l (a.Data.map eU8)]
structure TReceiveWindow where
  Next : Int
  Pending : List TNumberedPacket
  Delivered : List TPayload
  deriving DecidableEq, Inhabited
def eTReceiveWindow (a : TReceiveWindow) : List D := [.i .i64 a.Next, .l (a.Pending.map eTNumberedPacket), .l (a.Delivered.map eTPayload)]
structure TDevice where
  Card : TUSIM
  State : Int
  Cell : Int
  Generation : Int
  RootKey : Int
  Epoch : Int
  PathConfirmed : Bool
  Wait : Int
  Receiver : TReceiveWindow
  deriving DecidableEq, Inhabited
def eTDevice (a : TDevice) : List D := [.i .i64 a.Card.ID.Network, .i .i64 a.Card.ID.Number, .i .i64 a.Card.Key, .i .i64 a.Card.LastSeq, .i .i64 a.State, .i .i64 a.Cell, .i .i64 a.Generation, .i .i64 a.RootKey, .i .i64 a.Epoch, .b a.PathConfirmed, .i .i64 a.Wait, .i .i64 a.Receiver.Next, .l (a.Receiver.Pending.map eTNumberedPacket), .l (a.Receiver.Delivered.map eTPayload)]
structure TSubscriberRecord where
  ID : TSubscriberID
  Key : Int
  Seq : Int
  deriving DecidableEq, Inhabited
def eTSubscriberRecord (a : TSubscriberRecord) : List D := [.i .i64 a.ID.Network, .i .i64 a.ID.Number, .i .i64 a.Key, .i .i64 a.Seq]
structure TSubscription where
  RateLimit : Int
  BestClass : Int
  GrantSize : Int
  RoamingNetworks : List Int
  deriving DecidableEq, Inhabited
def eTSubscription (a : TSubscription) : List D := [.i .i64 a.RateLimit, .i .i64 a.BestClass, .i .i64 a.GrantSize, .l (a.RoamingNetworks.map eI)]
structure TAuthVector where
  Rand : Int
  Autn : Int
  MAC : Int
  Res : Int
  Key : Int
  deriving DecidableEq, Inhabited
def eTAuthVector (a : TAuthVector) : List D := [.i .i64 a.Rand, .i .i64 a.Autn, .i .i64 a.MAC, .i .i64 a.Res, .i .i64 a.Key]
structure TPagingState where
  Area : Int
  Attempt : Int
  Wait : Int
  deriving DecidableEq, Inhabited
def eTPagingState (a : TPagingState) : List D := [.i .i64 a.Area, .i .i64 a.Attempt, .i .i64 a.Wait]
structure TSendWindow where
  Next : Int
  Unacked : List TNumberedPacket
  deriving DecidableEq, Inhabited
def eTSendWindow (a : TSendWindow) : List D := [.i .i64 a.Next, .l (a.Unacked.map eTNumberedPacket)]
structure TQuota where
  SessionID : Int
  Granted : Int
  Used : Int
  deriving DecidableEq, Inhabited
def eTQuota (a : TQuota) : List D := [.i .i64 a.SessionID, .i .i64 a.Granted, .i .i64 a.Used]
structure TSession where
  Record : TSubscriberRecord
  Plan : TSubscription
  State : Int
  Pending : TAuthVector
  PendingSeq : Int
  Generation : Int
  RootKey : Int
  Epoch : Int
  Cell : Int
  Quiet : Int
  Page : TPagingState
  Submitted : List TPayload
  Window : TSendWindow
  Retry : Int
  Usage : TQuota
  deriving DecidableEq, Inhabited
def eTSession (a : TSession) : List D := [.i .i64 a.Record.ID.Network, .i .i64 a.Record.ID.Number, .i .i64 a.Record.Key, .i .i64 a.Record.Seq, .i .i64 a.Plan.RateLimit, .i .i64 a.Plan.BestClass, .i .i64 a.Plan.GrantSize, .l (a.Plan.RoamingNetworks.map eI), .i .i64 a.State, .i .i64 a.Pending.Rand, .i .i64 a.Pending.Autn, .i .i64 a.Pending.MAC, .i .i64 a.Pending.Res, .i .i64 a.Pending.Key, .i .i64 a.PendingSeq, .i .i64 a.Generation, .i .i64 a.RootKey, .i .i64 a.Epoch, .i .i64 a.Cell, .i .i64 a.Quiet, .i .i64 a.Page.Area, .i .i64 a.Page.Attempt, .i .i64 a.Page.Wait, .l (a.Submitted.map eTPayload), .i .i64 a.Window.Next, .l (a.Window.Unacked.map eTNumberedPacket), .i .i64 a.Retry, .i .i64 a.Usage.SessionID, .i .i64 a.Usage.Granted, .i .i64 a.Usage.Used]
structure TReservation where
  SessionID : Int
  Amount : Int
  deriving DecidableEq, Inhabited
def eTReservation (a : TReservation) : List D := [.i .i64 a.SessionID, .i .i64 a.Amount]
structure TAccount where
  Total : Int
  Available : Int
  Spent : Int
  Reservations : List TReservation
  deriving DecidableEq, Inhabited
def eTAccount (a : TAccount) : List D := [.i .i64 a.Total, .i .i64 a.Available, .i .i64 a.Spent, .l (a.Reservations.map eTReservation)]
structure TSignal where
  Kind : Int
  Cell : Int
  Generation : Int
  Epoch : Int
  Number : Int
  Vector : TAuthVector
  MAC : Int
  deriving DecidableEq, Inhabited
def eTSignal (a : TSignal) : List D := [.i .i64 a.Kind, .i .i64 a.Cell, .i .i64 a.Generation, .i .i64 a.Epoch, .i .i64 a.Number, .i .i64 a.Vector.Rand, .i .i64 a.Vector.Autn, .i .i64 a.Vector.MAC, .i .i64 a.Vector.Res, .i .i64 a.Vector.Key, .i .i64 a.MAC]
structure TSecuredMessage where
  Direction : Int
  Count : Int
  Data : List Int
  MAC : Int
  deriving DecidableEq, Inhabited
def eTSecuredMessage (a : TSecuredMessage) : List D := [.i .i64 a.Direction, .i .i64 a.Count, .l (a.Data.map eU8), .i .i64 a.MAC]
structure TRadioPacket where
  Generation : Int
  Epoch : Int
  Message : TSecuredMessage
  deriving DecidableEq, Inhabited
def eTRadioPacket (a : TRadioPacket) : List D := [.i .i64 a.Generation, .i .i64 a.Epoch, .i .i64 a.Message.Direction, .i .i64 a.Message.Count, .l (a.Message.Data.map eU8), .i .i64 a.Message.MAC]
structure TFlight where
  Device : Int
  Uplink : Bool
  IsRadio : Bool
  Cell : Int
  Signal : TSignal
  Radio : TRadioPacket
  deriving DecidableEq, Inhabited
def eTFlight (a : TFlight) : List D := [.i .i64 a.Device, .b a.Uplink, .b a.IsRadio, .i .i64 a.Cell, .i .i64 a.Signal.Kind, .i .i64 a.Signal.Cell, .i .i64 a.Signal.Generation, .i .i64 a.Signal.Epoch, .i .i64 a.Signal.Number, .i .i64 a.Signal.Vector.Rand, .i .i64 a.Signal.Vector.Autn, .i .i64 a.Signal.Vector.MAC, .i .i64 a.Signal.Vector.Res, .i .i64 a.Signal.Vector.Key, .i .i64 a.Signal.MAC, .i .i64 a.Radio.Generation, .i .i64 a.Radio.Epoch, .i .i64 a.Radio.Message.Direction, .i .i64 a.Radio.Message.Count, .l (a.Radio.Message.Data.map eU8), .i .i64 a.Radio.Message.MAC]
structure TNetwork where
  Map : TCellMap
  Devices : List TDevice
  Sessions : List TSession
  Accounts : List TAccount
  Flights : List TFlight
  DownCells : Int
  Core : TServerPool
  Now : Int
  Lost : Int
  deriving DecidableEq, Inhabited
def eTNetwork (a : TNetwork) : List D := [.l (a.Map.Cells.map eTCell), .l (a.Devices.map eTDevice), .l (a.Sessions.map eTSession), .l (a.Accounts.map eTAccount), .l (a.Flights.map eTFlight), .i .i64 a.DownCells, .i .i64 a.Core.Size, .i .i64 a.Core.UpMask, .i .i64 a.Now, .i .i64 a.Lost]
structure TKeyPath where
  Steps : List Int
  deriving DecidableEq, Inhabited
def eTKeyPath (a : TKeyPath) : List D := [.l (a.Steps.map eI)]
structure TLeakedKey where
  Generation : Int
  Path : TKeyPath
  deriving DecidableEq, Inhabited
def eTLeakedKey (a : TLeakedKey) : List D := [.i .i64 a.Generation, .l (a.Path.Steps.map eI)]
theorem Try.follows : Tryz.prog.follows .mixedOrders = true := Tryz.follows
end Go.AM
