/-
  Facts on the types of this translation, laid by program.
-/
import Derived.Test.YtafgglkmebkeeaaGreatDoorAmZc
import Derived.Test.YtafgglkmebkeeaaGreatDoorAmO
import Derived.Test.YtafgglkmebkeeaaGreatDoorProg
import Derived.Lib.LaidTab
import Derived.Lib.ItoaNum
namespace Go.AM
open Go.Proofs
theorem info_n {P : Program} {t : TypeId} {n : Nat} (h : (P.info? t).map (·.size) = some n) : ∃ i, P.info? t = some i ∧ i.size = n := by
  cases hi : P.info? t with
  | none => simp [hi] at h
  | some i => simp [hi] at h; exact ⟨i, rfl, h⟩
theorem info_z {P : Program} {t : TypeId} {z : Value} (h : (P.info? t).map (·.zero) = some (some z)) : ∃ i, P.info? t = some i ∧ i.zero = some z := by
  cases hi : P.info? t with
  | none => simp [hi] at h
  | some i => simp [hi] at h; exact ⟨i, rfl, h⟩
theorem info_s {P : Program} {t : TypeId} {z : Value} {n b : Nat} (h : (P.info? t).map (fun i => (i.size, i.bytes, i.zero)) = some (n, b, some z)) (hz : z.cells.size = n) : ∃ i z, P.info? t = some i ∧ i.size = n ∧ i.bytes = b ∧ i.zero = some z ∧ z.cells.size = n := by
  cases hi : P.info? t with
  | none => simp [hi] at h
  | some i => simp [hi] at h; exact ⟨i, z, rfl, h.1, h.2.1, h.2.2, hz⟩
theorem info_f {P : Program} {t : TypeId} {n : Nat} (h : (P.info? t).map (·.size) = some n) (hn : n ≠ 0) : ∃ i, P.info? t = some i ∧ i.size ≠ 0 := by
  cases hi : P.info? t with
  | none => simp [hi] at h
  | some i => simp [hi] at h; exact ⟨i, rfl, by omega⟩
-- 3: int
instance : TyN Tryz.prog 3 1 := ⟨info_n (by kernel_rfl)⟩
instance : TySc Tryz.prog 3 := ⟨fun w => by kernel_rfl, info_n (by kernel_rfl)⟩
instance : TyU Tryz.prog 3 (.int .i64) := ⟨Tryz.underlying3⟩
theorem Tryz.z3 : (Tryz.prog.info? 3).map (·.zero) = some (some (.int .i64 0)) := by kernel_rfl
instance : TyZ Tryz.prog 3 [.d false (.i .i64 0)] := ⟨by obtain ⟨i, h1, h2⟩ := info_z Tryz.z3; exact ⟨i, _, h1, h2, rfl⟩⟩
instance : TyE Tryz.prog 3 [.i .i64 0] := ⟨by obtain ⟨i, h1, h2⟩ := info_z Tryz.z3; exact ⟨i, _, h1, h2, rfl⟩⟩
-- 4: bool
instance : TyN Tryz.prog 4 1 := ⟨info_n (by kernel_rfl)⟩
instance : TySc Tryz.prog 4 := ⟨fun w => by kernel_rfl, info_n (by kernel_rfl)⟩
instance : TyU Tryz.prog 4 (.bool) := ⟨Tryz.underlying4⟩
theorem Tryz.z4 : (Tryz.prog.info? 4).map (·.zero) = some (some (.bool false)) := by kernel_rfl
instance : TyZ Tryz.prog 4 [.d false (.b false)] := ⟨by obtain ⟨i, h1, h2⟩ := info_z Tryz.z4; exact ⟨i, _, h1, h2, rfl⟩⟩
instance : TyE Tryz.prog 4 [.b false] := ⟨by obtain ⟨i, h1, h2⟩ := info_z Tryz.z4; exact ⟨i, _, h1, h2, rfl⟩⟩
-- 5: uint8
instance : TyN Tryz.prog 5 1 := ⟨info_n (by kernel_rfl)⟩
instance : TySc Tryz.prog 5 := ⟨fun w => by kernel_rfl, info_n (by kernel_rfl)⟩
instance : TyU Tryz.prog 5 (.int .u8) := ⟨Tryz.underlying5⟩
theorem Tryz.z5 : (Tryz.prog.info? 5).map (·.zero) = some (some (.int .u8 0)) := by kernel_rfl
instance : TyZ Tryz.prog 5 [.d false (.i .u8 0)] := ⟨by obtain ⟨i, h1, h2⟩ := info_z Tryz.z5; exact ⟨i, _, h1, h2, rfl⟩⟩
instance : TyE Tryz.prog 5 [.i .u8 0] := ⟨by obtain ⟨i, h1, h2⟩ := info_z Tryz.z5; exact ⟨i, _, h1, h2, rfl⟩⟩
-- 9: string
instance : TyN Tryz.prog 9 1 := ⟨info_n (by kernel_rfl)⟩
instance : TySc Tryz.prog 9 := ⟨fun w => by kernel_rfl, info_n (by kernel_rfl)⟩
instance : TyU Tryz.prog 9 (.string) := ⟨Tryz.underlying9⟩
theorem Tryz.z9 : (Tryz.prog.info? 9).map (·.zero) = some (some (.string ⟨#[]⟩)) := by kernel_rfl
instance : TyZ Tryz.prog 9 [.d false (.str ⟨#[]⟩)] := ⟨by obtain ⟨i, h1, h2⟩ := info_z Tryz.z9; exact ⟨i, _, h1, h2, rfl⟩⟩
instance : TyE Tryz.prog 9 [.str ⟨#[]⟩] := ⟨by obtain ⟨i, h1, h2⟩ := info_z Tryz.z9; exact ⟨i, _, h1, h2, rfl⟩⟩
-- 22: []laws.Cell
instance : TyN Tryz.prog 22 1 := ⟨info_n (by kernel_rfl)⟩
instance : TySc Tryz.prog 22 := ⟨fun w => by kernel_rfl, info_n (by kernel_rfl)⟩
theorem Tryz.z22 : (Tryz.prog.info? 22).map (·.zero) = some (some (.slice none 0 0)) := by kernel_rfl
instance : TyZ Tryz.prog 22 [.nil] := ⟨by obtain ⟨i, h1, h2⟩ := info_z Tryz.z22; exact ⟨i, _, h1, h2, rfl⟩⟩
instance : TyE Tryz.prog 22 [.l []] := ⟨by obtain ⟨i, h1, h2⟩ := info_z Tryz.z22; exact ⟨i, _, h1, h2, rfl⟩⟩
instance : TySl Tryz.prog 22 164 2 32 := ⟨Tryz.underlying22, info_s (z := .agg #[.int .i64 0, .slice none 0 0]) (by kernel_rfl) rfl, by decide⟩
-- 24: laws.CellMap
instance : TyN Tryz.prog 24 1 := ⟨info_n (by kernel_rfl)⟩
instance : TyAg Tryz.prog 24 1 := ⟨fun w => by kernel_rfl, info_n (by kernel_rfl)⟩
theorem Tryz.z24 : (Tryz.prog.info? 24).map (·.zero) = some (some (.agg #[.slice none 0 0])) := by kernel_rfl
instance : TyZ Tryz.prog 24 [.nil] := ⟨by obtain ⟨i, h1, h2⟩ := info_z Tryz.z24; exact ⟨i, _, h1, h2, rfl⟩⟩
instance : TyE Tryz.prog 24 [.l []] := ⟨by obtain ⟨i, h1, h2⟩ := info_z Tryz.z24; exact ⟨i, _, h1, h2, rfl⟩⟩
instance : TyB Tryz.prog 24 [(0, 1)] := ⟨_, Tryz.underlying24, fun w => by kernel_rfl⟩
instance : TyF Tryz.prog 24 0 0 22 := ⟨_, _, Tryz.underlying24, rfl, rfl, rfl, info_f (n := 1) (by kernel_rfl) (by decide)⟩
-- 25: []laws.Device
instance : TyN Tryz.prog 25 1 := ⟨info_n (by kernel_rfl)⟩
instance : TySc Tryz.prog 25 := ⟨fun w => by kernel_rfl, info_n (by kernel_rfl)⟩
theorem Tryz.z25 : (Tryz.prog.info? 25).map (·.zero) = some (some (.slice none 0 0)) := by kernel_rfl
instance : TyZ Tryz.prog 25 [.nil] := ⟨by obtain ⟨i, h1, h2⟩ := info_z Tryz.z25; exact ⟨i, _, h1, h2, rfl⟩⟩
instance : TyE Tryz.prog 25 [.l []] := ⟨by obtain ⟨i, h1, h2⟩ := info_z Tryz.z25; exact ⟨i, _, h1, h2, rfl⟩⟩
instance : TySl Tryz.prog 25 93 14 144 := ⟨Tryz.underlying25, info_s (z := .agg #[.int .i64 0, .int .i64 0, .int .i64 0, .int .i64 0, .int .i64 0, .int .i64 0, .int .i64 0, .int .i64 0, .int .i64 0, .bool false, .int .i64 0, .int .i64 0, .slice none 0 0, .slice none 0 0]) (by kernel_rfl) rfl, by decide⟩
-- 26: []laws.Session
instance : TyN Tryz.prog 26 1 := ⟨info_n (by kernel_rfl)⟩
instance : TySc Tryz.prog 26 := ⟨fun w => by kernel_rfl, info_n (by kernel_rfl)⟩
theorem Tryz.z26 : (Tryz.prog.info? 26).map (·.zero) = some (some (.slice none 0 0)) := by kernel_rfl
instance : TyZ Tryz.prog 26 [.nil] := ⟨by obtain ⟨i, h1, h2⟩ := info_z Tryz.z26; exact ⟨i, _, h1, h2, rfl⟩⟩
instance : TyE Tryz.prog 26 [.l []] := ⟨by obtain ⟨i, h1, h2⟩ := info_z Tryz.z26; exact ⟨i, _, h1, h2, rfl⟩⟩
instance : TySl Tryz.prog 26 107 30 288 := ⟨Tryz.underlying26, info_s (z := .agg #[.int .i64 0, .int .i64 0, .int .i64 0, .int .i64 0, .int .i64 0, .int .i64 0, .int .i64 0, .slice none 0 0, .int .i64 0, .int .i64 0, .int .i64 0, .int .i64 0, .int .i64 0, .int .i64 0, .int .i64 0, .int .i64 0, .int .i64 0, .int .i64 0, .int .i64 0, .int .i64 0, .int .i64 0, .int .i64 0, .int .i64 0, .slice none 0 0, .int .i64 0, .slice none 0 0, .int .i64 0, .int .i64 0, .int .i64 0, .int .i64 0]) (by kernel_rfl) rfl, by decide⟩
-- 27: []laws.Account
instance : TyN Tryz.prog 27 1 := ⟨info_n (by kernel_rfl)⟩
instance : TySc Tryz.prog 27 := ⟨fun w => by kernel_rfl, info_n (by kernel_rfl)⟩
theorem Tryz.z27 : (Tryz.prog.info? 27).map (·.zero) = some (some (.slice none 0 0)) := by kernel_rfl
instance : TyZ Tryz.prog 27 [.nil] := ⟨by obtain ⟨i, h1, h2⟩ := info_z Tryz.z27; exact ⟨i, _, h1, h2, rfl⟩⟩
instance : TyE Tryz.prog 27 [.l []] := ⟨by obtain ⟨i, h1, h2⟩ := info_z Tryz.z27; exact ⟨i, _, h1, h2, rfl⟩⟩
instance : TySl Tryz.prog 27 111 4 48 := ⟨Tryz.underlying27, info_s (z := .agg #[.int .i64 0, .int .i64 0, .int .i64 0, .slice none 0 0]) (by kernel_rfl) rfl, by decide⟩
-- 28: []laws.Flight
instance : TyN Tryz.prog 28 1 := ⟨info_n (by kernel_rfl)⟩
instance : TySc Tryz.prog 28 := ⟨fun w => by kernel_rfl, info_n (by kernel_rfl)⟩
theorem Tryz.z28 : (Tryz.prog.info? 28).map (·.zero) = some (some (.slice none 0 0)) := by kernel_rfl
instance : TyZ Tryz.prog 28 [.nil] := ⟨by obtain ⟨i, h1, h2⟩ := info_z Tryz.z28; exact ⟨i, _, h1, h2, rfl⟩⟩
instance : TyE Tryz.prog 28 [.l []] := ⟨by obtain ⟨i, h1, h2⟩ := info_z Tryz.z28; exact ⟨i, _, h1, h2, rfl⟩⟩
instance : TySl Tryz.prog 28 119 21 176 := ⟨Tryz.underlying28, info_s (z := .agg #[.int .i64 0, .bool false, .bool false, .int .i64 0, .int .i64 0, .int .i64 0, .int .i64 0, .int .i64 0, .int .i64 0, .int .i64 0, .int .i64 0, .int .i64 0, .int .i64 0, .int .i64 0, .int .i64 0, .int .i64 0, .int .i64 0, .int .i64 0, .int .i64 0, .slice none 0 0, .int .i64 0]) (by kernel_rfl) rfl, by decide⟩
-- 30: laws.ServerPool
instance : TyN Tryz.prog 30 2 := ⟨info_n (by kernel_rfl)⟩
instance : TyAg Tryz.prog 30 2 := ⟨fun w => by kernel_rfl, info_n (by kernel_rfl)⟩
theorem Tryz.z30 : (Tryz.prog.info? 30).map (·.zero) = some (some (.agg #[.int .i64 0, .int .i64 0])) := by kernel_rfl
instance : TyZ Tryz.prog 30 [.d false (.i .i64 0), .d false (.i .i64 0)] := ⟨by obtain ⟨i, h1, h2⟩ := info_z Tryz.z30; exact ⟨i, _, h1, h2, rfl⟩⟩
instance : TyE Tryz.prog 30 [.i .i64 0, .i .i64 0] := ⟨by obtain ⟨i, h1, h2⟩ := info_z Tryz.z30; exact ⟨i, _, h1, h2, rfl⟩⟩
instance : TyB Tryz.prog 30 [(0, 1), (1, 1)] := ⟨_, Tryz.underlying30, fun w => by kernel_rfl⟩
instance : TyF Tryz.prog 30 0 0 3 := ⟨_, _, Tryz.underlying30, rfl, rfl, rfl, info_f (n := 1) (by kernel_rfl) (by decide)⟩
instance : TyF Tryz.prog 30 1 1 3 := ⟨_, _, Tryz.underlying30, rfl, rfl, rfl, info_f (n := 1) (by kernel_rfl) (by decide)⟩
-- 32: laws.Network
instance : TyN Tryz.prog 32 10 := ⟨info_n (by kernel_rfl)⟩
instance : TyAg Tryz.prog 32 10 := ⟨fun w => by kernel_rfl, info_n (by kernel_rfl)⟩
theorem Tryz.z32 : (Tryz.prog.info? 32).map (·.zero) = some (some (.agg #[.slice none 0 0, .slice none 0 0, .slice none 0 0, .slice none 0 0, .slice none 0 0, .int .i64 0, .int .i64 0, .int .i64 0, .int .i64 0, .int .i64 0])) := by kernel_rfl
instance : TyZ Tryz.prog 32 [.nil, .nil, .nil, .nil, .nil, .d false (.i .i64 0), .d false (.i .i64 0), .d false (.i .i64 0), .d false (.i .i64 0), .d false (.i .i64 0)] := ⟨by obtain ⟨i, h1, h2⟩ := info_z Tryz.z32; exact ⟨i, _, h1, h2, rfl⟩⟩
instance : TyE Tryz.prog 32 [.l [], .l [], .l [], .l [], .l [], .i .i64 0, .i .i64 0, .i .i64 0, .i .i64 0, .i .i64 0] := ⟨by obtain ⟨i, h1, h2⟩ := info_z Tryz.z32; exact ⟨i, _, h1, h2, rfl⟩⟩
instance : TyB Tryz.prog 32 [(0, 1), (1, 1), (2, 1), (3, 1), (4, 1), (5, 1), (6, 2), (8, 1), (9, 1)] := ⟨_, Tryz.underlying32, fun w => by kernel_rfl⟩
instance : TyF Tryz.prog 32 0 0 24 := ⟨_, _, Tryz.underlying32, rfl, rfl, rfl, info_f (n := 1) (by kernel_rfl) (by decide)⟩
instance : TyF Tryz.prog 32 1 1 25 := ⟨_, _, Tryz.underlying32, rfl, rfl, rfl, info_f (n := 1) (by kernel_rfl) (by decide)⟩
instance : TyF Tryz.prog 32 2 2 26 := ⟨_, _, Tryz.underlying32, rfl, rfl, rfl, info_f (n := 1) (by kernel_rfl) (by decide)⟩
instance : TyF Tryz.prog 32 3 3 27 := ⟨_, _, Tryz.underlying32, rfl, rfl, rfl, info_f (n := 1) (by kernel_rfl) (by decide)⟩
instance : TyF Tryz.prog 32 4 4 28 := ⟨_, _, Tryz.underlying32, rfl, rfl, rfl, info_f (n := 1) (by kernel_rfl) (by decide)⟩
instance : TyF Tryz.prog 32 5 5 3 := ⟨_, _, Tryz.underlying32, rfl, rfl, rfl, info_f (n := 1) (by kernel_rfl) (by decide)⟩
instance : TyF Tryz.prog 32 6 6 30 := ⟨_, _, Tryz.underlying32, rfl, rfl, rfl, info_f (n := 2) (by kernel_rfl) (by decide)⟩
instance : TyF Tryz.prog 32 7 8 3 := ⟨_, _, Tryz.underlying32, rfl, rfl, rfl, info_f (n := 1) (by kernel_rfl) (by decide)⟩
instance : TyF Tryz.prog 32 8 9 3 := ⟨_, _, Tryz.underlying32, rfl, rfl, rfl, info_f (n := 1) (by kernel_rfl) (by decide)⟩
-- 35: []impl.Cell
instance : TyN Tryz.prog 35 1 := ⟨info_n (by kernel_rfl)⟩
instance : TySc Tryz.prog 35 := ⟨fun w => by kernel_rfl, info_n (by kernel_rfl)⟩
theorem Tryz.z35 : (Tryz.prog.info? 35).map (·.zero) = some (some (.slice none 0 0)) := by kernel_rfl
instance : TyZ Tryz.prog 35 [.nil] := ⟨by obtain ⟨i, h1, h2⟩ := info_z Tryz.z35; exact ⟨i, _, h1, h2, rfl⟩⟩
instance : TyE Tryz.prog 35 [.l []] := ⟨by obtain ⟨i, h1, h2⟩ := info_z Tryz.z35; exact ⟨i, _, h1, h2, rfl⟩⟩
instance : TySl Tryz.prog 35 171 2 32 := ⟨Tryz.underlying35, info_s (z := .agg #[.int .i64 0, .slice none 0 0]) (by kernel_rfl) rfl, by decide⟩
-- 37: impl.CellMap
instance : TyN Tryz.prog 37 1 := ⟨info_n (by kernel_rfl)⟩
instance : TyAg Tryz.prog 37 1 := ⟨fun w => by kernel_rfl, info_n (by kernel_rfl)⟩
theorem Tryz.z37 : (Tryz.prog.info? 37).map (·.zero) = some (some (.agg #[.slice none 0 0])) := by kernel_rfl
instance : TyZ Tryz.prog 37 [.nil] := ⟨by obtain ⟨i, h1, h2⟩ := info_z Tryz.z37; exact ⟨i, _, h1, h2, rfl⟩⟩
instance : TyE Tryz.prog 37 [.l []] := ⟨by obtain ⟨i, h1, h2⟩ := info_z Tryz.z37; exact ⟨i, _, h1, h2, rfl⟩⟩
instance : TyB Tryz.prog 37 [(0, 1)] := ⟨_, Tryz.underlying37, fun w => by kernel_rfl⟩
instance : TyF Tryz.prog 37 0 0 35 := ⟨_, _, Tryz.underlying37, rfl, rfl, rfl, info_f (n := 1) (by kernel_rfl) (by decide)⟩
-- 38: []impl.Device
instance : TyN Tryz.prog 38 1 := ⟨info_n (by kernel_rfl)⟩
instance : TySc Tryz.prog 38 := ⟨fun w => by kernel_rfl, info_n (by kernel_rfl)⟩
theorem Tryz.z38 : (Tryz.prog.info? 38).map (·.zero) = some (some (.slice none 0 0)) := by kernel_rfl
instance : TyZ Tryz.prog 38 [.nil] := ⟨by obtain ⟨i, h1, h2⟩ := info_z Tryz.z38; exact ⟨i, _, h1, h2, rfl⟩⟩
instance : TyE Tryz.prog 38 [.l []] := ⟨by obtain ⟨i, h1, h2⟩ := info_z Tryz.z38; exact ⟨i, _, h1, h2, rfl⟩⟩
instance : TySl Tryz.prog 38 129 14 144 := ⟨Tryz.underlying38, info_s (z := .agg #[.int .i64 0, .int .i64 0, .int .i64 0, .int .i64 0, .int .i64 0, .int .i64 0, .int .i64 0, .int .i64 0, .int .i64 0, .bool false, .int .i64 0, .int .i64 0, .slice none 0 0, .slice none 0 0]) (by kernel_rfl) rfl, by decide⟩
-- 39: []impl.Session
instance : TyN Tryz.prog 39 1 := ⟨info_n (by kernel_rfl)⟩
instance : TySc Tryz.prog 39 := ⟨fun w => by kernel_rfl, info_n (by kernel_rfl)⟩
theorem Tryz.z39 : (Tryz.prog.info? 39).map (·.zero) = some (some (.slice none 0 0)) := by kernel_rfl
instance : TyZ Tryz.prog 39 [.nil] := ⟨by obtain ⟨i, h1, h2⟩ := info_z Tryz.z39; exact ⟨i, _, h1, h2, rfl⟩⟩
instance : TyE Tryz.prog 39 [.l []] := ⟨by obtain ⟨i, h1, h2⟩ := info_z Tryz.z39; exact ⟨i, _, h1, h2, rfl⟩⟩
instance : TySl Tryz.prog 39 140 30 288 := ⟨Tryz.underlying39, info_s (z := .agg #[.int .i64 0, .int .i64 0, .int .i64 0, .int .i64 0, .int .i64 0, .int .i64 0, .int .i64 0, .slice none 0 0, .int .i64 0, .int .i64 0, .int .i64 0, .int .i64 0, .int .i64 0, .int .i64 0, .int .i64 0, .int .i64 0, .int .i64 0, .int .i64 0, .int .i64 0, .int .i64 0, .int .i64 0, .int .i64 0, .int .i64 0, .slice none 0 0, .int .i64 0, .slice none 0 0, .int .i64 0, .int .i64 0, .int .i64 0, .int .i64 0]) (by kernel_rfl) rfl, by decide⟩
-- 40: []impl.Account
instance : TyN Tryz.prog 40 1 := ⟨info_n (by kernel_rfl)⟩
instance : TySc Tryz.prog 40 := ⟨fun w => by kernel_rfl, info_n (by kernel_rfl)⟩
theorem Tryz.z40 : (Tryz.prog.info? 40).map (·.zero) = some (some (.slice none 0 0)) := by kernel_rfl
instance : TyZ Tryz.prog 40 [.nil] := ⟨by obtain ⟨i, h1, h2⟩ := info_z Tryz.z40; exact ⟨i, _, h1, h2, rfl⟩⟩
instance : TyE Tryz.prog 40 [.l []] := ⟨by obtain ⟨i, h1, h2⟩ := info_z Tryz.z40; exact ⟨i, _, h1, h2, rfl⟩⟩
instance : TySl Tryz.prog 40 144 4 48 := ⟨Tryz.underlying40, info_s (z := .agg #[.int .i64 0, .int .i64 0, .int .i64 0, .slice none 0 0]) (by kernel_rfl) rfl, by decide⟩
-- 41: []impl.Flight
instance : TyN Tryz.prog 41 1 := ⟨info_n (by kernel_rfl)⟩
instance : TySc Tryz.prog 41 := ⟨fun w => by kernel_rfl, info_n (by kernel_rfl)⟩
theorem Tryz.z41 : (Tryz.prog.info? 41).map (·.zero) = some (some (.slice none 0 0)) := by kernel_rfl
instance : TyZ Tryz.prog 41 [.nil] := ⟨by obtain ⟨i, h1, h2⟩ := info_z Tryz.z41; exact ⟨i, _, h1, h2, rfl⟩⟩
instance : TyE Tryz.prog 41 [.l []] := ⟨by obtain ⟨i, h1, h2⟩ := info_z Tryz.z41; exact ⟨i, _, h1, h2, rfl⟩⟩
instance : TySl Tryz.prog 41 79 21 176 := ⟨Tryz.underlying41, info_s (z := .agg #[.int .i64 0, .bool false, .bool false, .int .i64 0, .int .i64 0, .int .i64 0, .int .i64 0, .int .i64 0, .int .i64 0, .int .i64 0, .int .i64 0, .int .i64 0, .int .i64 0, .int .i64 0, .int .i64 0, .int .i64 0, .int .i64 0, .int .i64 0, .int .i64 0, .slice none 0 0, .int .i64 0]) (by kernel_rfl) rfl, by decide⟩
-- 42: impl.ServerPool
instance : TyN Tryz.prog 42 2 := ⟨info_n (by kernel_rfl)⟩
instance : TyAg Tryz.prog 42 2 := ⟨fun w => by kernel_rfl, info_n (by kernel_rfl)⟩
theorem Tryz.z42 : (Tryz.prog.info? 42).map (·.zero) = some (some (.agg #[.int .i64 0, .int .i64 0])) := by kernel_rfl
instance : TyZ Tryz.prog 42 [.d false (.i .i64 0), .d false (.i .i64 0)] := ⟨by obtain ⟨i, h1, h2⟩ := info_z Tryz.z42; exact ⟨i, _, h1, h2, rfl⟩⟩
instance : TyE Tryz.prog 42 [.i .i64 0, .i .i64 0] := ⟨by obtain ⟨i, h1, h2⟩ := info_z Tryz.z42; exact ⟨i, _, h1, h2, rfl⟩⟩
instance : TyB Tryz.prog 42 [(0, 1), (1, 1)] := ⟨_, Tryz.underlying42, fun w => by kernel_rfl⟩
instance : TyF Tryz.prog 42 0 0 3 := ⟨_, _, Tryz.underlying42, rfl, rfl, rfl, info_f (n := 1) (by kernel_rfl) (by decide)⟩
instance : TyF Tryz.prog 42 1 1 3 := ⟨_, _, Tryz.underlying42, rfl, rfl, rfl, info_f (n := 1) (by kernel_rfl) (by decide)⟩
-- 44: impl.Network
instance : TyN Tryz.prog 44 10 := ⟨info_n (by kernel_rfl)⟩
instance : TyAg Tryz.prog 44 10 := ⟨fun w => by kernel_rfl, info_n (by kernel_rfl)⟩
theorem Tryz.z44 : (Tryz.prog.info? 44).map (·.zero) = some (some (.agg #[.slice none 0 0, .slice none 0 0, .slice none 0 0, .slice none 0 0, .slice none 0 0, .int .i64 0, .int .i64 0, .int .i64 0, .int .i64 0, .int .i64 0])) := by kernel_rfl
instance : TyZ Tryz.prog 44 [.nil, .nil, .nil, .nil, .nil, .d false (.i .i64 0), .d false (.i .i64 0), .d false (.i .i64 0), .d false (.i .i64 0), .d false (.i .i64 0)] := ⟨by obtain ⟨i, h1, h2⟩ := info_z Tryz.z44; exact ⟨i, _, h1, h2, rfl⟩⟩
instance : TyE Tryz.prog 44 [.l [], .l [], .l [], .l [], .l [], .i .i64 0, .i .i64 0, .i .i64 0, .i .i64 0, .i .i64 0] := ⟨by obtain ⟨i, h1, h2⟩ := info_z Tryz.z44; exact ⟨i, _, h1, h2, rfl⟩⟩
instance : TyB Tryz.prog 44 [(0, 1), (1, 1), (2, 1), (3, 1), (4, 1), (5, 1), (6, 2), (8, 1), (9, 1)] := ⟨_, Tryz.underlying44, fun w => by kernel_rfl⟩
instance : TyF Tryz.prog 44 0 0 37 := ⟨_, _, Tryz.underlying44, rfl, rfl, rfl, info_f (n := 1) (by kernel_rfl) (by decide)⟩
instance : TyF Tryz.prog 44 1 1 38 := ⟨_, _, Tryz.underlying44, rfl, rfl, rfl, info_f (n := 1) (by kernel_rfl) (by decide)⟩
instance : TyF Tryz.prog 44 2 2 39 := ⟨_, _, Tryz.underlying44, rfl, rfl, rfl, info_f (n := 1) (by kernel_rfl) (by decide)⟩
instance : TyF Tryz.prog 44 3 3 40 := ⟨_, _, Tryz.underlying44, rfl, rfl, rfl, info_f (n := 1) (by kernel_rfl) (by decide)⟩
instance : TyF Tryz.prog 44 4 4 41 := ⟨_, _, Tryz.underlying44, rfl, rfl, rfl, info_f (n := 1) (by kernel_rfl) (by decide)⟩
instance : TyF Tryz.prog 44 5 5 3 := ⟨_, _, Tryz.underlying44, rfl, rfl, rfl, info_f (n := 1) (by kernel_rfl) (by decide)⟩
instance : TyF Tryz.prog 44 6 6 42 := ⟨_, _, Tryz.underlying44, rfl, rfl, rfl, info_f (n := 2) (by kernel_rfl) (by decide)⟩
instance : TyF Tryz.prog 44 7 8 3 := ⟨_, _, Tryz.underlying44, rfl, rfl, rfl, info_f (n := 1) (by kernel_rfl) (by decide)⟩
instance : TyF Tryz.prog 44 8 9 3 := ⟨_, _, Tryz.underlying44, rfl, rfl, rfl, info_f (n := 1) (by kernel_rfl) (by decide)⟩
-- 54: []int
instance : TyN Tryz.prog 54 1 := ⟨info_n (by kernel_rfl)⟩
instance : TySc Tryz.prog 54 := ⟨fun w => by kernel_rfl, info_n (by kernel_rfl)⟩
theorem Tryz.z54 : (Tryz.prog.info? 54).map (·.zero) = some (some (.slice none 0 0)) := by kernel_rfl
instance : TyZ Tryz.prog 54 [.nil] := ⟨by obtain ⟨i, h1, h2⟩ := info_z Tryz.z54; exact ⟨i, _, h1, h2, rfl⟩⟩
instance : TyE Tryz.prog 54 [.l []] := ⟨by obtain ⟨i, h1, h2⟩ := info_z Tryz.z54; exact ⟨i, _, h1, h2, rfl⟩⟩
instance : TySl Tryz.prog 54 3 1 8 := ⟨Tryz.underlying54, info_s (z := .int .i64 0) (by kernel_rfl) rfl, by decide⟩
-- 70: impl.AuthVector
instance : TyN Tryz.prog 70 5 := ⟨info_n (by kernel_rfl)⟩
instance : TyAg Tryz.prog 70 5 := ⟨fun w => by kernel_rfl, info_n (by kernel_rfl)⟩
theorem Tryz.z70 : (Tryz.prog.info? 70).map (·.zero) = some (some (.agg #[.int .i64 0, .int .i64 0, .int .i64 0, .int .i64 0, .int .i64 0])) := by kernel_rfl
instance : TyZ Tryz.prog 70 [.d false (.i .i64 0), .d false (.i .i64 0), .d false (.i .i64 0), .d false (.i .i64 0), .d false (.i .i64 0)] := ⟨by obtain ⟨i, h1, h2⟩ := info_z Tryz.z70; exact ⟨i, _, h1, h2, rfl⟩⟩
instance : TyE Tryz.prog 70 [.i .i64 0, .i .i64 0, .i .i64 0, .i .i64 0, .i .i64 0] := ⟨by obtain ⟨i, h1, h2⟩ := info_z Tryz.z70; exact ⟨i, _, h1, h2, rfl⟩⟩
instance : TyB Tryz.prog 70 [(0, 1), (1, 1), (2, 1), (3, 1), (4, 1)] := ⟨_, Tryz.underlying70, fun w => by kernel_rfl⟩
instance : TyF Tryz.prog 70 0 0 3 := ⟨_, _, Tryz.underlying70, rfl, rfl, rfl, info_f (n := 1) (by kernel_rfl) (by decide)⟩
instance : TyF Tryz.prog 70 1 1 3 := ⟨_, _, Tryz.underlying70, rfl, rfl, rfl, info_f (n := 1) (by kernel_rfl) (by decide)⟩
instance : TyF Tryz.prog 70 2 2 3 := ⟨_, _, Tryz.underlying70, rfl, rfl, rfl, info_f (n := 1) (by kernel_rfl) (by decide)⟩
instance : TyF Tryz.prog 70 3 3 3 := ⟨_, _, Tryz.underlying70, rfl, rfl, rfl, info_f (n := 1) (by kernel_rfl) (by decide)⟩
instance : TyF Tryz.prog 70 4 4 3 := ⟨_, _, Tryz.underlying70, rfl, rfl, rfl, info_f (n := 1) (by kernel_rfl) (by decide)⟩
-- 72: impl.Signal
instance : TyN Tryz.prog 72 11 := ⟨info_n (by kernel_rfl)⟩
instance : TyAg Tryz.prog 72 11 := ⟨fun w => by kernel_rfl, info_n (by kernel_rfl)⟩
theorem Tryz.z72 : (Tryz.prog.info? 72).map (·.zero) = some (some (.agg #[.int .i64 0, .int .i64 0, .int .i64 0, .int .i64 0, .int .i64 0, .int .i64 0, .int .i64 0, .int .i64 0, .int .i64 0, .int .i64 0, .int .i64 0])) := by kernel_rfl
instance : TyZ Tryz.prog 72 [.d false (.i .i64 0), .d false (.i .i64 0), .d false (.i .i64 0), .d false (.i .i64 0), .d false (.i .i64 0), .d false (.i .i64 0), .d false (.i .i64 0), .d false (.i .i64 0), .d false (.i .i64 0), .d false (.i .i64 0), .d false (.i .i64 0)] := ⟨by obtain ⟨i, h1, h2⟩ := info_z Tryz.z72; exact ⟨i, _, h1, h2, rfl⟩⟩
instance : TyE Tryz.prog 72 [.i .i64 0, .i .i64 0, .i .i64 0, .i .i64 0, .i .i64 0, .i .i64 0, .i .i64 0, .i .i64 0, .i .i64 0, .i .i64 0, .i .i64 0] := ⟨by obtain ⟨i, h1, h2⟩ := info_z Tryz.z72; exact ⟨i, _, h1, h2, rfl⟩⟩
instance : TyB Tryz.prog 72 [(0, 1), (1, 1), (2, 1), (3, 1), (4, 1), (5, 5), (10, 1)] := ⟨_, Tryz.underlying72, fun w => by kernel_rfl⟩
instance : TyF Tryz.prog 72 0 0 3 := ⟨_, _, Tryz.underlying72, rfl, rfl, rfl, info_f (n := 1) (by kernel_rfl) (by decide)⟩
instance : TyF Tryz.prog 72 1 1 3 := ⟨_, _, Tryz.underlying72, rfl, rfl, rfl, info_f (n := 1) (by kernel_rfl) (by decide)⟩
instance : TyF Tryz.prog 72 2 2 3 := ⟨_, _, Tryz.underlying72, rfl, rfl, rfl, info_f (n := 1) (by kernel_rfl) (by decide)⟩
instance : TyF Tryz.prog 72 3 3 3 := ⟨_, _, Tryz.underlying72, rfl, rfl, rfl, info_f (n := 1) (by kernel_rfl) (by decide)⟩
instance : TyF Tryz.prog 72 4 4 3 := ⟨_, _, Tryz.underlying72, rfl, rfl, rfl, info_f (n := 1) (by kernel_rfl) (by decide)⟩
instance : TyF Tryz.prog 72 5 5 70 := ⟨_, _, Tryz.underlying72, rfl, rfl, rfl, info_f (n := 5) (by kernel_rfl) (by decide)⟩
instance : TyF Tryz.prog 72 6 10 3 := ⟨_, _, Tryz.underlying72, rfl, rfl, rfl, info_f (n := 1) (by kernel_rfl) (by decide)⟩
-- 73: []uint8
instance : TyN Tryz.prog 73 1 := ⟨info_n (by kernel_rfl)⟩
instance : TySc Tryz.prog 73 := ⟨fun w => by kernel_rfl, info_n (by kernel_rfl)⟩
theorem Tryz.z73 : (Tryz.prog.info? 73).map (·.zero) = some (some (.slice none 0 0)) := by kernel_rfl
instance : TyZ Tryz.prog 73 [.nil] := ⟨by obtain ⟨i, h1, h2⟩ := info_z Tryz.z73; exact ⟨i, _, h1, h2, rfl⟩⟩
instance : TyE Tryz.prog 73 [.l []] := ⟨by obtain ⟨i, h1, h2⟩ := info_z Tryz.z73; exact ⟨i, _, h1, h2, rfl⟩⟩
instance : TySl Tryz.prog 73 5 1 1 := ⟨Tryz.underlying73, info_s (z := .int .u8 0) (by kernel_rfl) rfl, by decide⟩
-- 75: impl.SecuredMessage
instance : TyN Tryz.prog 75 4 := ⟨info_n (by kernel_rfl)⟩
instance : TyAg Tryz.prog 75 4 := ⟨fun w => by kernel_rfl, info_n (by kernel_rfl)⟩
theorem Tryz.z75 : (Tryz.prog.info? 75).map (·.zero) = some (some (.agg #[.int .i64 0, .int .i64 0, .slice none 0 0, .int .i64 0])) := by kernel_rfl
instance : TyZ Tryz.prog 75 [.d false (.i .i64 0), .d false (.i .i64 0), .nil, .d false (.i .i64 0)] := ⟨by obtain ⟨i, h1, h2⟩ := info_z Tryz.z75; exact ⟨i, _, h1, h2, rfl⟩⟩
instance : TyE Tryz.prog 75 [.i .i64 0, .i .i64 0, .l [], .i .i64 0] := ⟨by obtain ⟨i, h1, h2⟩ := info_z Tryz.z75; exact ⟨i, _, h1, h2, rfl⟩⟩
instance : TyB Tryz.prog 75 [(0, 1), (1, 1), (2, 1), (3, 1)] := ⟨_, Tryz.underlying75, fun w => by kernel_rfl⟩
instance : TyF Tryz.prog 75 0 0 3 := ⟨_, _, Tryz.underlying75, rfl, rfl, rfl, info_f (n := 1) (by kernel_rfl) (by decide)⟩
instance : TyF Tryz.prog 75 1 1 3 := ⟨_, _, Tryz.underlying75, rfl, rfl, rfl, info_f (n := 1) (by kernel_rfl) (by decide)⟩
instance : TyF Tryz.prog 75 2 2 73 := ⟨_, _, Tryz.underlying75, rfl, rfl, rfl, info_f (n := 1) (by kernel_rfl) (by decide)⟩
instance : TyF Tryz.prog 75 3 3 3 := ⟨_, _, Tryz.underlying75, rfl, rfl, rfl, info_f (n := 1) (by kernel_rfl) (by decide)⟩
-- 77: impl.RadioPacket
instance : TyN Tryz.prog 77 6 := ⟨info_n (by kernel_rfl)⟩
instance : TyAg Tryz.prog 77 6 := ⟨fun w => by kernel_rfl, info_n (by kernel_rfl)⟩
theorem Tryz.z77 : (Tryz.prog.info? 77).map (·.zero) = some (some (.agg #[.int .i64 0, .int .i64 0, .int .i64 0, .int .i64 0, .slice none 0 0, .int .i64 0])) := by kernel_rfl
instance : TyZ Tryz.prog 77 [.d false (.i .i64 0), .d false (.i .i64 0), .d false (.i .i64 0), .d false (.i .i64 0), .nil, .d false (.i .i64 0)] := ⟨by obtain ⟨i, h1, h2⟩ := info_z Tryz.z77; exact ⟨i, _, h1, h2, rfl⟩⟩
instance : TyE Tryz.prog 77 [.i .i64 0, .i .i64 0, .i .i64 0, .i .i64 0, .l [], .i .i64 0] := ⟨by obtain ⟨i, h1, h2⟩ := info_z Tryz.z77; exact ⟨i, _, h1, h2, rfl⟩⟩
instance : TyB Tryz.prog 77 [(0, 1), (1, 1), (2, 4)] := ⟨_, Tryz.underlying77, fun w => by kernel_rfl⟩
instance : TyF Tryz.prog 77 0 0 3 := ⟨_, _, Tryz.underlying77, rfl, rfl, rfl, info_f (n := 1) (by kernel_rfl) (by decide)⟩
instance : TyF Tryz.prog 77 1 1 3 := ⟨_, _, Tryz.underlying77, rfl, rfl, rfl, info_f (n := 1) (by kernel_rfl) (by decide)⟩
instance : TyF Tryz.prog 77 2 2 75 := ⟨_, _, Tryz.underlying77, rfl, rfl, rfl, info_f (n := 4) (by kernel_rfl) (by decide)⟩
-- 79: impl.Flight
instance : TyN Tryz.prog 79 21 := ⟨info_n (by kernel_rfl)⟩
instance : TyAg Tryz.prog 79 21 := ⟨fun w => by kernel_rfl, info_n (by kernel_rfl)⟩
theorem Tryz.z79 : (Tryz.prog.info? 79).map (·.zero) = some (some (.agg #[.int .i64 0, .bool false, .bool false, .int .i64 0, .int .i64 0, .int .i64 0, .int .i64 0, .int .i64 0, .int .i64 0, .int .i64 0, .int .i64 0, .int .i64 0, .int .i64 0, .int .i64 0, .int .i64 0, .int .i64 0, .int .i64 0, .int .i64 0, .int .i64 0, .slice none 0 0, .int .i64 0])) := by kernel_rfl
instance : TyZ Tryz.prog 79 [.d false (.i .i64 0), .d false (.b false), .d false (.b false), .d false (.i .i64 0), .d false (.i .i64 0), .d false (.i .i64 0), .d false (.i .i64 0), .d false (.i .i64 0), .d false (.i .i64 0), .d false (.i .i64 0), .d false (.i .i64 0), .d false (.i .i64 0), .d false (.i .i64 0), .d false (.i .i64 0), .d false (.i .i64 0), .d false (.i .i64 0), .d false (.i .i64 0), .d false (.i .i64 0), .d false (.i .i64 0), .nil, .d false (.i .i64 0)] := ⟨by obtain ⟨i, h1, h2⟩ := info_z Tryz.z79; exact ⟨i, _, h1, h2, rfl⟩⟩
instance : TyE Tryz.prog 79 [.i .i64 0, .b false, .b false, .i .i64 0, .i .i64 0, .i .i64 0, .i .i64 0, .i .i64 0, .i .i64 0, .i .i64 0, .i .i64 0, .i .i64 0, .i .i64 0, .i .i64 0, .i .i64 0, .i .i64 0, .i .i64 0, .i .i64 0, .i .i64 0, .l [], .i .i64 0] := ⟨by obtain ⟨i, h1, h2⟩ := info_z Tryz.z79; exact ⟨i, _, h1, h2, rfl⟩⟩
instance : TyB Tryz.prog 79 [(0, 1), (1, 1), (2, 1), (3, 1), (4, 11), (15, 6)] := ⟨_, Tryz.underlying79, fun w => by kernel_rfl⟩
instance : TyF Tryz.prog 79 0 0 3 := ⟨_, _, Tryz.underlying79, rfl, rfl, rfl, info_f (n := 1) (by kernel_rfl) (by decide)⟩
instance : TyF Tryz.prog 79 1 1 4 := ⟨_, _, Tryz.underlying79, rfl, rfl, rfl, info_f (n := 1) (by kernel_rfl) (by decide)⟩
instance : TyF Tryz.prog 79 2 2 4 := ⟨_, _, Tryz.underlying79, rfl, rfl, rfl, info_f (n := 1) (by kernel_rfl) (by decide)⟩
instance : TyF Tryz.prog 79 3 3 3 := ⟨_, _, Tryz.underlying79, rfl, rfl, rfl, info_f (n := 1) (by kernel_rfl) (by decide)⟩
instance : TyF Tryz.prog 79 4 4 72 := ⟨_, _, Tryz.underlying79, rfl, rfl, rfl, info_f (n := 11) (by kernel_rfl) (by decide)⟩
instance : TyF Tryz.prog 79 5 15 77 := ⟨_, _, Tryz.underlying79, rfl, rfl, rfl, info_f (n := 6) (by kernel_rfl) (by decide)⟩
-- 80: []string
instance : TyN Tryz.prog 80 1 := ⟨info_n (by kernel_rfl)⟩
instance : TySc Tryz.prog 80 := ⟨fun w => by kernel_rfl, info_n (by kernel_rfl)⟩
theorem Tryz.z80 : (Tryz.prog.info? 80).map (·.zero) = some (some (.slice none 0 0)) := by kernel_rfl
instance : TyZ Tryz.prog 80 [.nil] := ⟨by obtain ⟨i, h1, h2⟩ := info_z Tryz.z80; exact ⟨i, _, h1, h2, rfl⟩⟩
instance : TyE Tryz.prog 80 [.l []] := ⟨by obtain ⟨i, h1, h2⟩ := info_z Tryz.z80; exact ⟨i, _, h1, h2, rfl⟩⟩
instance : TySl Tryz.prog 80 9 1 16 := ⟨Tryz.underlying80, info_s (z := .string ⟨#[]⟩) (by kernel_rfl) rfl, by decide⟩
-- 85: laws.SubscriberID
instance : TyN Tryz.prog 85 2 := ⟨info_n (by kernel_rfl)⟩
instance : TyAg Tryz.prog 85 2 := ⟨fun w => by kernel_rfl, info_n (by kernel_rfl)⟩
theorem Tryz.z85 : (Tryz.prog.info? 85).map (·.zero) = some (some (.agg #[.int .i64 0, .int .i64 0])) := by kernel_rfl
instance : TyZ Tryz.prog 85 [.d false (.i .i64 0), .d false (.i .i64 0)] := ⟨by obtain ⟨i, h1, h2⟩ := info_z Tryz.z85; exact ⟨i, _, h1, h2, rfl⟩⟩
instance : TyE Tryz.prog 85 [.i .i64 0, .i .i64 0] := ⟨by obtain ⟨i, h1, h2⟩ := info_z Tryz.z85; exact ⟨i, _, h1, h2, rfl⟩⟩
instance : TyB Tryz.prog 85 [(0, 1), (1, 1)] := ⟨_, Tryz.underlying85, fun w => by kernel_rfl⟩
instance : TyF Tryz.prog 85 0 0 3 := ⟨_, _, Tryz.underlying85, rfl, rfl, rfl, info_f (n := 1) (by kernel_rfl) (by decide)⟩
instance : TyF Tryz.prog 85 1 1 3 := ⟨_, _, Tryz.underlying85, rfl, rfl, rfl, info_f (n := 1) (by kernel_rfl) (by decide)⟩
-- 87: laws.USIM
instance : TyN Tryz.prog 87 4 := ⟨info_n (by kernel_rfl)⟩
instance : TyAg Tryz.prog 87 4 := ⟨fun w => by kernel_rfl, info_n (by kernel_rfl)⟩
theorem Tryz.z87 : (Tryz.prog.info? 87).map (·.zero) = some (some (.agg #[.int .i64 0, .int .i64 0, .int .i64 0, .int .i64 0])) := by kernel_rfl
instance : TyZ Tryz.prog 87 [.d false (.i .i64 0), .d false (.i .i64 0), .d false (.i .i64 0), .d false (.i .i64 0)] := ⟨by obtain ⟨i, h1, h2⟩ := info_z Tryz.z87; exact ⟨i, _, h1, h2, rfl⟩⟩
instance : TyE Tryz.prog 87 [.i .i64 0, .i .i64 0, .i .i64 0, .i .i64 0] := ⟨by obtain ⟨i, h1, h2⟩ := info_z Tryz.z87; exact ⟨i, _, h1, h2, rfl⟩⟩
instance : TyB Tryz.prog 87 [(0, 2), (2, 1), (3, 1)] := ⟨_, Tryz.underlying87, fun w => by kernel_rfl⟩
instance : TyF Tryz.prog 87 0 0 85 := ⟨_, _, Tryz.underlying87, rfl, rfl, rfl, info_f (n := 2) (by kernel_rfl) (by decide)⟩
instance : TyF Tryz.prog 87 1 2 3 := ⟨_, _, Tryz.underlying87, rfl, rfl, rfl, info_f (n := 1) (by kernel_rfl) (by decide)⟩
instance : TyF Tryz.prog 87 2 3 3 := ⟨_, _, Tryz.underlying87, rfl, rfl, rfl, info_f (n := 1) (by kernel_rfl) (by decide)⟩
-- 88: []laws.NumberedPacket
instance : TyN Tryz.prog 88 1 := ⟨info_n (by kernel_rfl)⟩
instance : TySc Tryz.prog 88 := ⟨fun w => by kernel_rfl, info_n (by kernel_rfl)⟩
theorem Tryz.z88 : (Tryz.prog.info? 88).map (·.zero) = some (some (.slice none 0 0)) := by kernel_rfl
instance : TyZ Tryz.prog 88 [.nil] := ⟨by obtain ⟨i, h1, h2⟩ := info_z Tryz.z88; exact ⟨i, _, h1, h2, rfl⟩⟩
instance : TyE Tryz.prog 88 [.l []] := ⟨by obtain ⟨i, h1, h2⟩ := info_z Tryz.z88; exact ⟨i, _, h1, h2, rfl⟩⟩
instance : TySl Tryz.prog 88 227 2 32 := ⟨Tryz.underlying88, info_s (z := .agg #[.int .i64 0, .slice none 0 0]) (by kernel_rfl) rfl, by decide⟩
-- 89: []laws.Payload
instance : TyN Tryz.prog 89 1 := ⟨info_n (by kernel_rfl)⟩
instance : TySc Tryz.prog 89 := ⟨fun w => by kernel_rfl, info_n (by kernel_rfl)⟩
theorem Tryz.z89 : (Tryz.prog.info? 89).map (·.zero) = some (some (.slice none 0 0)) := by kernel_rfl
instance : TyZ Tryz.prog 89 [.nil] := ⟨by obtain ⟨i, h1, h2⟩ := info_z Tryz.z89; exact ⟨i, _, h1, h2, rfl⟩⟩
instance : TyE Tryz.prog 89 [.l []] := ⟨by obtain ⟨i, h1, h2⟩ := info_z Tryz.z89; exact ⟨i, _, h1, h2, rfl⟩⟩
instance : TySl Tryz.prog 89 204 1 24 := ⟨Tryz.underlying89, info_s (z := .agg #[.slice none 0 0]) (by kernel_rfl) rfl, by decide⟩
-- 91: laws.ReceiveWindow
instance : TyN Tryz.prog 91 3 := ⟨info_n (by kernel_rfl)⟩
instance : TyAg Tryz.prog 91 3 := ⟨fun w => by kernel_rfl, info_n (by kernel_rfl)⟩
theorem Tryz.z91 : (Tryz.prog.info? 91).map (·.zero) = some (some (.agg #[.int .i64 0, .slice none 0 0, .slice none 0 0])) := by kernel_rfl
instance : TyZ Tryz.prog 91 [.d false (.i .i64 0), .nil, .nil] := ⟨by obtain ⟨i, h1, h2⟩ := info_z Tryz.z91; exact ⟨i, _, h1, h2, rfl⟩⟩
instance : TyE Tryz.prog 91 [.i .i64 0, .l [], .l []] := ⟨by obtain ⟨i, h1, h2⟩ := info_z Tryz.z91; exact ⟨i, _, h1, h2, rfl⟩⟩
instance : TyB Tryz.prog 91 [(0, 1), (1, 1), (2, 1)] := ⟨_, Tryz.underlying91, fun w => by kernel_rfl⟩
instance : TyF Tryz.prog 91 0 0 3 := ⟨_, _, Tryz.underlying91, rfl, rfl, rfl, info_f (n := 1) (by kernel_rfl) (by decide)⟩
instance : TyF Tryz.prog 91 1 1 88 := ⟨_, _, Tryz.underlying91, rfl, rfl, rfl, info_f (n := 1) (by kernel_rfl) (by decide)⟩
instance : TyF Tryz.prog 91 2 2 89 := ⟨_, _, Tryz.underlying91, rfl, rfl, rfl, info_f (n := 1) (by kernel_rfl) (by decide)⟩
-- 93: laws.Device
instance : TyN Tryz.prog 93 14 := ⟨info_n (by kernel_rfl)⟩
instance : TyAg Tryz.prog 93 14 := ⟨fun w => by kernel_rfl, info_n (by kernel_rfl)⟩
theorem Tryz.z93 : (Tryz.prog.info? 93).map (·.zero) = some (some (.agg #[.int .i64 0, .int .i64 0, .int .i64 0, .int .i64 0, .int .i64 0, .int .i64 0, .int .i64 0, .int .i64 0, .int .i64 0, .bool false, .int .i64 0, .int .i64 0, .slice none 0 0, .slice none 0 0])) := by kernel_rfl
instance : TyZ Tryz.prog 93 [.d false (.i .i64 0), .d false (.i .i64 0), .d false (.i .i64 0), .d false (.i .i64 0), .d false (.i .i64 0), .d false (.i .i64 0), .d false (.i .i64 0), .d false (.i .i64 0), .d false (.i .i64 0), .d false (.b false), .d false (.i .i64 0), .d false (.i .i64 0), .nil, .nil] := ⟨by obtain ⟨i, h1, h2⟩ := info_z Tryz.z93; exact ⟨i, _, h1, h2, rfl⟩⟩
instance : TyE Tryz.prog 93 [.i .i64 0, .i .i64 0, .i .i64 0, .i .i64 0, .i .i64 0, .i .i64 0, .i .i64 0, .i .i64 0, .i .i64 0, .b false, .i .i64 0, .i .i64 0, .l [], .l []] := ⟨by obtain ⟨i, h1, h2⟩ := info_z Tryz.z93; exact ⟨i, _, h1, h2, rfl⟩⟩
instance : TyB Tryz.prog 93 [(0, 4), (4, 1), (5, 1), (6, 1), (7, 1), (8, 1), (9, 1), (10, 1), (11, 3)] := ⟨_, Tryz.underlying93, fun w => by kernel_rfl⟩
instance : TyF Tryz.prog 93 0 0 87 := ⟨_, _, Tryz.underlying93, rfl, rfl, rfl, info_f (n := 4) (by kernel_rfl) (by decide)⟩
instance : TyF Tryz.prog 93 1 4 3 := ⟨_, _, Tryz.underlying93, rfl, rfl, rfl, info_f (n := 1) (by kernel_rfl) (by decide)⟩
instance : TyF Tryz.prog 93 2 5 3 := ⟨_, _, Tryz.underlying93, rfl, rfl, rfl, info_f (n := 1) (by kernel_rfl) (by decide)⟩
instance : TyF Tryz.prog 93 3 6 3 := ⟨_, _, Tryz.underlying93, rfl, rfl, rfl, info_f (n := 1) (by kernel_rfl) (by decide)⟩
instance : TyF Tryz.prog 93 4 7 3 := ⟨_, _, Tryz.underlying93, rfl, rfl, rfl, info_f (n := 1) (by kernel_rfl) (by decide)⟩
instance : TyF Tryz.prog 93 5 8 3 := ⟨_, _, Tryz.underlying93, rfl, rfl, rfl, info_f (n := 1) (by kernel_rfl) (by decide)⟩
instance : TyF Tryz.prog 93 6 9 4 := ⟨_, _, Tryz.underlying93, rfl, rfl, rfl, info_f (n := 1) (by kernel_rfl) (by decide)⟩
instance : TyF Tryz.prog 93 7 10 3 := ⟨_, _, Tryz.underlying93, rfl, rfl, rfl, info_f (n := 1) (by kernel_rfl) (by decide)⟩
instance : TyF Tryz.prog 93 8 11 91 := ⟨_, _, Tryz.underlying93, rfl, rfl, rfl, info_f (n := 3) (by kernel_rfl) (by decide)⟩
-- 96: laws.SubscriberRecord
instance : TyN Tryz.prog 96 4 := ⟨info_n (by kernel_rfl)⟩
instance : TyAg Tryz.prog 96 4 := ⟨fun w => by kernel_rfl, info_n (by kernel_rfl)⟩
theorem Tryz.z96 : (Tryz.prog.info? 96).map (·.zero) = some (some (.agg #[.int .i64 0, .int .i64 0, .int .i64 0, .int .i64 0])) := by kernel_rfl
instance : TyZ Tryz.prog 96 [.d false (.i .i64 0), .d false (.i .i64 0), .d false (.i .i64 0), .d false (.i .i64 0)] := ⟨by obtain ⟨i, h1, h2⟩ := info_z Tryz.z96; exact ⟨i, _, h1, h2, rfl⟩⟩
instance : TyE Tryz.prog 96 [.i .i64 0, .i .i64 0, .i .i64 0, .i .i64 0] := ⟨by obtain ⟨i, h1, h2⟩ := info_z Tryz.z96; exact ⟨i, _, h1, h2, rfl⟩⟩
instance : TyB Tryz.prog 96 [(0, 2), (2, 1), (3, 1)] := ⟨_, Tryz.underlying96, fun w => by kernel_rfl⟩
instance : TyF Tryz.prog 96 0 0 85 := ⟨_, _, Tryz.underlying96, rfl, rfl, rfl, info_f (n := 2) (by kernel_rfl) (by decide)⟩
instance : TyF Tryz.prog 96 1 2 3 := ⟨_, _, Tryz.underlying96, rfl, rfl, rfl, info_f (n := 1) (by kernel_rfl) (by decide)⟩
instance : TyF Tryz.prog 96 2 3 3 := ⟨_, _, Tryz.underlying96, rfl, rfl, rfl, info_f (n := 1) (by kernel_rfl) (by decide)⟩
-- 98: laws.Subscription
instance : TyN Tryz.prog 98 4 := ⟨info_n (by kernel_rfl)⟩
instance : TyAg Tryz.prog 98 4 := ⟨fun w => by kernel_rfl, info_n (by kernel_rfl)⟩
theorem Tryz.z98 : (Tryz.prog.info? 98).map (·.zero) = some (some (.agg #[.int .i64 0, .int .i64 0, .int .i64 0, .slice none 0 0])) := by kernel_rfl
instance : TyZ Tryz.prog 98 [.d false (.i .i64 0), .d false (.i .i64 0), .d false (.i .i64 0), .nil] := ⟨by obtain ⟨i, h1, h2⟩ := info_z Tryz.z98; exact ⟨i, _, h1, h2, rfl⟩⟩
instance : TyE Tryz.prog 98 [.i .i64 0, .i .i64 0, .i .i64 0, .l []] := ⟨by obtain ⟨i, h1, h2⟩ := info_z Tryz.z98; exact ⟨i, _, h1, h2, rfl⟩⟩
instance : TyB Tryz.prog 98 [(0, 1), (1, 1), (2, 1), (3, 1)] := ⟨_, Tryz.underlying98, fun w => by kernel_rfl⟩
instance : TyF Tryz.prog 98 0 0 3 := ⟨_, _, Tryz.underlying98, rfl, rfl, rfl, info_f (n := 1) (by kernel_rfl) (by decide)⟩
instance : TyF Tryz.prog 98 1 1 3 := ⟨_, _, Tryz.underlying98, rfl, rfl, rfl, info_f (n := 1) (by kernel_rfl) (by decide)⟩
instance : TyF Tryz.prog 98 2 2 3 := ⟨_, _, Tryz.underlying98, rfl, rfl, rfl, info_f (n := 1) (by kernel_rfl) (by decide)⟩
instance : TyF Tryz.prog 98 3 3 54 := ⟨_, _, Tryz.underlying98, rfl, rfl, rfl, info_f (n := 1) (by kernel_rfl) (by decide)⟩
-- 99: laws.AuthVector
instance : TyN Tryz.prog 99 5 := ⟨info_n (by kernel_rfl)⟩
instance : TyAg Tryz.prog 99 5 := ⟨fun w => by kernel_rfl, info_n (by kernel_rfl)⟩
theorem Tryz.z99 : (Tryz.prog.info? 99).map (·.zero) = some (some (.agg #[.int .i64 0, .int .i64 0, .int .i64 0, .int .i64 0, .int .i64 0])) := by kernel_rfl
instance : TyZ Tryz.prog 99 [.d false (.i .i64 0), .d false (.i .i64 0), .d false (.i .i64 0), .d false (.i .i64 0), .d false (.i .i64 0)] := ⟨by obtain ⟨i, h1, h2⟩ := info_z Tryz.z99; exact ⟨i, _, h1, h2, rfl⟩⟩
instance : TyE Tryz.prog 99 [.i .i64 0, .i .i64 0, .i .i64 0, .i .i64 0, .i .i64 0] := ⟨by obtain ⟨i, h1, h2⟩ := info_z Tryz.z99; exact ⟨i, _, h1, h2, rfl⟩⟩
instance : TyB Tryz.prog 99 [(0, 1), (1, 1), (2, 1), (3, 1), (4, 1)] := ⟨_, Tryz.underlying99, fun w => by kernel_rfl⟩
instance : TyF Tryz.prog 99 0 0 3 := ⟨_, _, Tryz.underlying99, rfl, rfl, rfl, info_f (n := 1) (by kernel_rfl) (by decide)⟩
instance : TyF Tryz.prog 99 1 1 3 := ⟨_, _, Tryz.underlying99, rfl, rfl, rfl, info_f (n := 1) (by kernel_rfl) (by decide)⟩
instance : TyF Tryz.prog 99 2 2 3 := ⟨_, _, Tryz.underlying99, rfl, rfl, rfl, info_f (n := 1) (by kernel_rfl) (by decide)⟩
instance : TyF Tryz.prog 99 3 3 3 := ⟨_, _, Tryz.underlying99, rfl, rfl, rfl, info_f (n := 1) (by kernel_rfl) (by decide)⟩
instance : TyF Tryz.prog 99 4 4 3 := ⟨_, _, Tryz.underlying99, rfl, rfl, rfl, info_f (n := 1) (by kernel_rfl) (by decide)⟩
-- 101: laws.PagingState
instance : TyN Tryz.prog 101 3 := ⟨info_n (by kernel_rfl)⟩
instance : TyAg Tryz.prog 101 3 := ⟨fun w => by kernel_rfl, info_n (by kernel_rfl)⟩
theorem Tryz.z101 : (Tryz.prog.info? 101).map (·.zero) = some (some (.agg #[.int .i64 0, .int .i64 0, .int .i64 0])) := by kernel_rfl
instance : TyZ Tryz.prog 101 [.d false (.i .i64 0), .d false (.i .i64 0), .d false (.i .i64 0)] := ⟨by obtain ⟨i, h1, h2⟩ := info_z Tryz.z101; exact ⟨i, _, h1, h2, rfl⟩⟩
instance : TyE Tryz.prog 101 [.i .i64 0, .i .i64 0, .i .i64 0] := ⟨by obtain ⟨i, h1, h2⟩ := info_z Tryz.z101; exact ⟨i, _, h1, h2, rfl⟩⟩
instance : TyB Tryz.prog 101 [(0, 1), (1, 1), (2, 1)] := ⟨_, Tryz.underlying101, fun w => by kernel_rfl⟩
instance : TyF Tryz.prog 101 0 0 3 := ⟨_, _, Tryz.underlying101, rfl, rfl, rfl, info_f (n := 1) (by kernel_rfl) (by decide)⟩
instance : TyF Tryz.prog 101 1 1 3 := ⟨_, _, Tryz.underlying101, rfl, rfl, rfl, info_f (n := 1) (by kernel_rfl) (by decide)⟩
instance : TyF Tryz.prog 101 2 2 3 := ⟨_, _, Tryz.underlying101, rfl, rfl, rfl, info_f (n := 1) (by kernel_rfl) (by decide)⟩
-- 103: laws.SendWindow
instance : TyN Tryz.prog 103 2 := ⟨info_n (by kernel_rfl)⟩
instance : TyAg Tryz.prog 103 2 := ⟨fun w => by kernel_rfl, info_n (by kernel_rfl)⟩
theorem Tryz.z103 : (Tryz.prog.info? 103).map (·.zero) = some (some (.agg #[.int .i64 0, .slice none 0 0])) := by kernel_rfl
instance : TyZ Tryz.prog 103 [.d false (.i .i64 0), .nil] := ⟨by obtain ⟨i, h1, h2⟩ := info_z Tryz.z103; exact ⟨i, _, h1, h2, rfl⟩⟩
instance : TyE Tryz.prog 103 [.i .i64 0, .l []] := ⟨by obtain ⟨i, h1, h2⟩ := info_z Tryz.z103; exact ⟨i, _, h1, h2, rfl⟩⟩
instance : TyB Tryz.prog 103 [(0, 1), (1, 1)] := ⟨_, Tryz.underlying103, fun w => by kernel_rfl⟩
instance : TyF Tryz.prog 103 0 0 3 := ⟨_, _, Tryz.underlying103, rfl, rfl, rfl, info_f (n := 1) (by kernel_rfl) (by decide)⟩
instance : TyF Tryz.prog 103 1 1 88 := ⟨_, _, Tryz.underlying103, rfl, rfl, rfl, info_f (n := 1) (by kernel_rfl) (by decide)⟩
-- 105: laws.Quota
instance : TyN Tryz.prog 105 3 := ⟨info_n (by kernel_rfl)⟩
instance : TyAg Tryz.prog 105 3 := ⟨fun w => by kernel_rfl, info_n (by kernel_rfl)⟩
theorem Tryz.z105 : (Tryz.prog.info? 105).map (·.zero) = some (some (.agg #[.int .i64 0, .int .i64 0, .int .i64 0])) := by kernel_rfl
instance : TyZ Tryz.prog 105 [.d false (.i .i64 0), .d false (.i .i64 0), .d false (.i .i64 0)] := ⟨by obtain ⟨i, h1, h2⟩ := info_z Tryz.z105; exact ⟨i, _, h1, h2, rfl⟩⟩
instance : TyE Tryz.prog 105 [.i .i64 0, .i .i64 0, .i .i64 0] := ⟨by obtain ⟨i, h1, h2⟩ := info_z Tryz.z105; exact ⟨i, _, h1, h2, rfl⟩⟩
instance : TyB Tryz.prog 105 [(0, 1), (1, 1), (2, 1)] := ⟨_, Tryz.underlying105, fun w => by kernel_rfl⟩
instance : TyF Tryz.prog 105 0 0 3 := ⟨_, _, Tryz.underlying105, rfl, rfl, rfl, info_f (n := 1) (by kernel_rfl) (by decide)⟩
instance : TyF Tryz.prog 105 1 1 3 := ⟨_, _, Tryz.underlying105, rfl, rfl, rfl, info_f (n := 1) (by kernel_rfl) (by decide)⟩
instance : TyF Tryz.prog 105 2 2 3 := ⟨_, _, Tryz.underlying105, rfl, rfl, rfl, info_f (n := 1) (by kernel_rfl) (by decide)⟩
-- 107: laws.Session
instance : TyN Tryz.prog 107 30 := ⟨info_n (by kernel_rfl)⟩
instance : TyAg Tryz.prog 107 30 := ⟨fun w => by kernel_rfl, info_n (by kernel_rfl)⟩
theorem Tryz.z107 : (Tryz.prog.info? 107).map (·.zero) = some (some (.agg #[.int .i64 0, .int .i64 0, .int .i64 0, .int .i64 0, .int .i64 0, .int .i64 0, .int .i64 0, .slice none 0 0, .int .i64 0, .int .i64 0, .int .i64 0, .int .i64 0, .int .i64 0, .int .i64 0, .int .i64 0, .int .i64 0, .int .i64 0, .int .i64 0, .int .i64 0, .int .i64 0, .int .i64 0, .int .i64 0, .int .i64 0, .slice none 0 0, .int .i64 0, .slice none 0 0, .int .i64 0, .int .i64 0, .int .i64 0, .int .i64 0])) := by kernel_rfl
instance : TyZ Tryz.prog 107 [.d false (.i .i64 0), .d false (.i .i64 0), .d false (.i .i64 0), .d false (.i .i64 0), .d false (.i .i64 0), .d false (.i .i64 0), .d false (.i .i64 0), .nil, .d false (.i .i64 0), .d false (.i .i64 0), .d false (.i .i64 0), .d false (.i .i64 0), .d false (.i .i64 0), .d false (.i .i64 0), .d false (.i .i64 0), .d false (.i .i64 0), .d false (.i .i64 0), .d false (.i .i64 0), .d false (.i .i64 0), .d false (.i .i64 0), .d false (.i .i64 0), .d false (.i .i64 0), .d false (.i .i64 0), .nil, .d false (.i .i64 0), .nil, .d false (.i .i64 0), .d false (.i .i64 0), .d false (.i .i64 0), .d false (.i .i64 0)] := ⟨by obtain ⟨i, h1, h2⟩ := info_z Tryz.z107; exact ⟨i, _, h1, h2, rfl⟩⟩
instance : TyE Tryz.prog 107 [.i .i64 0, .i .i64 0, .i .i64 0, .i .i64 0, .i .i64 0, .i .i64 0, .i .i64 0, .l [], .i .i64 0, .i .i64 0, .i .i64 0, .i .i64 0, .i .i64 0, .i .i64 0, .i .i64 0, .i .i64 0, .i .i64 0, .i .i64 0, .i .i64 0, .i .i64 0, .i .i64 0, .i .i64 0, .i .i64 0, .l [], .i .i64 0, .l [], .i .i64 0, .i .i64 0, .i .i64 0, .i .i64 0] := ⟨by obtain ⟨i, h1, h2⟩ := info_z Tryz.z107; exact ⟨i, _, h1, h2, rfl⟩⟩
instance : TyB Tryz.prog 107 [(0, 4), (4, 4), (8, 1), (9, 5), (14, 1), (15, 1), (16, 1), (17, 1), (18, 1), (19, 1), (20, 3), (23, 1), (24, 2), (26, 1), (27, 3)] := ⟨_, Tryz.underlying107, fun w => by kernel_rfl⟩
instance : TyF Tryz.prog 107 0 0 96 := ⟨_, _, Tryz.underlying107, rfl, rfl, rfl, info_f (n := 4) (by kernel_rfl) (by decide)⟩
instance : TyF Tryz.prog 107 1 4 98 := ⟨_, _, Tryz.underlying107, rfl, rfl, rfl, info_f (n := 4) (by kernel_rfl) (by decide)⟩
instance : TyF Tryz.prog 107 2 8 3 := ⟨_, _, Tryz.underlying107, rfl, rfl, rfl, info_f (n := 1) (by kernel_rfl) (by decide)⟩
instance : TyF Tryz.prog 107 3 9 99 := ⟨_, _, Tryz.underlying107, rfl, rfl, rfl, info_f (n := 5) (by kernel_rfl) (by decide)⟩
instance : TyF Tryz.prog 107 4 14 3 := ⟨_, _, Tryz.underlying107, rfl, rfl, rfl, info_f (n := 1) (by kernel_rfl) (by decide)⟩
instance : TyF Tryz.prog 107 5 15 3 := ⟨_, _, Tryz.underlying107, rfl, rfl, rfl, info_f (n := 1) (by kernel_rfl) (by decide)⟩
instance : TyF Tryz.prog 107 6 16 3 := ⟨_, _, Tryz.underlying107, rfl, rfl, rfl, info_f (n := 1) (by kernel_rfl) (by decide)⟩
instance : TyF Tryz.prog 107 7 17 3 := ⟨_, _, Tryz.underlying107, rfl, rfl, rfl, info_f (n := 1) (by kernel_rfl) (by decide)⟩
instance : TyF Tryz.prog 107 8 18 3 := ⟨_, _, Tryz.underlying107, rfl, rfl, rfl, info_f (n := 1) (by kernel_rfl) (by decide)⟩
instance : TyF Tryz.prog 107 9 19 3 := ⟨_, _, Tryz.underlying107, rfl, rfl, rfl, info_f (n := 1) (by kernel_rfl) (by decide)⟩
instance : TyF Tryz.prog 107 10 20 101 := ⟨_, _, Tryz.underlying107, rfl, rfl, rfl, info_f (n := 3) (by kernel_rfl) (by decide)⟩
instance : TyF Tryz.prog 107 11 23 89 := ⟨_, _, Tryz.underlying107, rfl, rfl, rfl, info_f (n := 1) (by kernel_rfl) (by decide)⟩
instance : TyF Tryz.prog 107 12 24 103 := ⟨_, _, Tryz.underlying107, rfl, rfl, rfl, info_f (n := 2) (by kernel_rfl) (by decide)⟩
instance : TyF Tryz.prog 107 13 26 3 := ⟨_, _, Tryz.underlying107, rfl, rfl, rfl, info_f (n := 1) (by kernel_rfl) (by decide)⟩
instance : TyF Tryz.prog 107 14 27 105 := ⟨_, _, Tryz.underlying107, rfl, rfl, rfl, info_f (n := 3) (by kernel_rfl) (by decide)⟩
-- 109: []laws.Reservation
instance : TyN Tryz.prog 109 1 := ⟨info_n (by kernel_rfl)⟩
instance : TySc Tryz.prog 109 := ⟨fun w => by kernel_rfl, info_n (by kernel_rfl)⟩
theorem Tryz.z109 : (Tryz.prog.info? 109).map (·.zero) = some (some (.slice none 0 0)) := by kernel_rfl
instance : TyZ Tryz.prog 109 [.nil] := ⟨by obtain ⟨i, h1, h2⟩ := info_z Tryz.z109; exact ⟨i, _, h1, h2, rfl⟩⟩
instance : TyE Tryz.prog 109 [.l []] := ⟨by obtain ⟨i, h1, h2⟩ := info_z Tryz.z109; exact ⟨i, _, h1, h2, rfl⟩⟩
instance : TySl Tryz.prog 109 214 2 16 := ⟨Tryz.underlying109, info_s (z := .agg #[.int .i64 0, .int .i64 0]) (by kernel_rfl) rfl, by decide⟩
-- 111: laws.Account
instance : TyN Tryz.prog 111 4 := ⟨info_n (by kernel_rfl)⟩
instance : TyAg Tryz.prog 111 4 := ⟨fun w => by kernel_rfl, info_n (by kernel_rfl)⟩
theorem Tryz.z111 : (Tryz.prog.info? 111).map (·.zero) = some (some (.agg #[.int .i64 0, .int .i64 0, .int .i64 0, .slice none 0 0])) := by kernel_rfl
instance : TyZ Tryz.prog 111 [.d false (.i .i64 0), .d false (.i .i64 0), .d false (.i .i64 0), .nil] := ⟨by obtain ⟨i, h1, h2⟩ := info_z Tryz.z111; exact ⟨i, _, h1, h2, rfl⟩⟩
instance : TyE Tryz.prog 111 [.i .i64 0, .i .i64 0, .i .i64 0, .l []] := ⟨by obtain ⟨i, h1, h2⟩ := info_z Tryz.z111; exact ⟨i, _, h1, h2, rfl⟩⟩
instance : TyB Tryz.prog 111 [(0, 1), (1, 1), (2, 1), (3, 1)] := ⟨_, Tryz.underlying111, fun w => by kernel_rfl⟩
instance : TyF Tryz.prog 111 0 0 3 := ⟨_, _, Tryz.underlying111, rfl, rfl, rfl, info_f (n := 1) (by kernel_rfl) (by decide)⟩
instance : TyF Tryz.prog 111 1 1 3 := ⟨_, _, Tryz.underlying111, rfl, rfl, rfl, info_f (n := 1) (by kernel_rfl) (by decide)⟩
instance : TyF Tryz.prog 111 2 2 3 := ⟨_, _, Tryz.underlying111, rfl, rfl, rfl, info_f (n := 1) (by kernel_rfl) (by decide)⟩
instance : TyF Tryz.prog 111 3 3 109 := ⟨_, _, Tryz.underlying111, rfl, rfl, rfl, info_f (n := 1) (by kernel_rfl) (by decide)⟩
-- 114: laws.Signal
instance : TyN Tryz.prog 114 11 := ⟨info_n (by kernel_rfl)⟩
instance : TyAg Tryz.prog 114 11 := ⟨fun w => by kernel_rfl, info_n (by kernel_rfl)⟩
theorem Tryz.z114 : (Tryz.prog.info? 114).map (·.zero) = some (some (.agg #[.int .i64 0, .int .i64 0, .int .i64 0, .int .i64 0, .int .i64 0, .int .i64 0, .int .i64 0, .int .i64 0, .int .i64 0, .int .i64 0, .int .i64 0])) := by kernel_rfl
instance : TyZ Tryz.prog 114 [.d false (.i .i64 0), .d false (.i .i64 0), .d false (.i .i64 0), .d false (.i .i64 0), .d false (.i .i64 0), .d false (.i .i64 0), .d false (.i .i64 0), .d false (.i .i64 0), .d false (.i .i64 0), .d false (.i .i64 0), .d false (.i .i64 0)] := ⟨by obtain ⟨i, h1, h2⟩ := info_z Tryz.z114; exact ⟨i, _, h1, h2, rfl⟩⟩
instance : TyE Tryz.prog 114 [.i .i64 0, .i .i64 0, .i .i64 0, .i .i64 0, .i .i64 0, .i .i64 0, .i .i64 0, .i .i64 0, .i .i64 0, .i .i64 0, .i .i64 0] := ⟨by obtain ⟨i, h1, h2⟩ := info_z Tryz.z114; exact ⟨i, _, h1, h2, rfl⟩⟩
instance : TyB Tryz.prog 114 [(0, 1), (1, 1), (2, 1), (3, 1), (4, 1), (5, 5), (10, 1)] := ⟨_, Tryz.underlying114, fun w => by kernel_rfl⟩
instance : TyF Tryz.prog 114 0 0 3 := ⟨_, _, Tryz.underlying114, rfl, rfl, rfl, info_f (n := 1) (by kernel_rfl) (by decide)⟩
instance : TyF Tryz.prog 114 1 1 3 := ⟨_, _, Tryz.underlying114, rfl, rfl, rfl, info_f (n := 1) (by kernel_rfl) (by decide)⟩
instance : TyF Tryz.prog 114 2 2 3 := ⟨_, _, Tryz.underlying114, rfl, rfl, rfl, info_f (n := 1) (by kernel_rfl) (by decide)⟩
instance : TyF Tryz.prog 114 3 3 3 := ⟨_, _, Tryz.underlying114, rfl, rfl, rfl, info_f (n := 1) (by kernel_rfl) (by decide)⟩
instance : TyF Tryz.prog 114 4 4 3 := ⟨_, _, Tryz.underlying114, rfl, rfl, rfl, info_f (n := 1) (by kernel_rfl) (by decide)⟩
instance : TyF Tryz.prog 114 5 5 99 := ⟨_, _, Tryz.underlying114, rfl, rfl, rfl, info_f (n := 5) (by kernel_rfl) (by decide)⟩
instance : TyF Tryz.prog 114 6 10 3 := ⟨_, _, Tryz.underlying114, rfl, rfl, rfl, info_f (n := 1) (by kernel_rfl) (by decide)⟩
-- 115: laws.SecuredMessage
instance : TyN Tryz.prog 115 4 := ⟨info_n (by kernel_rfl)⟩
instance : TyAg Tryz.prog 115 4 := ⟨fun w => by kernel_rfl, info_n (by kernel_rfl)⟩
theorem Tryz.z115 : (Tryz.prog.info? 115).map (·.zero) = some (some (.agg #[.int .i64 0, .int .i64 0, .slice none 0 0, .int .i64 0])) := by kernel_rfl
instance : TyZ Tryz.prog 115 [.d false (.i .i64 0), .d false (.i .i64 0), .nil, .d false (.i .i64 0)] := ⟨by obtain ⟨i, h1, h2⟩ := info_z Tryz.z115; exact ⟨i, _, h1, h2, rfl⟩⟩
instance : TyE Tryz.prog 115 [.i .i64 0, .i .i64 0, .l [], .i .i64 0] := ⟨by obtain ⟨i, h1, h2⟩ := info_z Tryz.z115; exact ⟨i, _, h1, h2, rfl⟩⟩
instance : TyB Tryz.prog 115 [(0, 1), (1, 1), (2, 1), (3, 1)] := ⟨_, Tryz.underlying115, fun w => by kernel_rfl⟩
instance : TyF Tryz.prog 115 0 0 3 := ⟨_, _, Tryz.underlying115, rfl, rfl, rfl, info_f (n := 1) (by kernel_rfl) (by decide)⟩
instance : TyF Tryz.prog 115 1 1 3 := ⟨_, _, Tryz.underlying115, rfl, rfl, rfl, info_f (n := 1) (by kernel_rfl) (by decide)⟩
instance : TyF Tryz.prog 115 2 2 73 := ⟨_, _, Tryz.underlying115, rfl, rfl, rfl, info_f (n := 1) (by kernel_rfl) (by decide)⟩
instance : TyF Tryz.prog 115 3 3 3 := ⟨_, _, Tryz.underlying115, rfl, rfl, rfl, info_f (n := 1) (by kernel_rfl) (by decide)⟩
-- 117: laws.RadioPacket
instance : TyN Tryz.prog 117 6 := ⟨info_n (by kernel_rfl)⟩
instance : TyAg Tryz.prog 117 6 := ⟨fun w => by kernel_rfl, info_n (by kernel_rfl)⟩
theorem Tryz.z117 : (Tryz.prog.info? 117).map (·.zero) = some (some (.agg #[.int .i64 0, .int .i64 0, .int .i64 0, .int .i64 0, .slice none 0 0, .int .i64 0])) := by kernel_rfl
instance : TyZ Tryz.prog 117 [.d false (.i .i64 0), .d false (.i .i64 0), .d false (.i .i64 0), .d false (.i .i64 0), .nil, .d false (.i .i64 0)] := ⟨by obtain ⟨i, h1, h2⟩ := info_z Tryz.z117; exact ⟨i, _, h1, h2, rfl⟩⟩
instance : TyE Tryz.prog 117 [.i .i64 0, .i .i64 0, .i .i64 0, .i .i64 0, .l [], .i .i64 0] := ⟨by obtain ⟨i, h1, h2⟩ := info_z Tryz.z117; exact ⟨i, _, h1, h2, rfl⟩⟩
instance : TyB Tryz.prog 117 [(0, 1), (1, 1), (2, 4)] := ⟨_, Tryz.underlying117, fun w => by kernel_rfl⟩
instance : TyF Tryz.prog 117 0 0 3 := ⟨_, _, Tryz.underlying117, rfl, rfl, rfl, info_f (n := 1) (by kernel_rfl) (by decide)⟩
instance : TyF Tryz.prog 117 1 1 3 := ⟨_, _, Tryz.underlying117, rfl, rfl, rfl, info_f (n := 1) (by kernel_rfl) (by decide)⟩
instance : TyF Tryz.prog 117 2 2 115 := ⟨_, _, Tryz.underlying117, rfl, rfl, rfl, info_f (n := 4) (by kernel_rfl) (by decide)⟩
-- 119: laws.Flight
instance : TyN Tryz.prog 119 21 := ⟨info_n (by kernel_rfl)⟩
instance : TyAg Tryz.prog 119 21 := ⟨fun w => by kernel_rfl, info_n (by kernel_rfl)⟩
theorem Tryz.z119 : (Tryz.prog.info? 119).map (·.zero) = some (some (.agg #[.int .i64 0, .bool false, .bool false, .int .i64 0, .int .i64 0, .int .i64 0, .int .i64 0, .int .i64 0, .int .i64 0, .int .i64 0, .int .i64 0, .int .i64 0, .int .i64 0, .int .i64 0, .int .i64 0, .int .i64 0, .int .i64 0, .int .i64 0, .int .i64 0, .slice none 0 0, .int .i64 0])) := by kernel_rfl
instance : TyZ Tryz.prog 119 [.d false (.i .i64 0), .d false (.b false), .d false (.b false), .d false (.i .i64 0), .d false (.i .i64 0), .d false (.i .i64 0), .d false (.i .i64 0), .d false (.i .i64 0), .d false (.i .i64 0), .d false (.i .i64 0), .d false (.i .i64 0), .d false (.i .i64 0), .d false (.i .i64 0), .d false (.i .i64 0), .d false (.i .i64 0), .d false (.i .i64 0), .d false (.i .i64 0), .d false (.i .i64 0), .d false (.i .i64 0), .nil, .d false (.i .i64 0)] := ⟨by obtain ⟨i, h1, h2⟩ := info_z Tryz.z119; exact ⟨i, _, h1, h2, rfl⟩⟩
instance : TyE Tryz.prog 119 [.i .i64 0, .b false, .b false, .i .i64 0, .i .i64 0, .i .i64 0, .i .i64 0, .i .i64 0, .i .i64 0, .i .i64 0, .i .i64 0, .i .i64 0, .i .i64 0, .i .i64 0, .i .i64 0, .i .i64 0, .i .i64 0, .i .i64 0, .i .i64 0, .l [], .i .i64 0] := ⟨by obtain ⟨i, h1, h2⟩ := info_z Tryz.z119; exact ⟨i, _, h1, h2, rfl⟩⟩
instance : TyB Tryz.prog 119 [(0, 1), (1, 1), (2, 1), (3, 1), (4, 11), (15, 6)] := ⟨_, Tryz.underlying119, fun w => by kernel_rfl⟩
instance : TyF Tryz.prog 119 0 0 3 := ⟨_, _, Tryz.underlying119, rfl, rfl, rfl, info_f (n := 1) (by kernel_rfl) (by decide)⟩
instance : TyF Tryz.prog 119 1 1 4 := ⟨_, _, Tryz.underlying119, rfl, rfl, rfl, info_f (n := 1) (by kernel_rfl) (by decide)⟩
instance : TyF Tryz.prog 119 2 2 4 := ⟨_, _, Tryz.underlying119, rfl, rfl, rfl, info_f (n := 1) (by kernel_rfl) (by decide)⟩
instance : TyF Tryz.prog 119 3 3 3 := ⟨_, _, Tryz.underlying119, rfl, rfl, rfl, info_f (n := 1) (by kernel_rfl) (by decide)⟩
instance : TyF Tryz.prog 119 4 4 114 := ⟨_, _, Tryz.underlying119, rfl, rfl, rfl, info_f (n := 11) (by kernel_rfl) (by decide)⟩
instance : TyF Tryz.prog 119 5 15 117 := ⟨_, _, Tryz.underlying119, rfl, rfl, rfl, info_f (n := 6) (by kernel_rfl) (by decide)⟩
-- 121: []impl.NumberedPacket
instance : TyN Tryz.prog 121 1 := ⟨info_n (by kernel_rfl)⟩
instance : TySc Tryz.prog 121 := ⟨fun w => by kernel_rfl, info_n (by kernel_rfl)⟩
theorem Tryz.z121 : (Tryz.prog.info? 121).map (·.zero) = some (some (.slice none 0 0)) := by kernel_rfl
instance : TyZ Tryz.prog 121 [.nil] := ⟨by obtain ⟨i, h1, h2⟩ := info_z Tryz.z121; exact ⟨i, _, h1, h2, rfl⟩⟩
instance : TyE Tryz.prog 121 [.l []] := ⟨by obtain ⟨i, h1, h2⟩ := info_z Tryz.z121; exact ⟨i, _, h1, h2, rfl⟩⟩
instance : TySl Tryz.prog 121 229 2 32 := ⟨Tryz.underlying121, info_s (z := .agg #[.int .i64 0, .slice none 0 0]) (by kernel_rfl) rfl, by decide⟩
-- 122: []impl.Payload
instance : TyN Tryz.prog 122 1 := ⟨info_n (by kernel_rfl)⟩
instance : TySc Tryz.prog 122 := ⟨fun w => by kernel_rfl, info_n (by kernel_rfl)⟩
theorem Tryz.z122 : (Tryz.prog.info? 122).map (·.zero) = some (some (.slice none 0 0)) := by kernel_rfl
instance : TyZ Tryz.prog 122 [.nil] := ⟨by obtain ⟨i, h1, h2⟩ := info_z Tryz.z122; exact ⟨i, _, h1, h2, rfl⟩⟩
instance : TyE Tryz.prog 122 [.l []] := ⟨by obtain ⟨i, h1, h2⟩ := info_z Tryz.z122; exact ⟨i, _, h1, h2, rfl⟩⟩
instance : TySl Tryz.prog 122 209 1 24 := ⟨Tryz.underlying122, info_s (z := .agg #[.slice none 0 0]) (by kernel_rfl) rfl, by decide⟩
-- 124: impl.ReceiveWindow
instance : TyN Tryz.prog 124 3 := ⟨info_n (by kernel_rfl)⟩
instance : TyAg Tryz.prog 124 3 := ⟨fun w => by kernel_rfl, info_n (by kernel_rfl)⟩
theorem Tryz.z124 : (Tryz.prog.info? 124).map (·.zero) = some (some (.agg #[.int .i64 0, .slice none 0 0, .slice none 0 0])) := by kernel_rfl
instance : TyZ Tryz.prog 124 [.d false (.i .i64 0), .nil, .nil] := ⟨by obtain ⟨i, h1, h2⟩ := info_z Tryz.z124; exact ⟨i, _, h1, h2, rfl⟩⟩
instance : TyE Tryz.prog 124 [.i .i64 0, .l [], .l []] := ⟨by obtain ⟨i, h1, h2⟩ := info_z Tryz.z124; exact ⟨i, _, h1, h2, rfl⟩⟩
instance : TyB Tryz.prog 124 [(0, 1), (1, 1), (2, 1)] := ⟨_, Tryz.underlying124, fun w => by kernel_rfl⟩
instance : TyF Tryz.prog 124 0 0 3 := ⟨_, _, Tryz.underlying124, rfl, rfl, rfl, info_f (n := 1) (by kernel_rfl) (by decide)⟩
instance : TyF Tryz.prog 124 1 1 121 := ⟨_, _, Tryz.underlying124, rfl, rfl, rfl, info_f (n := 1) (by kernel_rfl) (by decide)⟩
instance : TyF Tryz.prog 124 2 2 122 := ⟨_, _, Tryz.underlying124, rfl, rfl, rfl, info_f (n := 1) (by kernel_rfl) (by decide)⟩
-- 125: impl.SubscriberID
instance : TyN Tryz.prog 125 2 := ⟨info_n (by kernel_rfl)⟩
instance : TyAg Tryz.prog 125 2 := ⟨fun w => by kernel_rfl, info_n (by kernel_rfl)⟩
theorem Tryz.z125 : (Tryz.prog.info? 125).map (·.zero) = some (some (.agg #[.int .i64 0, .int .i64 0])) := by kernel_rfl
instance : TyZ Tryz.prog 125 [.d false (.i .i64 0), .d false (.i .i64 0)] := ⟨by obtain ⟨i, h1, h2⟩ := info_z Tryz.z125; exact ⟨i, _, h1, h2, rfl⟩⟩
instance : TyE Tryz.prog 125 [.i .i64 0, .i .i64 0] := ⟨by obtain ⟨i, h1, h2⟩ := info_z Tryz.z125; exact ⟨i, _, h1, h2, rfl⟩⟩
instance : TyB Tryz.prog 125 [(0, 1), (1, 1)] := ⟨_, Tryz.underlying125, fun w => by kernel_rfl⟩
instance : TyF Tryz.prog 125 0 0 3 := ⟨_, _, Tryz.underlying125, rfl, rfl, rfl, info_f (n := 1) (by kernel_rfl) (by decide)⟩
instance : TyF Tryz.prog 125 1 1 3 := ⟨_, _, Tryz.underlying125, rfl, rfl, rfl, info_f (n := 1) (by kernel_rfl) (by decide)⟩
-- 127: impl.USIM
instance : TyN Tryz.prog 127 4 := ⟨info_n (by kernel_rfl)⟩
instance : TyAg Tryz.prog 127 4 := ⟨fun w => by kernel_rfl, info_n (by kernel_rfl)⟩
theorem Tryz.z127 : (Tryz.prog.info? 127).map (·.zero) = some (some (.agg #[.int .i64 0, .int .i64 0, .int .i64 0, .int .i64 0])) := by kernel_rfl
instance : TyZ Tryz.prog 127 [.d false (.i .i64 0), .d false (.i .i64 0), .d false (.i .i64 0), .d false (.i .i64 0)] := ⟨by obtain ⟨i, h1, h2⟩ := info_z Tryz.z127; exact ⟨i, _, h1, h2, rfl⟩⟩
instance : TyE Tryz.prog 127 [.i .i64 0, .i .i64 0, .i .i64 0, .i .i64 0] := ⟨by obtain ⟨i, h1, h2⟩ := info_z Tryz.z127; exact ⟨i, _, h1, h2, rfl⟩⟩
instance : TyB Tryz.prog 127 [(0, 2), (2, 1), (3, 1)] := ⟨_, Tryz.underlying127, fun w => by kernel_rfl⟩
instance : TyF Tryz.prog 127 0 0 125 := ⟨_, _, Tryz.underlying127, rfl, rfl, rfl, info_f (n := 2) (by kernel_rfl) (by decide)⟩
instance : TyF Tryz.prog 127 1 2 3 := ⟨_, _, Tryz.underlying127, rfl, rfl, rfl, info_f (n := 1) (by kernel_rfl) (by decide)⟩
instance : TyF Tryz.prog 127 2 3 3 := ⟨_, _, Tryz.underlying127, rfl, rfl, rfl, info_f (n := 1) (by kernel_rfl) (by decide)⟩
-- 129: impl.Device
instance : TyN Tryz.prog 129 14 := ⟨info_n (by kernel_rfl)⟩
instance : TyAg Tryz.prog 129 14 := ⟨fun w => by kernel_rfl, info_n (by kernel_rfl)⟩
theorem Tryz.z129 : (Tryz.prog.info? 129).map (·.zero) = some (some (.agg #[.int .i64 0, .int .i64 0, .int .i64 0, .int .i64 0, .int .i64 0, .int .i64 0, .int .i64 0, .int .i64 0, .int .i64 0, .bool false, .int .i64 0, .int .i64 0, .slice none 0 0, .slice none 0 0])) := by kernel_rfl
instance : TyZ Tryz.prog 129 [.d false (.i .i64 0), .d false (.i .i64 0), .d false (.i .i64 0), .d false (.i .i64 0), .d false (.i .i64 0), .d false (.i .i64 0), .d false (.i .i64 0), .d false (.i .i64 0), .d false (.i .i64 0), .d false (.b false), .d false (.i .i64 0), .d false (.i .i64 0), .nil, .nil] := ⟨by obtain ⟨i, h1, h2⟩ := info_z Tryz.z129; exact ⟨i, _, h1, h2, rfl⟩⟩
instance : TyE Tryz.prog 129 [.i .i64 0, .i .i64 0, .i .i64 0, .i .i64 0, .i .i64 0, .i .i64 0, .i .i64 0, .i .i64 0, .i .i64 0, .b false, .i .i64 0, .i .i64 0, .l [], .l []] := ⟨by obtain ⟨i, h1, h2⟩ := info_z Tryz.z129; exact ⟨i, _, h1, h2, rfl⟩⟩
instance : TyB Tryz.prog 129 [(0, 4), (4, 1), (5, 1), (6, 1), (7, 1), (8, 1), (9, 1), (10, 1), (11, 3)] := ⟨_, Tryz.underlying129, fun w => by kernel_rfl⟩
instance : TyF Tryz.prog 129 0 0 127 := ⟨_, _, Tryz.underlying129, rfl, rfl, rfl, info_f (n := 4) (by kernel_rfl) (by decide)⟩
instance : TyF Tryz.prog 129 1 4 3 := ⟨_, _, Tryz.underlying129, rfl, rfl, rfl, info_f (n := 1) (by kernel_rfl) (by decide)⟩
instance : TyF Tryz.prog 129 2 5 3 := ⟨_, _, Tryz.underlying129, rfl, rfl, rfl, info_f (n := 1) (by kernel_rfl) (by decide)⟩
instance : TyF Tryz.prog 129 3 6 3 := ⟨_, _, Tryz.underlying129, rfl, rfl, rfl, info_f (n := 1) (by kernel_rfl) (by decide)⟩
instance : TyF Tryz.prog 129 4 7 3 := ⟨_, _, Tryz.underlying129, rfl, rfl, rfl, info_f (n := 1) (by kernel_rfl) (by decide)⟩
instance : TyF Tryz.prog 129 5 8 3 := ⟨_, _, Tryz.underlying129, rfl, rfl, rfl, info_f (n := 1) (by kernel_rfl) (by decide)⟩
instance : TyF Tryz.prog 129 6 9 4 := ⟨_, _, Tryz.underlying129, rfl, rfl, rfl, info_f (n := 1) (by kernel_rfl) (by decide)⟩
instance : TyF Tryz.prog 129 7 10 3 := ⟨_, _, Tryz.underlying129, rfl, rfl, rfl, info_f (n := 1) (by kernel_rfl) (by decide)⟩
instance : TyF Tryz.prog 129 8 11 124 := ⟨_, _, Tryz.underlying129, rfl, rfl, rfl, info_f (n := 3) (by kernel_rfl) (by decide)⟩
-- 133: impl.SubscriberRecord
instance : TyN Tryz.prog 133 4 := ⟨info_n (by kernel_rfl)⟩
instance : TyAg Tryz.prog 133 4 := ⟨fun w => by kernel_rfl, info_n (by kernel_rfl)⟩
theorem Tryz.z133 : (Tryz.prog.info? 133).map (·.zero) = some (some (.agg #[.int .i64 0, .int .i64 0, .int .i64 0, .int .i64 0])) := by kernel_rfl
instance : TyZ Tryz.prog 133 [.d false (.i .i64 0), .d false (.i .i64 0), .d false (.i .i64 0), .d false (.i .i64 0)] := ⟨by obtain ⟨i, h1, h2⟩ := info_z Tryz.z133; exact ⟨i, _, h1, h2, rfl⟩⟩
instance : TyE Tryz.prog 133 [.i .i64 0, .i .i64 0, .i .i64 0, .i .i64 0] := ⟨by obtain ⟨i, h1, h2⟩ := info_z Tryz.z133; exact ⟨i, _, h1, h2, rfl⟩⟩
instance : TyB Tryz.prog 133 [(0, 2), (2, 1), (3, 1)] := ⟨_, Tryz.underlying133, fun w => by kernel_rfl⟩
instance : TyF Tryz.prog 133 0 0 125 := ⟨_, _, Tryz.underlying133, rfl, rfl, rfl, info_f (n := 2) (by kernel_rfl) (by decide)⟩
instance : TyF Tryz.prog 133 1 2 3 := ⟨_, _, Tryz.underlying133, rfl, rfl, rfl, info_f (n := 1) (by kernel_rfl) (by decide)⟩
instance : TyF Tryz.prog 133 2 3 3 := ⟨_, _, Tryz.underlying133, rfl, rfl, rfl, info_f (n := 1) (by kernel_rfl) (by decide)⟩
-- 134: impl.Subscription
instance : TyN Tryz.prog 134 4 := ⟨info_n (by kernel_rfl)⟩
instance : TyAg Tryz.prog 134 4 := ⟨fun w => by kernel_rfl, info_n (by kernel_rfl)⟩
theorem Tryz.z134 : (Tryz.prog.info? 134).map (·.zero) = some (some (.agg #[.int .i64 0, .int .i64 0, .int .i64 0, .slice none 0 0])) := by kernel_rfl
instance : TyZ Tryz.prog 134 [.d false (.i .i64 0), .d false (.i .i64 0), .d false (.i .i64 0), .nil] := ⟨by obtain ⟨i, h1, h2⟩ := info_z Tryz.z134; exact ⟨i, _, h1, h2, rfl⟩⟩
instance : TyE Tryz.prog 134 [.i .i64 0, .i .i64 0, .i .i64 0, .l []] := ⟨by obtain ⟨i, h1, h2⟩ := info_z Tryz.z134; exact ⟨i, _, h1, h2, rfl⟩⟩
instance : TyB Tryz.prog 134 [(0, 1), (1, 1), (2, 1), (3, 1)] := ⟨_, Tryz.underlying134, fun w => by kernel_rfl⟩
instance : TyF Tryz.prog 134 0 0 3 := ⟨_, _, Tryz.underlying134, rfl, rfl, rfl, info_f (n := 1) (by kernel_rfl) (by decide)⟩
instance : TyF Tryz.prog 134 1 1 3 := ⟨_, _, Tryz.underlying134, rfl, rfl, rfl, info_f (n := 1) (by kernel_rfl) (by decide)⟩
instance : TyF Tryz.prog 134 2 2 3 := ⟨_, _, Tryz.underlying134, rfl, rfl, rfl, info_f (n := 1) (by kernel_rfl) (by decide)⟩
instance : TyF Tryz.prog 134 3 3 54 := ⟨_, _, Tryz.underlying134, rfl, rfl, rfl, info_f (n := 1) (by kernel_rfl) (by decide)⟩
-- 135: impl.PagingState
instance : TyN Tryz.prog 135 3 := ⟨info_n (by kernel_rfl)⟩
instance : TyAg Tryz.prog 135 3 := ⟨fun w => by kernel_rfl, info_n (by kernel_rfl)⟩
theorem Tryz.z135 : (Tryz.prog.info? 135).map (·.zero) = some (some (.agg #[.int .i64 0, .int .i64 0, .int .i64 0])) := by kernel_rfl
instance : TyZ Tryz.prog 135 [.d false (.i .i64 0), .d false (.i .i64 0), .d false (.i .i64 0)] := ⟨by obtain ⟨i, h1, h2⟩ := info_z Tryz.z135; exact ⟨i, _, h1, h2, rfl⟩⟩
instance : TyE Tryz.prog 135 [.i .i64 0, .i .i64 0, .i .i64 0] := ⟨by obtain ⟨i, h1, h2⟩ := info_z Tryz.z135; exact ⟨i, _, h1, h2, rfl⟩⟩
instance : TyB Tryz.prog 135 [(0, 1), (1, 1), (2, 1)] := ⟨_, Tryz.underlying135, fun w => by kernel_rfl⟩
instance : TyF Tryz.prog 135 0 0 3 := ⟨_, _, Tryz.underlying135, rfl, rfl, rfl, info_f (n := 1) (by kernel_rfl) (by decide)⟩
instance : TyF Tryz.prog 135 1 1 3 := ⟨_, _, Tryz.underlying135, rfl, rfl, rfl, info_f (n := 1) (by kernel_rfl) (by decide)⟩
instance : TyF Tryz.prog 135 2 2 3 := ⟨_, _, Tryz.underlying135, rfl, rfl, rfl, info_f (n := 1) (by kernel_rfl) (by decide)⟩
-- 137: impl.SendWindow
instance : TyN Tryz.prog 137 2 := ⟨info_n (by kernel_rfl)⟩
instance : TyAg Tryz.prog 137 2 := ⟨fun w => by kernel_rfl, info_n (by kernel_rfl)⟩
theorem Tryz.z137 : (Tryz.prog.info? 137).map (·.zero) = some (some (.agg #[.int .i64 0, .slice none 0 0])) := by kernel_rfl
instance : TyZ Tryz.prog 137 [.d false (.i .i64 0), .nil] := ⟨by obtain ⟨i, h1, h2⟩ := info_z Tryz.z137; exact ⟨i, _, h1, h2, rfl⟩⟩
instance : TyE Tryz.prog 137 [.i .i64 0, .l []] := ⟨by obtain ⟨i, h1, h2⟩ := info_z Tryz.z137; exact ⟨i, _, h1, h2, rfl⟩⟩
instance : TyB Tryz.prog 137 [(0, 1), (1, 1)] := ⟨_, Tryz.underlying137, fun w => by kernel_rfl⟩
instance : TyF Tryz.prog 137 0 0 3 := ⟨_, _, Tryz.underlying137, rfl, rfl, rfl, info_f (n := 1) (by kernel_rfl) (by decide)⟩
instance : TyF Tryz.prog 137 1 1 121 := ⟨_, _, Tryz.underlying137, rfl, rfl, rfl, info_f (n := 1) (by kernel_rfl) (by decide)⟩
-- 138: impl.Quota
instance : TyN Tryz.prog 138 3 := ⟨info_n (by kernel_rfl)⟩
instance : TyAg Tryz.prog 138 3 := ⟨fun w => by kernel_rfl, info_n (by kernel_rfl)⟩
theorem Tryz.z138 : (Tryz.prog.info? 138).map (·.zero) = some (some (.agg #[.int .i64 0, .int .i64 0, .int .i64 0])) := by kernel_rfl
instance : TyZ Tryz.prog 138 [.d false (.i .i64 0), .d false (.i .i64 0), .d false (.i .i64 0)] := ⟨by obtain ⟨i, h1, h2⟩ := info_z Tryz.z138; exact ⟨i, _, h1, h2, rfl⟩⟩
instance : TyE Tryz.prog 138 [.i .i64 0, .i .i64 0, .i .i64 0] := ⟨by obtain ⟨i, h1, h2⟩ := info_z Tryz.z138; exact ⟨i, _, h1, h2, rfl⟩⟩
instance : TyB Tryz.prog 138 [(0, 1), (1, 1), (2, 1)] := ⟨_, Tryz.underlying138, fun w => by kernel_rfl⟩
instance : TyF Tryz.prog 138 0 0 3 := ⟨_, _, Tryz.underlying138, rfl, rfl, rfl, info_f (n := 1) (by kernel_rfl) (by decide)⟩
instance : TyF Tryz.prog 138 1 1 3 := ⟨_, _, Tryz.underlying138, rfl, rfl, rfl, info_f (n := 1) (by kernel_rfl) (by decide)⟩
instance : TyF Tryz.prog 138 2 2 3 := ⟨_, _, Tryz.underlying138, rfl, rfl, rfl, info_f (n := 1) (by kernel_rfl) (by decide)⟩
-- 140: impl.Session
instance : TyN Tryz.prog 140 30 := ⟨info_n (by kernel_rfl)⟩
instance : TyAg Tryz.prog 140 30 := ⟨fun w => by kernel_rfl, info_n (by kernel_rfl)⟩
theorem Tryz.z140 : (Tryz.prog.info? 140).map (·.zero) = some (some (.agg #[.int .i64 0, .int .i64 0, .int .i64 0, .int .i64 0, .int .i64 0, .int .i64 0, .int .i64 0, .slice none 0 0, .int .i64 0, .int .i64 0, .int .i64 0, .int .i64 0, .int .i64 0, .int .i64 0, .int .i64 0, .int .i64 0, .int .i64 0, .int .i64 0, .int .i64 0, .int .i64 0, .int .i64 0, .int .i64 0, .int .i64 0, .slice none 0 0, .int .i64 0, .slice none 0 0, .int .i64 0, .int .i64 0, .int .i64 0, .int .i64 0])) := by kernel_rfl
instance : TyZ Tryz.prog 140 [.d false (.i .i64 0), .d false (.i .i64 0), .d false (.i .i64 0), .d false (.i .i64 0), .d false (.i .i64 0), .d false (.i .i64 0), .d false (.i .i64 0), .nil, .d false (.i .i64 0), .d false (.i .i64 0), .d false (.i .i64 0), .d false (.i .i64 0), .d false (.i .i64 0), .d false (.i .i64 0), .d false (.i .i64 0), .d false (.i .i64 0), .d false (.i .i64 0), .d false (.i .i64 0), .d false (.i .i64 0), .d false (.i .i64 0), .d false (.i .i64 0), .d false (.i .i64 0), .d false (.i .i64 0), .nil, .d false (.i .i64 0), .nil, .d false (.i .i64 0), .d false (.i .i64 0), .d false (.i .i64 0), .d false (.i .i64 0)] := ⟨by obtain ⟨i, h1, h2⟩ := info_z Tryz.z140; exact ⟨i, _, h1, h2, rfl⟩⟩
instance : TyE Tryz.prog 140 [.i .i64 0, .i .i64 0, .i .i64 0, .i .i64 0, .i .i64 0, .i .i64 0, .i .i64 0, .l [], .i .i64 0, .i .i64 0, .i .i64 0, .i .i64 0, .i .i64 0, .i .i64 0, .i .i64 0, .i .i64 0, .i .i64 0, .i .i64 0, .i .i64 0, .i .i64 0, .i .i64 0, .i .i64 0, .i .i64 0, .l [], .i .i64 0, .l [], .i .i64 0, .i .i64 0, .i .i64 0, .i .i64 0] := ⟨by obtain ⟨i, h1, h2⟩ := info_z Tryz.z140; exact ⟨i, _, h1, h2, rfl⟩⟩
instance : TyB Tryz.prog 140 [(0, 4), (4, 4), (8, 1), (9, 5), (14, 1), (15, 1), (16, 1), (17, 1), (18, 1), (19, 1), (20, 3), (23, 1), (24, 2), (26, 1), (27, 3)] := ⟨_, Tryz.underlying140, fun w => by kernel_rfl⟩
instance : TyF Tryz.prog 140 0 0 133 := ⟨_, _, Tryz.underlying140, rfl, rfl, rfl, info_f (n := 4) (by kernel_rfl) (by decide)⟩
instance : TyF Tryz.prog 140 1 4 134 := ⟨_, _, Tryz.underlying140, rfl, rfl, rfl, info_f (n := 4) (by kernel_rfl) (by decide)⟩
instance : TyF Tryz.prog 140 2 8 3 := ⟨_, _, Tryz.underlying140, rfl, rfl, rfl, info_f (n := 1) (by kernel_rfl) (by decide)⟩
instance : TyF Tryz.prog 140 3 9 70 := ⟨_, _, Tryz.underlying140, rfl, rfl, rfl, info_f (n := 5) (by kernel_rfl) (by decide)⟩
instance : TyF Tryz.prog 140 4 14 3 := ⟨_, _, Tryz.underlying140, rfl, rfl, rfl, info_f (n := 1) (by kernel_rfl) (by decide)⟩
instance : TyF Tryz.prog 140 5 15 3 := ⟨_, _, Tryz.underlying140, rfl, rfl, rfl, info_f (n := 1) (by kernel_rfl) (by decide)⟩
instance : TyF Tryz.prog 140 6 16 3 := ⟨_, _, Tryz.underlying140, rfl, rfl, rfl, info_f (n := 1) (by kernel_rfl) (by decide)⟩
instance : TyF Tryz.prog 140 7 17 3 := ⟨_, _, Tryz.underlying140, rfl, rfl, rfl, info_f (n := 1) (by kernel_rfl) (by decide)⟩
instance : TyF Tryz.prog 140 8 18 3 := ⟨_, _, Tryz.underlying140, rfl, rfl, rfl, info_f (n := 1) (by kernel_rfl) (by decide)⟩
instance : TyF Tryz.prog 140 9 19 3 := ⟨_, _, Tryz.underlying140, rfl, rfl, rfl, info_f (n := 1) (by kernel_rfl) (by decide)⟩
instance : TyF Tryz.prog 140 10 20 135 := ⟨_, _, Tryz.underlying140, rfl, rfl, rfl, info_f (n := 3) (by kernel_rfl) (by decide)⟩
instance : TyF Tryz.prog 140 11 23 122 := ⟨_, _, Tryz.underlying140, rfl, rfl, rfl, info_f (n := 1) (by kernel_rfl) (by decide)⟩
instance : TyF Tryz.prog 140 12 24 137 := ⟨_, _, Tryz.underlying140, rfl, rfl, rfl, info_f (n := 2) (by kernel_rfl) (by decide)⟩
instance : TyF Tryz.prog 140 13 26 3 := ⟨_, _, Tryz.underlying140, rfl, rfl, rfl, info_f (n := 1) (by kernel_rfl) (by decide)⟩
instance : TyF Tryz.prog 140 14 27 138 := ⟨_, _, Tryz.underlying140, rfl, rfl, rfl, info_f (n := 3) (by kernel_rfl) (by decide)⟩
-- 142: []impl.Reservation
instance : TyN Tryz.prog 142 1 := ⟨info_n (by kernel_rfl)⟩
instance : TySc Tryz.prog 142 := ⟨fun w => by kernel_rfl, info_n (by kernel_rfl)⟩
theorem Tryz.z142 : (Tryz.prog.info? 142).map (·.zero) = some (some (.slice none 0 0)) := by kernel_rfl
instance : TyZ Tryz.prog 142 [.nil] := ⟨by obtain ⟨i, h1, h2⟩ := info_z Tryz.z142; exact ⟨i, _, h1, h2, rfl⟩⟩
instance : TyE Tryz.prog 142 [.l []] := ⟨by obtain ⟨i, h1, h2⟩ := info_z Tryz.z142; exact ⟨i, _, h1, h2, rfl⟩⟩
instance : TySl Tryz.prog 142 212 2 16 := ⟨Tryz.underlying142, info_s (z := .agg #[.int .i64 0, .int .i64 0]) (by kernel_rfl) rfl, by decide⟩
-- 144: impl.Account
instance : TyN Tryz.prog 144 4 := ⟨info_n (by kernel_rfl)⟩
instance : TyAg Tryz.prog 144 4 := ⟨fun w => by kernel_rfl, info_n (by kernel_rfl)⟩
theorem Tryz.z144 : (Tryz.prog.info? 144).map (·.zero) = some (some (.agg #[.int .i64 0, .int .i64 0, .int .i64 0, .slice none 0 0])) := by kernel_rfl
instance : TyZ Tryz.prog 144 [.d false (.i .i64 0), .d false (.i .i64 0), .d false (.i .i64 0), .nil] := ⟨by obtain ⟨i, h1, h2⟩ := info_z Tryz.z144; exact ⟨i, _, h1, h2, rfl⟩⟩
instance : TyE Tryz.prog 144 [.i .i64 0, .i .i64 0, .i .i64 0, .l []] := ⟨by obtain ⟨i, h1, h2⟩ := info_z Tryz.z144; exact ⟨i, _, h1, h2, rfl⟩⟩
instance : TyB Tryz.prog 144 [(0, 1), (1, 1), (2, 1), (3, 1)] := ⟨_, Tryz.underlying144, fun w => by kernel_rfl⟩
instance : TyF Tryz.prog 144 0 0 3 := ⟨_, _, Tryz.underlying144, rfl, rfl, rfl, info_f (n := 1) (by kernel_rfl) (by decide)⟩
instance : TyF Tryz.prog 144 1 1 3 := ⟨_, _, Tryz.underlying144, rfl, rfl, rfl, info_f (n := 1) (by kernel_rfl) (by decide)⟩
instance : TyF Tryz.prog 144 2 2 3 := ⟨_, _, Tryz.underlying144, rfl, rfl, rfl, info_f (n := 1) (by kernel_rfl) (by decide)⟩
instance : TyF Tryz.prog 144 3 3 142 := ⟨_, _, Tryz.underlying144, rfl, rfl, rfl, info_f (n := 1) (by kernel_rfl) (by decide)⟩
-- 164: laws.Cell
instance : TyN Tryz.prog 164 2 := ⟨info_n (by kernel_rfl)⟩
instance : TyAg Tryz.prog 164 2 := ⟨fun w => by kernel_rfl, info_n (by kernel_rfl)⟩
theorem Tryz.z164 : (Tryz.prog.info? 164).map (·.zero) = some (some (.agg #[.int .i64 0, .slice none 0 0])) := by kernel_rfl
instance : TyZ Tryz.prog 164 [.d false (.i .i64 0), .nil] := ⟨by obtain ⟨i, h1, h2⟩ := info_z Tryz.z164; exact ⟨i, _, h1, h2, rfl⟩⟩
instance : TyE Tryz.prog 164 [.i .i64 0, .l []] := ⟨by obtain ⟨i, h1, h2⟩ := info_z Tryz.z164; exact ⟨i, _, h1, h2, rfl⟩⟩
instance : TyB Tryz.prog 164 [(0, 1), (1, 1)] := ⟨_, Tryz.underlying164, fun w => by kernel_rfl⟩
instance : TyF Tryz.prog 164 0 0 3 := ⟨_, _, Tryz.underlying164, rfl, rfl, rfl, info_f (n := 1) (by kernel_rfl) (by decide)⟩
instance : TyF Tryz.prog 164 1 1 54 := ⟨_, _, Tryz.underlying164, rfl, rfl, rfl, info_f (n := 1) (by kernel_rfl) (by decide)⟩
-- 171: impl.Cell
instance : TyN Tryz.prog 171 2 := ⟨info_n (by kernel_rfl)⟩
instance : TyAg Tryz.prog 171 2 := ⟨fun w => by kernel_rfl, info_n (by kernel_rfl)⟩
theorem Tryz.z171 : (Tryz.prog.info? 171).map (·.zero) = some (some (.agg #[.int .i64 0, .slice none 0 0])) := by kernel_rfl
instance : TyZ Tryz.prog 171 [.d false (.i .i64 0), .nil] := ⟨by obtain ⟨i, h1, h2⟩ := info_z Tryz.z171; exact ⟨i, _, h1, h2, rfl⟩⟩
instance : TyE Tryz.prog 171 [.i .i64 0, .l []] := ⟨by obtain ⟨i, h1, h2⟩ := info_z Tryz.z171; exact ⟨i, _, h1, h2, rfl⟩⟩
instance : TyB Tryz.prog 171 [(0, 1), (1, 1)] := ⟨_, Tryz.underlying171, fun w => by kernel_rfl⟩
instance : TyF Tryz.prog 171 0 0 3 := ⟨_, _, Tryz.underlying171, rfl, rfl, rfl, info_f (n := 1) (by kernel_rfl) (by decide)⟩
instance : TyF Tryz.prog 171 1 1 54 := ⟨_, _, Tryz.underlying171, rfl, rfl, rfl, info_f (n := 1) (by kernel_rfl) (by decide)⟩
-- 204: laws.Payload
instance : TyN Tryz.prog 204 1 := ⟨info_n (by kernel_rfl)⟩
instance : TyAg Tryz.prog 204 1 := ⟨fun w => by kernel_rfl, info_n (by kernel_rfl)⟩
theorem Tryz.z204 : (Tryz.prog.info? 204).map (·.zero) = some (some (.agg #[.slice none 0 0])) := by kernel_rfl
instance : TyZ Tryz.prog 204 [.nil] := ⟨by obtain ⟨i, h1, h2⟩ := info_z Tryz.z204; exact ⟨i, _, h1, h2, rfl⟩⟩
instance : TyE Tryz.prog 204 [.l []] := ⟨by obtain ⟨i, h1, h2⟩ := info_z Tryz.z204; exact ⟨i, _, h1, h2, rfl⟩⟩
instance : TyB Tryz.prog 204 [(0, 1)] := ⟨_, Tryz.underlying204, fun w => by kernel_rfl⟩
instance : TyF Tryz.prog 204 0 0 73 := ⟨_, _, Tryz.underlying204, rfl, rfl, rfl, info_f (n := 1) (by kernel_rfl) (by decide)⟩
-- 209: impl.Payload
instance : TyN Tryz.prog 209 1 := ⟨info_n (by kernel_rfl)⟩
instance : TyAg Tryz.prog 209 1 := ⟨fun w => by kernel_rfl, info_n (by kernel_rfl)⟩
theorem Tryz.z209 : (Tryz.prog.info? 209).map (·.zero) = some (some (.agg #[.slice none 0 0])) := by kernel_rfl
instance : TyZ Tryz.prog 209 [.nil] := ⟨by obtain ⟨i, h1, h2⟩ := info_z Tryz.z209; exact ⟨i, _, h1, h2, rfl⟩⟩
instance : TyE Tryz.prog 209 [.l []] := ⟨by obtain ⟨i, h1, h2⟩ := info_z Tryz.z209; exact ⟨i, _, h1, h2, rfl⟩⟩
instance : TyB Tryz.prog 209 [(0, 1)] := ⟨_, Tryz.underlying209, fun w => by kernel_rfl⟩
instance : TyF Tryz.prog 209 0 0 73 := ⟨_, _, Tryz.underlying209, rfl, rfl, rfl, info_f (n := 1) (by kernel_rfl) (by decide)⟩
-- 212: impl.Reservation
instance : TyN Tryz.prog 212 2 := ⟨info_n (by kernel_rfl)⟩
instance : TyAg Tryz.prog 212 2 := ⟨fun w => by kernel_rfl, info_n (by kernel_rfl)⟩
theorem Tryz.z212 : (Tryz.prog.info? 212).map (·.zero) = some (some (.agg #[.int .i64 0, .int .i64 0])) := by kernel_rfl
instance : TyZ Tryz.prog 212 [.d false (.i .i64 0), .d false (.i .i64 0)] := ⟨by obtain ⟨i, h1, h2⟩ := info_z Tryz.z212; exact ⟨i, _, h1, h2, rfl⟩⟩
instance : TyE Tryz.prog 212 [.i .i64 0, .i .i64 0] := ⟨by obtain ⟨i, h1, h2⟩ := info_z Tryz.z212; exact ⟨i, _, h1, h2, rfl⟩⟩
instance : TyB Tryz.prog 212 [(0, 1), (1, 1)] := ⟨_, Tryz.underlying212, fun w => by kernel_rfl⟩
instance : TyF Tryz.prog 212 0 0 3 := ⟨_, _, Tryz.underlying212, rfl, rfl, rfl, info_f (n := 1) (by kernel_rfl) (by decide)⟩
instance : TyF Tryz.prog 212 1 1 3 := ⟨_, _, Tryz.underlying212, rfl, rfl, rfl, info_f (n := 1) (by kernel_rfl) (by decide)⟩
-- 214: laws.Reservation
instance : TyN Tryz.prog 214 2 := ⟨info_n (by kernel_rfl)⟩
instance : TyAg Tryz.prog 214 2 := ⟨fun w => by kernel_rfl, info_n (by kernel_rfl)⟩
theorem Tryz.z214 : (Tryz.prog.info? 214).map (·.zero) = some (some (.agg #[.int .i64 0, .int .i64 0])) := by kernel_rfl
instance : TyZ Tryz.prog 214 [.d false (.i .i64 0), .d false (.i .i64 0)] := ⟨by obtain ⟨i, h1, h2⟩ := info_z Tryz.z214; exact ⟨i, _, h1, h2, rfl⟩⟩
instance : TyE Tryz.prog 214 [.i .i64 0, .i .i64 0] := ⟨by obtain ⟨i, h1, h2⟩ := info_z Tryz.z214; exact ⟨i, _, h1, h2, rfl⟩⟩
instance : TyB Tryz.prog 214 [(0, 1), (1, 1)] := ⟨_, Tryz.underlying214, fun w => by kernel_rfl⟩
instance : TyF Tryz.prog 214 0 0 3 := ⟨_, _, Tryz.underlying214, rfl, rfl, rfl, info_f (n := 1) (by kernel_rfl) (by decide)⟩
instance : TyF Tryz.prog 214 1 1 3 := ⟨_, _, Tryz.underlying214, rfl, rfl, rfl, info_f (n := 1) (by kernel_rfl) (by decide)⟩
-- 227: laws.NumberedPacket
instance : TyN Tryz.prog 227 2 := ⟨info_n (by kernel_rfl)⟩
instance : TyAg Tryz.prog 227 2 := ⟨fun w => by kernel_rfl, info_n (by kernel_rfl)⟩
theorem Tryz.z227 : (Tryz.prog.info? 227).map (·.zero) = some (some (.agg #[.int .i64 0, .slice none 0 0])) := by kernel_rfl
instance : TyZ Tryz.prog 227 [.d false (.i .i64 0), .nil] := ⟨by obtain ⟨i, h1, h2⟩ := info_z Tryz.z227; exact ⟨i, _, h1, h2, rfl⟩⟩
instance : TyE Tryz.prog 227 [.i .i64 0, .l []] := ⟨by obtain ⟨i, h1, h2⟩ := info_z Tryz.z227; exact ⟨i, _, h1, h2, rfl⟩⟩
instance : TyB Tryz.prog 227 [(0, 1), (1, 1)] := ⟨_, Tryz.underlying227, fun w => by kernel_rfl⟩
instance : TyF Tryz.prog 227 0 0 3 := ⟨_, _, Tryz.underlying227, rfl, rfl, rfl, info_f (n := 1) (by kernel_rfl) (by decide)⟩
instance : TyF Tryz.prog 227 1 1 73 := ⟨_, _, Tryz.underlying227, rfl, rfl, rfl, info_f (n := 1) (by kernel_rfl) (by decide)⟩
-- 229: impl.NumberedPacket
instance : TyN Tryz.prog 229 2 := ⟨info_n (by kernel_rfl)⟩
instance : TyAg Tryz.prog 229 2 := ⟨fun w => by kernel_rfl, info_n (by kernel_rfl)⟩
theorem Tryz.z229 : (Tryz.prog.info? 229).map (·.zero) = some (some (.agg #[.int .i64 0, .slice none 0 0])) := by kernel_rfl
instance : TyZ Tryz.prog 229 [.d false (.i .i64 0), .nil] := ⟨by obtain ⟨i, h1, h2⟩ := info_z Tryz.z229; exact ⟨i, _, h1, h2, rfl⟩⟩
instance : TyE Tryz.prog 229 [.i .i64 0, .l []] := ⟨by obtain ⟨i, h1, h2⟩ := info_z Tryz.z229; exact ⟨i, _, h1, h2, rfl⟩⟩
instance : TyB Tryz.prog 229 [(0, 1), (1, 1)] := ⟨_, Tryz.underlying229, fun w => by kernel_rfl⟩
instance : TyF Tryz.prog 229 0 0 3 := ⟨_, _, Tryz.underlying229, rfl, rfl, rfl, info_f (n := 1) (by kernel_rfl) (by decide)⟩
instance : TyF Tryz.prog 229 1 1 73 := ⟨_, _, Tryz.underlying229, rfl, rfl, rfl, info_f (n := 1) (by kernel_rfl) (by decide)⟩
theorem Tryz.sh3 : HasSh Tryz.prog 3 [.i .i64] := .int Tryz.underlying3
theorem Tryz.sh4 : HasSh Tryz.prog 4 [.b] := .bool Tryz.underlying4
theorem Tryz.sh5 : HasSh Tryz.prog 5 [.i .u8] := .int Tryz.underlying5
theorem Tryz.sh9 : HasSh Tryz.prog 9 [.str] := .string Tryz.underlying9
theorem Tryz.sh54 : HasSh Tryz.prog 54 [.l [.i .i64]] := .slice Tryz.underlying54 Tryz.sh3 (by kernel_rfl) (by decide)
theorem Tryz.sh164 : HasSh Tryz.prog 164 [.i .i64, .l [.i .i64]] := .struct (ss := [.i .i64, .l [.i .i64]]) Tryz.underlying164 (HasFs.cons (s1 := [.i .i64]) (s2 := [.l [.i .i64]]) rfl Tryz.sh3 (by kernel_rfl) (HasFs.cons (s1 := [.l [.i .i64]]) (s2 := []) rfl Tryz.sh54 (by kernel_rfl) (HasFs.nil))) (by kernel_rfl)
theorem Tryz.sh22 : HasSh Tryz.prog 22 [.l [.i .i64, .l [.i .i64]]] := .slice Tryz.underlying22 Tryz.sh164 (by kernel_rfl) (by decide)
theorem Tryz.sh24 : HasSh Tryz.prog 24 [.l [.i .i64, .l [.i .i64]]] := .struct (ss := [.l [.i .i64, .l [.i .i64]]]) Tryz.underlying24 (HasFs.cons (s1 := [.l [.i .i64, .l [.i .i64]]]) (s2 := []) rfl Tryz.sh22 (by kernel_rfl) (HasFs.nil)) (by kernel_rfl)
theorem Tryz.sh85 : HasSh Tryz.prog 85 [.i .i64, .i .i64] := .struct (ss := [.i .i64, .i .i64]) Tryz.underlying85 (HasFs.cons (s1 := [.i .i64]) (s2 := [.i .i64]) rfl Tryz.sh3 (by kernel_rfl) (HasFs.cons (s1 := [.i .i64]) (s2 := []) rfl Tryz.sh3 (by kernel_rfl) (HasFs.nil))) (by kernel_rfl)
theorem Tryz.sh87 : HasSh Tryz.prog 87 [.i .i64, .i .i64, .i .i64, .i .i64] := .struct (ss := [.i .i64, .i .i64, .i .i64, .i .i64]) Tryz.underlying87 (HasFs.cons (s1 := [.i .i64, .i .i64]) (s2 := [.i .i64, .i .i64]) rfl Tryz.sh85 (by kernel_rfl) (HasFs.cons (s1 := [.i .i64]) (s2 := [.i .i64]) rfl Tryz.sh3 (by kernel_rfl) (HasFs.cons (s1 := [.i .i64]) (s2 := []) rfl Tryz.sh3 (by kernel_rfl) (HasFs.nil)))) (by kernel_rfl)
theorem Tryz.sh73 : HasSh Tryz.prog 73 [.l [.i .u8]] := .slice Tryz.underlying73 Tryz.sh5 (by kernel_rfl) (by decide)
theorem Tryz.sh227 : HasSh Tryz.prog 227 [.i .i64, .l [.i .u8]] := .struct (ss := [.i .i64, .l [.i .u8]]) Tryz.underlying227 (HasFs.cons (s1 := [.i .i64]) (s2 := [.l [.i .u8]]) rfl Tryz.sh3 (by kernel_rfl) (HasFs.cons (s1 := [.l [.i .u8]]) (s2 := []) rfl Tryz.sh73 (by kernel_rfl) (HasFs.nil))) (by kernel_rfl)
theorem Tryz.sh88 : HasSh Tryz.prog 88 [.l [.i .i64, .l [.i .u8]]] := .slice Tryz.underlying88 Tryz.sh227 (by kernel_rfl) (by decide)
theorem Tryz.sh204 : HasSh Tryz.prog 204 [.l [.i .u8]] := .struct (ss := [.l [.i .u8]]) Tryz.underlying204 (HasFs.cons (s1 := [.l [.i .u8]]) (s2 := []) rfl Tryz.sh73 (by kernel_rfl) (HasFs.nil)) (by kernel_rfl)
theorem Tryz.sh89 : HasSh Tryz.prog 89 [.l [.l [.i .u8]]] := .slice Tryz.underlying89 Tryz.sh204 (by kernel_rfl) (by decide)
theorem Tryz.sh91 : HasSh Tryz.prog 91 [.i .i64, .l [.i .i64, .l [.i .u8]], .l [.l [.i .u8]]] := .struct (ss := [.i .i64, .l [.i .i64, .l [.i .u8]], .l [.l [.i .u8]]]) Tryz.underlying91 (HasFs.cons (s1 := [.i .i64]) (s2 := [.l [.i .i64, .l [.i .u8]], .l [.l [.i .u8]]]) rfl Tryz.sh3 (by kernel_rfl) (HasFs.cons (s1 := [.l [.i .i64, .l [.i .u8]]]) (s2 := [.l [.l [.i .u8]]]) rfl Tryz.sh88 (by kernel_rfl) (HasFs.cons (s1 := [.l [.l [.i .u8]]]) (s2 := []) rfl Tryz.sh89 (by kernel_rfl) (HasFs.nil)))) (by kernel_rfl)
theorem Tryz.sh93 : HasSh Tryz.prog 93 [.i .i64, .i .i64, .i .i64, .i .i64, .i .i64, .i .i64, .i .i64, .i .i64, .i .i64, .b, .i .i64, .i .i64, .l [.i .i64, .l [.i .u8]], .l [.l [.i .u8]]] := .struct (ss := [.i .i64, .i .i64, .i .i64, .i .i64, .i .i64, .i .i64, .i .i64, .i .i64, .i .i64, .b, .i .i64, .i .i64, .l [.i .i64, .l [.i .u8]], .l [.l [.i .u8]]]) Tryz.underlying93 (HasFs.cons (s1 := [.i .i64, .i .i64, .i .i64, .i .i64]) (s2 := [.i .i64, .i .i64, .i .i64, .i .i64, .i .i64, .b, .i .i64, .i .i64, .l [.i .i64, .l [.i .u8]], .l [.l [.i .u8]]]) rfl Tryz.sh87 (by kernel_rfl) (HasFs.cons (s1 := [.i .i64]) (s2 := [.i .i64, .i .i64, .i .i64, .i .i64, .b, .i .i64, .i .i64, .l [.i .i64, .l [.i .u8]], .l [.l [.i .u8]]]) rfl Tryz.sh3 (by kernel_rfl) (HasFs.cons (s1 := [.i .i64]) (s2 := [.i .i64, .i .i64, .i .i64, .b, .i .i64, .i .i64, .l [.i .i64, .l [.i .u8]], .l [.l [.i .u8]]]) rfl Tryz.sh3 (by kernel_rfl) (HasFs.cons (s1 := [.i .i64]) (s2 := [.i .i64, .i .i64, .b, .i .i64, .i .i64, .l [.i .i64, .l [.i .u8]], .l [.l [.i .u8]]]) rfl Tryz.sh3 (by kernel_rfl) (HasFs.cons (s1 := [.i .i64]) (s2 := [.i .i64, .b, .i .i64, .i .i64, .l [.i .i64, .l [.i .u8]], .l [.l [.i .u8]]]) rfl Tryz.sh3 (by kernel_rfl) (HasFs.cons (s1 := [.i .i64]) (s2 := [.b, .i .i64, .i .i64, .l [.i .i64, .l [.i .u8]], .l [.l [.i .u8]]]) rfl Tryz.sh3 (by kernel_rfl) (HasFs.cons (s1 := [.b]) (s2 := [.i .i64, .i .i64, .l [.i .i64, .l [.i .u8]], .l [.l [.i .u8]]]) rfl Tryz.sh4 (by kernel_rfl) (HasFs.cons (s1 := [.i .i64]) (s2 := [.i .i64, .l [.i .i64, .l [.i .u8]], .l [.l [.i .u8]]]) rfl Tryz.sh3 (by kernel_rfl) (HasFs.cons (s1 := [.i .i64, .l [.i .i64, .l [.i .u8]], .l [.l [.i .u8]]]) (s2 := []) rfl Tryz.sh91 (by kernel_rfl) (HasFs.nil)))))))))) (by kernel_rfl)
theorem Tryz.sh25 : HasSh Tryz.prog 25 [.l [.i .i64, .i .i64, .i .i64, .i .i64, .i .i64, .i .i64, .i .i64, .i .i64, .i .i64, .b, .i .i64, .i .i64, .l [.i .i64, .l [.i .u8]], .l [.l [.i .u8]]]] := .slice Tryz.underlying25 Tryz.sh93 (by kernel_rfl) (by decide)
theorem Tryz.sh96 : HasSh Tryz.prog 96 [.i .i64, .i .i64, .i .i64, .i .i64] := .struct (ss := [.i .i64, .i .i64, .i .i64, .i .i64]) Tryz.underlying96 (HasFs.cons (s1 := [.i .i64, .i .i64]) (s2 := [.i .i64, .i .i64]) rfl Tryz.sh85 (by kernel_rfl) (HasFs.cons (s1 := [.i .i64]) (s2 := [.i .i64]) rfl Tryz.sh3 (by kernel_rfl) (HasFs.cons (s1 := [.i .i64]) (s2 := []) rfl Tryz.sh3 (by kernel_rfl) (HasFs.nil)))) (by kernel_rfl)
theorem Tryz.sh98 : HasSh Tryz.prog 98 [.i .i64, .i .i64, .i .i64, .l [.i .i64]] := .struct (ss := [.i .i64, .i .i64, .i .i64, .l [.i .i64]]) Tryz.underlying98 (HasFs.cons (s1 := [.i .i64]) (s2 := [.i .i64, .i .i64, .l [.i .i64]]) rfl Tryz.sh3 (by kernel_rfl) (HasFs.cons (s1 := [.i .i64]) (s2 := [.i .i64, .l [.i .i64]]) rfl Tryz.sh3 (by kernel_rfl) (HasFs.cons (s1 := [.i .i64]) (s2 := [.l [.i .i64]]) rfl Tryz.sh3 (by kernel_rfl) (HasFs.cons (s1 := [.l [.i .i64]]) (s2 := []) rfl Tryz.sh54 (by kernel_rfl) (HasFs.nil))))) (by kernel_rfl)
theorem Tryz.sh99 : HasSh Tryz.prog 99 [.i .i64, .i .i64, .i .i64, .i .i64, .i .i64] := .struct (ss := [.i .i64, .i .i64, .i .i64, .i .i64, .i .i64]) Tryz.underlying99 (HasFs.cons (s1 := [.i .i64]) (s2 := [.i .i64, .i .i64, .i .i64, .i .i64]) rfl Tryz.sh3 (by kernel_rfl) (HasFs.cons (s1 := [.i .i64]) (s2 := [.i .i64, .i .i64, .i .i64]) rfl Tryz.sh3 (by kernel_rfl) (HasFs.cons (s1 := [.i .i64]) (s2 := [.i .i64, .i .i64]) rfl Tryz.sh3 (by kernel_rfl) (HasFs.cons (s1 := [.i .i64]) (s2 := [.i .i64]) rfl Tryz.sh3 (by kernel_rfl) (HasFs.cons (s1 := [.i .i64]) (s2 := []) rfl Tryz.sh3 (by kernel_rfl) (HasFs.nil)))))) (by kernel_rfl)
theorem Tryz.sh101 : HasSh Tryz.prog 101 [.i .i64, .i .i64, .i .i64] := .struct (ss := [.i .i64, .i .i64, .i .i64]) Tryz.underlying101 (HasFs.cons (s1 := [.i .i64]) (s2 := [.i .i64, .i .i64]) rfl Tryz.sh3 (by kernel_rfl) (HasFs.cons (s1 := [.i .i64]) (s2 := [.i .i64]) rfl Tryz.sh3 (by kernel_rfl) (HasFs.cons (s1 := [.i .i64]) (s2 := []) rfl Tryz.sh3 (by kernel_rfl) (HasFs.nil)))) (by kernel_rfl)
theorem Tryz.sh103 : HasSh Tryz.prog 103 [.i .i64, .l [.i .i64, .l [.i .u8]]] := .struct (ss := [.i .i64, .l [.i .i64, .l [.i .u8]]]) Tryz.underlying103 (HasFs.cons (s1 := [.i .i64]) (s2 := [.l [.i .i64, .l [.i .u8]]]) rfl Tryz.sh3 (by kernel_rfl) (HasFs.cons (s1 := [.l [.i .i64, .l [.i .u8]]]) (s2 := []) rfl Tryz.sh88 (by kernel_rfl) (HasFs.nil))) (by kernel_rfl)
theorem Tryz.sh105 : HasSh Tryz.prog 105 [.i .i64, .i .i64, .i .i64] := .struct (ss := [.i .i64, .i .i64, .i .i64]) Tryz.underlying105 (HasFs.cons (s1 := [.i .i64]) (s2 := [.i .i64, .i .i64]) rfl Tryz.sh3 (by kernel_rfl) (HasFs.cons (s1 := [.i .i64]) (s2 := [.i .i64]) rfl Tryz.sh3 (by kernel_rfl) (HasFs.cons (s1 := [.i .i64]) (s2 := []) rfl Tryz.sh3 (by kernel_rfl) (HasFs.nil)))) (by kernel_rfl)
theorem Tryz.sh107 : HasSh Tryz.prog 107 [.i .i64, .i .i64, .i .i64, .i .i64, .i .i64, .i .i64, .i .i64, .l [.i .i64], .i .i64, .i .i64, .i .i64, .i .i64, .i .i64, .i .i64, .i .i64, .i .i64, .i .i64, .i .i64, .i .i64, .i .i64, .i .i64, .i .i64, .i .i64, .l [.l [.i .u8]], .i .i64, .l [.i .i64, .l [.i .u8]], .i .i64, .i .i64, .i .i64, .i .i64] := .struct (ss := [.i .i64, .i .i64, .i .i64, .i .i64, .i .i64, .i .i64, .i .i64, .l [.i .i64], .i .i64, .i .i64, .i .i64, .i .i64, .i .i64, .i .i64, .i .i64, .i .i64, .i .i64, .i .i64, .i .i64, .i .i64, .i .i64, .i .i64, .i .i64, .l [.l [.i .u8]], .i .i64, .l [.i .i64, .l [.i .u8]], .i .i64, .i .i64, .i .i64, .i .i64]) Tryz.underlying107 (HasFs.cons (s1 := [.i .i64, .i .i64, .i .i64, .i .i64]) (s2 := [.i .i64, .i .i64, .i .i64, .l [.i .i64], .i .i64, .i .i64, .i .i64, .i .i64, .i .i64, .i .i64, .i .i64, .i .i64, .i .i64, .i .i64, .i .i64, .i .i64, .i .i64, .i .i64, .i .i64, .l [.l [.i .u8]], .i .i64, .l [.i .i64, .l [.i .u8]], .i .i64, .i .i64, .i .i64, .i .i64]) rfl Tryz.sh96 (by kernel_rfl) (HasFs.cons (s1 := [.i .i64, .i .i64, .i .i64, .l [.i .i64]]) (s2 := [.i .i64, .i .i64, .i .i64, .i .i64, .i .i64, .i .i64, .i .i64, .i .i64, .i .i64, .i .i64, .i .i64, .i .i64, .i .i64, .i .i64, .i .i64, .l [.l [.i .u8]], .i .i64, .l [.i .i64, .l [.i .u8]], .i .i64, .i .i64, .i .i64, .i .i64]) rfl Tryz.sh98 (by kernel_rfl) (HasFs.cons (s1 := [.i .i64]) (s2 := [.i .i64, .i .i64, .i .i64, .i .i64, .i .i64, .i .i64, .i .i64, .i .i64, .i .i64, .i .i64, .i .i64, .i .i64, .i .i64, .i .i64, .l [.l [.i .u8]], .i .i64, .l [.i .i64, .l [.i .u8]], .i .i64, .i .i64, .i .i64, .i .i64]) rfl Tryz.sh3 (by kernel_rfl) (HasFs.cons (s1 := [.i .i64, .i .i64, .i .i64, .i .i64, .i .i64]) (s2 := [.i .i64, .i .i64, .i .i64, .i .i64, .i .i64, .i .i64, .i .i64, .i .i64, .i .i64, .l [.l [.i .u8]], .i .i64, .l [.i .i64, .l [.i .u8]], .i .i64, .i .i64, .i .i64, .i .i64]) rfl Tryz.sh99 (by kernel_rfl) (HasFs.cons (s1 := [.i .i64]) (s2 := [.i .i64, .i .i64, .i .i64, .i .i64, .i .i64, .i .i64, .i .i64, .i .i64, .l [.l [.i .u8]], .i .i64, .l [.i .i64, .l [.i .u8]], .i .i64, .i .i64, .i .i64, .i .i64]) rfl Tryz.sh3 (by kernel_rfl) (HasFs.cons (s1 := [.i .i64]) (s2 := [.i .i64, .i .i64, .i .i64, .i .i64, .i .i64, .i .i64, .i .i64, .l [.l [.i .u8]], .i .i64, .l [.i .i64, .l [.i .u8]], .i .i64, .i .i64, .i .i64, .i .i64]) rfl Tryz.sh3 (by kernel_rfl) (HasFs.cons (s1 := [.i .i64]) (s2 := [.i .i64, .i .i64, .i .i64, .i .i64, .i .i64, .i .i64, .l [.l [.i .u8]], .i .i64, .l [.i .i64, .l [.i .u8]], .i .i64, .i .i64, .i .i64, .i .i64]) rfl Tryz.sh3 (by kernel_rfl) (HasFs.cons (s1 := [.i .i64]) (s2 := [.i .i64, .i .i64, .i .i64, .i .i64, .i .i64, .l [.l [.i .u8]], .i .i64, .l [.i .i64, .l [.i .u8]], .i .i64, .i .i64, .i .i64, .i .i64]) rfl Tryz.sh3 (by kernel_rfl) (HasFs.cons (s1 := [.i .i64]) (s2 := [.i .i64, .i .i64, .i .i64, .i .i64, .l [.l [.i .u8]], .i .i64, .l [.i .i64, .l [.i .u8]], .i .i64, .i .i64, .i .i64, .i .i64]) rfl Tryz.sh3 (by kernel_rfl) (HasFs.cons (s1 := [.i .i64]) (s2 := [.i .i64, .i .i64, .i .i64, .l [.l [.i .u8]], .i .i64, .l [.i .i64, .l [.i .u8]], .i .i64, .i .i64, .i .i64, .i .i64]) rfl Tryz.sh3 (by kernel_rfl) (HasFs.cons (s1 := [.i .i64, .i .i64, .i .i64]) (s2 := [.l [.l [.i .u8]], .i .i64, .l [.i .i64, .l [.i .u8]], .i .i64, .i .i64, .i .i64, .i .i64]) rfl Tryz.sh101 (by kernel_rfl) (HasFs.cons (s1 := [.l [.l [.i .u8]]]) (s2 := [.i .i64, .l [.i .i64, .l [.i .u8]], .i .i64, .i .i64, .i .i64, .i .i64]) rfl Tryz.sh89 (by kernel_rfl) (HasFs.cons (s1 := [.i .i64, .l [.i .i64, .l [.i .u8]]]) (s2 := [.i .i64, .i .i64, .i .i64, .i .i64]) rfl Tryz.sh103 (by kernel_rfl) (HasFs.cons (s1 := [.i .i64]) (s2 := [.i .i64, .i .i64, .i .i64]) rfl Tryz.sh3 (by kernel_rfl) (HasFs.cons (s1 := [.i .i64, .i .i64, .i .i64]) (s2 := []) rfl Tryz.sh105 (by kernel_rfl) (HasFs.nil)))))))))))))))) (by kernel_rfl)
theorem Tryz.sh26 : HasSh Tryz.prog 26 [.l [.i .i64, .i .i64, .i .i64, .i .i64, .i .i64, .i .i64, .i .i64, .l [.i .i64], .i .i64, .i .i64, .i .i64, .i .i64, .i .i64, .i .i64, .i .i64, .i .i64, .i .i64, .i .i64, .i .i64, .i .i64, .i .i64, .i .i64, .i .i64, .l [.l [.i .u8]], .i .i64, .l [.i .i64, .l [.i .u8]], .i .i64, .i .i64, .i .i64, .i .i64]] := .slice Tryz.underlying26 Tryz.sh107 (by kernel_rfl) (by decide)
theorem Tryz.sh214 : HasSh Tryz.prog 214 [.i .i64, .i .i64] := .struct (ss := [.i .i64, .i .i64]) Tryz.underlying214 (HasFs.cons (s1 := [.i .i64]) (s2 := [.i .i64]) rfl Tryz.sh3 (by kernel_rfl) (HasFs.cons (s1 := [.i .i64]) (s2 := []) rfl Tryz.sh3 (by kernel_rfl) (HasFs.nil))) (by kernel_rfl)
theorem Tryz.sh109 : HasSh Tryz.prog 109 [.l [.i .i64, .i .i64]] := .slice Tryz.underlying109 Tryz.sh214 (by kernel_rfl) (by decide)
theorem Tryz.sh111 : HasSh Tryz.prog 111 [.i .i64, .i .i64, .i .i64, .l [.i .i64, .i .i64]] := .struct (ss := [.i .i64, .i .i64, .i .i64, .l [.i .i64, .i .i64]]) Tryz.underlying111 (HasFs.cons (s1 := [.i .i64]) (s2 := [.i .i64, .i .i64, .l [.i .i64, .i .i64]]) rfl Tryz.sh3 (by kernel_rfl) (HasFs.cons (s1 := [.i .i64]) (s2 := [.i .i64, .l [.i .i64, .i .i64]]) rfl Tryz.sh3 (by kernel_rfl) (HasFs.cons (s1 := [.i .i64]) (s2 := [.l [.i .i64, .i .i64]]) rfl Tryz.sh3 (by kernel_rfl) (HasFs.cons (s1 := [.l [.i .i64, .i .i64]]) (s2 := []) rfl Tryz.sh109 (by kernel_rfl) (HasFs.nil))))) (by kernel_rfl)
theorem Tryz.sh27 : HasSh Tryz.prog 27 [.l [.i .i64, .i .i64, .i .i64, .l [.i .i64, .i .i64]]] := .slice Tryz.underlying27 Tryz.sh111 (by kernel_rfl) (by decide)
theorem Tryz.sh114 : HasSh Tryz.prog 114 [.i .i64, .i .i64, .i .i64, .i .i64, .i .i64, .i .i64, .i .i64, .i .i64, .i .i64, .i .i64, .i .i64] := .struct (ss := [.i .i64, .i .i64, .i .i64, .i .i64, .i .i64, .i .i64, .i .i64, .i .i64, .i .i64, .i .i64, .i .i64]) Tryz.underlying114 (HasFs.cons (s1 := [.i .i64]) (s2 := [.i .i64, .i .i64, .i .i64, .i .i64, .i .i64, .i .i64, .i .i64, .i .i64, .i .i64, .i .i64]) rfl Tryz.sh3 (by kernel_rfl) (HasFs.cons (s1 := [.i .i64]) (s2 := [.i .i64, .i .i64, .i .i64, .i .i64, .i .i64, .i .i64, .i .i64, .i .i64, .i .i64]) rfl Tryz.sh3 (by kernel_rfl) (HasFs.cons (s1 := [.i .i64]) (s2 := [.i .i64, .i .i64, .i .i64, .i .i64, .i .i64, .i .i64, .i .i64, .i .i64]) rfl Tryz.sh3 (by kernel_rfl) (HasFs.cons (s1 := [.i .i64]) (s2 := [.i .i64, .i .i64, .i .i64, .i .i64, .i .i64, .i .i64, .i .i64]) rfl Tryz.sh3 (by kernel_rfl) (HasFs.cons (s1 := [.i .i64]) (s2 := [.i .i64, .i .i64, .i .i64, .i .i64, .i .i64, .i .i64]) rfl Tryz.sh3 (by kernel_rfl) (HasFs.cons (s1 := [.i .i64, .i .i64, .i .i64, .i .i64, .i .i64]) (s2 := [.i .i64]) rfl Tryz.sh99 (by kernel_rfl) (HasFs.cons (s1 := [.i .i64]) (s2 := []) rfl Tryz.sh3 (by kernel_rfl) (HasFs.nil)))))))) (by kernel_rfl)
theorem Tryz.sh115 : HasSh Tryz.prog 115 [.i .i64, .i .i64, .l [.i .u8], .i .i64] := .struct (ss := [.i .i64, .i .i64, .l [.i .u8], .i .i64]) Tryz.underlying115 (HasFs.cons (s1 := [.i .i64]) (s2 := [.i .i64, .l [.i .u8], .i .i64]) rfl Tryz.sh3 (by kernel_rfl) (HasFs.cons (s1 := [.i .i64]) (s2 := [.l [.i .u8], .i .i64]) rfl Tryz.sh3 (by kernel_rfl) (HasFs.cons (s1 := [.l [.i .u8]]) (s2 := [.i .i64]) rfl Tryz.sh73 (by kernel_rfl) (HasFs.cons (s1 := [.i .i64]) (s2 := []) rfl Tryz.sh3 (by kernel_rfl) (HasFs.nil))))) (by kernel_rfl)
theorem Tryz.sh117 : HasSh Tryz.prog 117 [.i .i64, .i .i64, .i .i64, .i .i64, .l [.i .u8], .i .i64] := .struct (ss := [.i .i64, .i .i64, .i .i64, .i .i64, .l [.i .u8], .i .i64]) Tryz.underlying117 (HasFs.cons (s1 := [.i .i64]) (s2 := [.i .i64, .i .i64, .i .i64, .l [.i .u8], .i .i64]) rfl Tryz.sh3 (by kernel_rfl) (HasFs.cons (s1 := [.i .i64]) (s2 := [.i .i64, .i .i64, .l [.i .u8], .i .i64]) rfl Tryz.sh3 (by kernel_rfl) (HasFs.cons (s1 := [.i .i64, .i .i64, .l [.i .u8], .i .i64]) (s2 := []) rfl Tryz.sh115 (by kernel_rfl) (HasFs.nil)))) (by kernel_rfl)
theorem Tryz.sh119 : HasSh Tryz.prog 119 [.i .i64, .b, .b, .i .i64, .i .i64, .i .i64, .i .i64, .i .i64, .i .i64, .i .i64, .i .i64, .i .i64, .i .i64, .i .i64, .i .i64, .i .i64, .i .i64, .i .i64, .i .i64, .l [.i .u8], .i .i64] := .struct (ss := [.i .i64, .b, .b, .i .i64, .i .i64, .i .i64, .i .i64, .i .i64, .i .i64, .i .i64, .i .i64, .i .i64, .i .i64, .i .i64, .i .i64, .i .i64, .i .i64, .i .i64, .i .i64, .l [.i .u8], .i .i64]) Tryz.underlying119 (HasFs.cons (s1 := [.i .i64]) (s2 := [.b, .b, .i .i64, .i .i64, .i .i64, .i .i64, .i .i64, .i .i64, .i .i64, .i .i64, .i .i64, .i .i64, .i .i64, .i .i64, .i .i64, .i .i64, .i .i64, .i .i64, .l [.i .u8], .i .i64]) rfl Tryz.sh3 (by kernel_rfl) (HasFs.cons (s1 := [.b]) (s2 := [.b, .i .i64, .i .i64, .i .i64, .i .i64, .i .i64, .i .i64, .i .i64, .i .i64, .i .i64, .i .i64, .i .i64, .i .i64, .i .i64, .i .i64, .i .i64, .i .i64, .l [.i .u8], .i .i64]) rfl Tryz.sh4 (by kernel_rfl) (HasFs.cons (s1 := [.b]) (s2 := [.i .i64, .i .i64, .i .i64, .i .i64, .i .i64, .i .i64, .i .i64, .i .i64, .i .i64, .i .i64, .i .i64, .i .i64, .i .i64, .i .i64, .i .i64, .i .i64, .l [.i .u8], .i .i64]) rfl Tryz.sh4 (by kernel_rfl) (HasFs.cons (s1 := [.i .i64]) (s2 := [.i .i64, .i .i64, .i .i64, .i .i64, .i .i64, .i .i64, .i .i64, .i .i64, .i .i64, .i .i64, .i .i64, .i .i64, .i .i64, .i .i64, .i .i64, .l [.i .u8], .i .i64]) rfl Tryz.sh3 (by kernel_rfl) (HasFs.cons (s1 := [.i .i64, .i .i64, .i .i64, .i .i64, .i .i64, .i .i64, .i .i64, .i .i64, .i .i64, .i .i64, .i .i64]) (s2 := [.i .i64, .i .i64, .i .i64, .i .i64, .l [.i .u8], .i .i64]) rfl Tryz.sh114 (by kernel_rfl) (HasFs.cons (s1 := [.i .i64, .i .i64, .i .i64, .i .i64, .l [.i .u8], .i .i64]) (s2 := []) rfl Tryz.sh117 (by kernel_rfl) (HasFs.nil))))))) (by kernel_rfl)
theorem Tryz.sh28 : HasSh Tryz.prog 28 [.l [.i .i64, .b, .b, .i .i64, .i .i64, .i .i64, .i .i64, .i .i64, .i .i64, .i .i64, .i .i64, .i .i64, .i .i64, .i .i64, .i .i64, .i .i64, .i .i64, .i .i64, .i .i64, .l [.i .u8], .i .i64]] := .slice Tryz.underlying28 Tryz.sh119 (by kernel_rfl) (by decide)
theorem Tryz.sh30 : HasSh Tryz.prog 30 [.i .i64, .i .i64] := .struct (ss := [.i .i64, .i .i64]) Tryz.underlying30 (HasFs.cons (s1 := [.i .i64]) (s2 := [.i .i64]) rfl Tryz.sh3 (by kernel_rfl) (HasFs.cons (s1 := [.i .i64]) (s2 := []) rfl Tryz.sh3 (by kernel_rfl) (HasFs.nil))) (by kernel_rfl)
theorem Tryz.sh32 : HasSh Tryz.prog 32 [.l [.i .i64, .l [.i .i64]], .l [.i .i64, .i .i64, .i .i64, .i .i64, .i .i64, .i .i64, .i .i64, .i .i64, .i .i64, .b, .i .i64, .i .i64, .l [.i .i64, .l [.i .u8]], .l [.l [.i .u8]]], .l [.i .i64, .i .i64, .i .i64, .i .i64, .i .i64, .i .i64, .i .i64, .l [.i .i64], .i .i64, .i .i64, .i .i64, .i .i64, .i .i64, .i .i64, .i .i64, .i .i64, .i .i64, .i .i64, .i .i64, .i .i64, .i .i64, .i .i64, .i .i64, .l [.l [.i .u8]], .i .i64, .l [.i .i64, .l [.i .u8]], .i .i64, .i .i64, .i .i64, .i .i64], .l [.i .i64, .i .i64, .i .i64, .l [.i .i64, .i .i64]], .l [.i .i64, .b, .b, .i .i64, .i .i64, .i .i64, .i .i64, .i .i64, .i .i64, .i .i64, .i .i64, .i .i64, .i .i64, .i .i64, .i .i64, .i .i64, .i .i64, .i .i64, .i .i64, .l [.i .u8], .i .i64], .i .i64, .i .i64, .i .i64, .i .i64, .i .i64] := .struct (ss := [.l [.i .i64, .l [.i .i64]], .l [.i .i64, .i .i64, .i .i64, .i .i64, .i .i64, .i .i64, .i .i64, .i .i64, .i .i64, .b, .i .i64, .i .i64, .l [.i .i64, .l [.i .u8]], .l [.l [.i .u8]]], .l [.i .i64, .i .i64, .i .i64, .i .i64, .i .i64, .i .i64, .i .i64, .l [.i .i64], .i .i64, .i .i64, .i .i64, .i .i64, .i .i64, .i .i64, .i .i64, .i .i64, .i .i64, .i .i64, .i .i64, .i .i64, .i .i64, .i .i64, .i .i64, .l [.l [.i .u8]], .i .i64, .l [.i .i64, .l [.i .u8]], .i .i64, .i .i64, .i .i64, .i .i64], .l [.i .i64, .i .i64, .i .i64, .l [.i .i64, .i .i64]], .l [.i .i64, .b, .b, .i .i64, .i .i64, .i .i64, .i .i64, .i .i64, .i .i64, .i .i64, .i .i64, .i .i64, .i .i64, .i .i64, .i .i64, .i .i64, .i .i64, .i .i64, .i .i64, .l [.i .u8], .i .i64], .i .i64, .i .i64, .i .i64, .i .i64, .i .i64]) Tryz.underlying32 (HasFs.cons (s1 := [.l [.i .i64, .l [.i .i64]]]) (s2 := [.l [.i .i64, .i .i64, .i .i64, .i .i64, .i .i64, .i .i64, .i .i64, .i .i64, .i .i64, .b, .i .i64, .i .i64, .l [.i .i64, .l [.i .u8]], .l [.l [.i .u8]]], .l [.i .i64, .i .i64, .i .i64, .i .i64, .i .i64, .i .i64, .i .i64, .l [.i .i64], .i .i64, .i .i64, .i .i64, .i .i64, .i .i64, .i .i64, .i .i64, .i .i64, .i .i64, .i .i64, .i .i64, .i .i64, .i .i64, .i .i64, .i .i64, .l [.l [.i .u8]], .i .i64, .l [.i .i64, .l [.i .u8]], .i .i64, .i .i64, .i .i64, .i .i64], .l [.i .i64, .i .i64, .i .i64, .l [.i .i64, .i .i64]], .l [.i .i64, .b, .b, .i .i64, .i .i64, .i .i64, .i .i64, .i .i64, .i .i64, .i .i64, .i .i64, .i .i64, .i .i64, .i .i64, .i .i64, .i .i64, .i .i64, .i .i64, .i .i64, .l [.i .u8], .i .i64], .i .i64, .i .i64, .i .i64, .i .i64, .i .i64]) rfl Tryz.sh24 (by kernel_rfl) (HasFs.cons (s1 := [.l [.i .i64, .i .i64, .i .i64, .i .i64, .i .i64, .i .i64, .i .i64, .i .i64, .i .i64, .b, .i .i64, .i .i64, .l [.i .i64, .l [.i .u8]], .l [.l [.i .u8]]]]) (s2 := [.l [.i .i64, .i .i64, .i .i64, .i .i64, .i .i64, .i .i64, .i .i64, .l [.i .i64], .i .i64, .i .i64, .i .i64, .i .i64, .i .i64, .i .i64, .i .i64, .i .i64, .i .i64, .i .i64, .i .i64, .i .i64, .i .i64, .i .i64, .i .i64, .l [.l [.i .u8]], .i .i64, .l [.i .i64, .l [.i .u8]], .i .i64, .i .i64, .i .i64, .i .i64], .l [.i .i64, .i .i64, .i .i64, .l [.i .i64, .i .i64]], .l [.i .i64, .b, .b, .i .i64, .i .i64, .i .i64, .i .i64, .i .i64, .i .i64, .i .i64, .i .i64, .i .i64, .i .i64, .i .i64, .i .i64, .i .i64, .i .i64, .i .i64, .i .i64, .l [.i .u8], .i .i64], .i .i64, .i .i64, .i .i64, .i .i64, .i .i64]) rfl Tryz.sh25 (by kernel_rfl) (HasFs.cons (s1 := [.l [.i .i64, .i .i64, .i .i64, .i .i64, .i .i64, .i .i64, .i .i64, .l [.i .i64], .i .i64, .i .i64, .i .i64, .i .i64, .i .i64, .i .i64, .i .i64, .i .i64, .i .i64, .i .i64, .i .i64, .i .i64, .i .i64, .i .i64, .i .i64, .l [.l [.i .u8]], .i .i64, .l [.i .i64, .l [.i .u8]], .i .i64, .i .i64, .i .i64, .i .i64]]) (s2 := [.l [.i .i64, .i .i64, .i .i64, .l [.i .i64, .i .i64]], .l [.i .i64, .b, .b, .i .i64, .i .i64, .i .i64, .i .i64, .i .i64, .i .i64, .i .i64, .i .i64, .i .i64, .i .i64, .i .i64, .i .i64, .i .i64, .i .i64, .i .i64, .i .i64, .l [.i .u8], .i .i64], .i .i64, .i .i64, .i .i64, .i .i64, .i .i64]) rfl Tryz.sh26 (by kernel_rfl) (HasFs.cons (s1 := [.l [.i .i64, .i .i64, .i .i64, .l [.i .i64, .i .i64]]]) (s2 := [.l [.i .i64, .b, .b, .i .i64, .i .i64, .i .i64, .i .i64, .i .i64, .i .i64, .i .i64, .i .i64, .i .i64, .i .i64, .i .i64, .i .i64, .i .i64, .i .i64, .i .i64, .i .i64, .l [.i .u8], .i .i64], .i .i64, .i .i64, .i .i64, .i .i64, .i .i64]) rfl Tryz.sh27 (by kernel_rfl) (HasFs.cons (s1 := [.l [.i .i64, .b, .b, .i .i64, .i .i64, .i .i64, .i .i64, .i .i64, .i .i64, .i .i64, .i .i64, .i .i64, .i .i64, .i .i64, .i .i64, .i .i64, .i .i64, .i .i64, .i .i64, .l [.i .u8], .i .i64]]) (s2 := [.i .i64, .i .i64, .i .i64, .i .i64, .i .i64]) rfl Tryz.sh28 (by kernel_rfl) (HasFs.cons (s1 := [.i .i64]) (s2 := [.i .i64, .i .i64, .i .i64, .i .i64]) rfl Tryz.sh3 (by kernel_rfl) (HasFs.cons (s1 := [.i .i64, .i .i64]) (s2 := [.i .i64, .i .i64]) rfl Tryz.sh30 (by kernel_rfl) (HasFs.cons (s1 := [.i .i64]) (s2 := [.i .i64]) rfl Tryz.sh3 (by kernel_rfl) (HasFs.cons (s1 := [.i .i64]) (s2 := []) rfl Tryz.sh3 (by kernel_rfl) (HasFs.nil)))))))))) (by kernel_rfl)
theorem Tryz.sh171 : HasSh Tryz.prog 171 [.i .i64, .l [.i .i64]] := .struct (ss := [.i .i64, .l [.i .i64]]) Tryz.underlying171 (HasFs.cons (s1 := [.i .i64]) (s2 := [.l [.i .i64]]) rfl Tryz.sh3 (by kernel_rfl) (HasFs.cons (s1 := [.l [.i .i64]]) (s2 := []) rfl Tryz.sh54 (by kernel_rfl) (HasFs.nil))) (by kernel_rfl)
theorem Tryz.sh35 : HasSh Tryz.prog 35 [.l [.i .i64, .l [.i .i64]]] := .slice Tryz.underlying35 Tryz.sh171 (by kernel_rfl) (by decide)
theorem Tryz.sh37 : HasSh Tryz.prog 37 [.l [.i .i64, .l [.i .i64]]] := .struct (ss := [.l [.i .i64, .l [.i .i64]]]) Tryz.underlying37 (HasFs.cons (s1 := [.l [.i .i64, .l [.i .i64]]]) (s2 := []) rfl Tryz.sh35 (by kernel_rfl) (HasFs.nil)) (by kernel_rfl)
theorem Tryz.sh125 : HasSh Tryz.prog 125 [.i .i64, .i .i64] := .struct (ss := [.i .i64, .i .i64]) Tryz.underlying125 (HasFs.cons (s1 := [.i .i64]) (s2 := [.i .i64]) rfl Tryz.sh3 (by kernel_rfl) (HasFs.cons (s1 := [.i .i64]) (s2 := []) rfl Tryz.sh3 (by kernel_rfl) (HasFs.nil))) (by kernel_rfl)
theorem Tryz.sh127 : HasSh Tryz.prog 127 [.i .i64, .i .i64, .i .i64, .i .i64] := .struct (ss := [.i .i64, .i .i64, .i .i64, .i .i64]) Tryz.underlying127 (HasFs.cons (s1 := [.i .i64, .i .i64]) (s2 := [.i .i64, .i .i64]) rfl Tryz.sh125 (by kernel_rfl) (HasFs.cons (s1 := [.i .i64]) (s2 := [.i .i64]) rfl Tryz.sh3 (by kernel_rfl) (HasFs.cons (s1 := [.i .i64]) (s2 := []) rfl Tryz.sh3 (by kernel_rfl) (HasFs.nil)))) (by kernel_rfl)
theorem Tryz.sh229 : HasSh Tryz.prog 229 [.i .i64, .l [.i .u8]] := .struct (ss := [.i .i64, .l [.i .u8]]) Tryz.underlying229 (HasFs.cons (s1 := [.i .i64]) (s2 := [.l [.i .u8]]) rfl Tryz.sh3 (by kernel_rfl) (HasFs.cons (s1 := [.l [.i .u8]]) (s2 := []) rfl Tryz.sh73 (by kernel_rfl) (HasFs.nil))) (by kernel_rfl)
theorem Tryz.sh121 : HasSh Tryz.prog 121 [.l [.i .i64, .l [.i .u8]]] := .slice Tryz.underlying121 Tryz.sh229 (by kernel_rfl) (by decide)
theorem Tryz.sh209 : HasSh Tryz.prog 209 [.l [.i .u8]] := .struct (ss := [.l [.i .u8]]) Tryz.underlying209 (HasFs.cons (s1 := [.l [.i .u8]]) (s2 := []) rfl Tryz.sh73 (by kernel_rfl) (HasFs.nil)) (by kernel_rfl)
theorem Tryz.sh122 : HasSh Tryz.prog 122 [.l [.l [.i .u8]]] := .slice Tryz.underlying122 Tryz.sh209 (by kernel_rfl) (by decide)
theorem Tryz.sh124 : HasSh Tryz.prog 124 [.i .i64, .l [.i .i64, .l [.i .u8]], .l [.l [.i .u8]]] := .struct (ss := [.i .i64, .l [.i .i64, .l [.i .u8]], .l [.l [.i .u8]]]) Tryz.underlying124 (HasFs.cons (s1 := [.i .i64]) (s2 := [.l [.i .i64, .l [.i .u8]], .l [.l [.i .u8]]]) rfl Tryz.sh3 (by kernel_rfl) (HasFs.cons (s1 := [.l [.i .i64, .l [.i .u8]]]) (s2 := [.l [.l [.i .u8]]]) rfl Tryz.sh121 (by kernel_rfl) (HasFs.cons (s1 := [.l [.l [.i .u8]]]) (s2 := []) rfl Tryz.sh122 (by kernel_rfl) (HasFs.nil)))) (by kernel_rfl)
theorem Tryz.sh129 : HasSh Tryz.prog 129 [.i .i64, .i .i64, .i .i64, .i .i64, .i .i64, .i .i64, .i .i64, .i .i64, .i .i64, .b, .i .i64, .i .i64, .l [.i .i64, .l [.i .u8]], .l [.l [.i .u8]]] := .struct (ss := [.i .i64, .i .i64, .i .i64, .i .i64, .i .i64, .i .i64, .i .i64, .i .i64, .i .i64, .b, .i .i64, .i .i64, .l [.i .i64, .l [.i .u8]], .l [.l [.i .u8]]]) Tryz.underlying129 (HasFs.cons (s1 := [.i .i64, .i .i64, .i .i64, .i .i64]) (s2 := [.i .i64, .i .i64, .i .i64, .i .i64, .i .i64, .b, .i .i64, .i .i64, .l [.i .i64, .l [.i .u8]], .l [.l [.i .u8]]]) rfl Tryz.sh127 (by kernel_rfl) (HasFs.cons (s1 := [.i .i64]) (s2 := [.i .i64, .i .i64, .i .i64, .i .i64, .b, .i .i64, .i .i64, .l [.i .i64, .l [.i .u8]], .l [.l [.i .u8]]]) rfl Tryz.sh3 (by kernel_rfl) (HasFs.cons (s1 := [.i .i64]) (s2 := [.i .i64, .i .i64, .i .i64, .b, .i .i64, .i .i64, .l [.i .i64, .l [.i .u8]], .l [.l [.i .u8]]]) rfl Tryz.sh3 (by kernel_rfl) (HasFs.cons (s1 := [.i .i64]) (s2 := [.i .i64, .i .i64, .b, .i .i64, .i .i64, .l [.i .i64, .l [.i .u8]], .l [.l [.i .u8]]]) rfl Tryz.sh3 (by kernel_rfl) (HasFs.cons (s1 := [.i .i64]) (s2 := [.i .i64, .b, .i .i64, .i .i64, .l [.i .i64, .l [.i .u8]], .l [.l [.i .u8]]]) rfl Tryz.sh3 (by kernel_rfl) (HasFs.cons (s1 := [.i .i64]) (s2 := [.b, .i .i64, .i .i64, .l [.i .i64, .l [.i .u8]], .l [.l [.i .u8]]]) rfl Tryz.sh3 (by kernel_rfl) (HasFs.cons (s1 := [.b]) (s2 := [.i .i64, .i .i64, .l [.i .i64, .l [.i .u8]], .l [.l [.i .u8]]]) rfl Tryz.sh4 (by kernel_rfl) (HasFs.cons (s1 := [.i .i64]) (s2 := [.i .i64, .l [.i .i64, .l [.i .u8]], .l [.l [.i .u8]]]) rfl Tryz.sh3 (by kernel_rfl) (HasFs.cons (s1 := [.i .i64, .l [.i .i64, .l [.i .u8]], .l [.l [.i .u8]]]) (s2 := []) rfl Tryz.sh124 (by kernel_rfl) (HasFs.nil)))))))))) (by kernel_rfl)
theorem Tryz.sh38 : HasSh Tryz.prog 38 [.l [.i .i64, .i .i64, .i .i64, .i .i64, .i .i64, .i .i64, .i .i64, .i .i64, .i .i64, .b, .i .i64, .i .i64, .l [.i .i64, .l [.i .u8]], .l [.l [.i .u8]]]] := .slice Tryz.underlying38 Tryz.sh129 (by kernel_rfl) (by decide)
theorem Tryz.sh133 : HasSh Tryz.prog 133 [.i .i64, .i .i64, .i .i64, .i .i64] := .struct (ss := [.i .i64, .i .i64, .i .i64, .i .i64]) Tryz.underlying133 (HasFs.cons (s1 := [.i .i64, .i .i64]) (s2 := [.i .i64, .i .i64]) rfl Tryz.sh125 (by kernel_rfl) (HasFs.cons (s1 := [.i .i64]) (s2 := [.i .i64]) rfl Tryz.sh3 (by kernel_rfl) (HasFs.cons (s1 := [.i .i64]) (s2 := []) rfl Tryz.sh3 (by kernel_rfl) (HasFs.nil)))) (by kernel_rfl)
theorem Tryz.sh134 : HasSh Tryz.prog 134 [.i .i64, .i .i64, .i .i64, .l [.i .i64]] := .struct (ss := [.i .i64, .i .i64, .i .i64, .l [.i .i64]]) Tryz.underlying134 (HasFs.cons (s1 := [.i .i64]) (s2 := [.i .i64, .i .i64, .l [.i .i64]]) rfl Tryz.sh3 (by kernel_rfl) (HasFs.cons (s1 := [.i .i64]) (s2 := [.i .i64, .l [.i .i64]]) rfl Tryz.sh3 (by kernel_rfl) (HasFs.cons (s1 := [.i .i64]) (s2 := [.l [.i .i64]]) rfl Tryz.sh3 (by kernel_rfl) (HasFs.cons (s1 := [.l [.i .i64]]) (s2 := []) rfl Tryz.sh54 (by kernel_rfl) (HasFs.nil))))) (by kernel_rfl)
theorem Tryz.sh70 : HasSh Tryz.prog 70 [.i .i64, .i .i64, .i .i64, .i .i64, .i .i64] := .struct (ss := [.i .i64, .i .i64, .i .i64, .i .i64, .i .i64]) Tryz.underlying70 (HasFs.cons (s1 := [.i .i64]) (s2 := [.i .i64, .i .i64, .i .i64, .i .i64]) rfl Tryz.sh3 (by kernel_rfl) (HasFs.cons (s1 := [.i .i64]) (s2 := [.i .i64, .i .i64, .i .i64]) rfl Tryz.sh3 (by kernel_rfl) (HasFs.cons (s1 := [.i .i64]) (s2 := [.i .i64, .i .i64]) rfl Tryz.sh3 (by kernel_rfl) (HasFs.cons (s1 := [.i .i64]) (s2 := [.i .i64]) rfl Tryz.sh3 (by kernel_rfl) (HasFs.cons (s1 := [.i .i64]) (s2 := []) rfl Tryz.sh3 (by kernel_rfl) (HasFs.nil)))))) (by kernel_rfl)
theorem Tryz.sh135 : HasSh Tryz.prog 135 [.i .i64, .i .i64, .i .i64] := .struct (ss := [.i .i64, .i .i64, .i .i64]) Tryz.underlying135 (HasFs.cons (s1 := [.i .i64]) (s2 := [.i .i64, .i .i64]) rfl Tryz.sh3 (by kernel_rfl) (HasFs.cons (s1 := [.i .i64]) (s2 := [.i .i64]) rfl Tryz.sh3 (by kernel_rfl) (HasFs.cons (s1 := [.i .i64]) (s2 := []) rfl Tryz.sh3 (by kernel_rfl) (HasFs.nil)))) (by kernel_rfl)
theorem Tryz.sh137 : HasSh Tryz.prog 137 [.i .i64, .l [.i .i64, .l [.i .u8]]] := .struct (ss := [.i .i64, .l [.i .i64, .l [.i .u8]]]) Tryz.underlying137 (HasFs.cons (s1 := [.i .i64]) (s2 := [.l [.i .i64, .l [.i .u8]]]) rfl Tryz.sh3 (by kernel_rfl) (HasFs.cons (s1 := [.l [.i .i64, .l [.i .u8]]]) (s2 := []) rfl Tryz.sh121 (by kernel_rfl) (HasFs.nil))) (by kernel_rfl)
theorem Tryz.sh138 : HasSh Tryz.prog 138 [.i .i64, .i .i64, .i .i64] := .struct (ss := [.i .i64, .i .i64, .i .i64]) Tryz.underlying138 (HasFs.cons (s1 := [.i .i64]) (s2 := [.i .i64, .i .i64]) rfl Tryz.sh3 (by kernel_rfl) (HasFs.cons (s1 := [.i .i64]) (s2 := [.i .i64]) rfl Tryz.sh3 (by kernel_rfl) (HasFs.cons (s1 := [.i .i64]) (s2 := []) rfl Tryz.sh3 (by kernel_rfl) (HasFs.nil)))) (by kernel_rfl)
theorem Tryz.sh140 : HasSh Tryz.prog 140 [.i .i64, .i .i64, .i .i64, .i .i64, .i .i64, .i .i64, .i .i64, .l [.i .i64], .i .i64, .i .i64, .i .i64, .i .i64, .i .i64, .i .i64, .i .i64, .i .i64, .i .i64, .i .i64, .i .i64, .i .i64, .i .i64, .i .i64, .i .i64, .l [.l [.i .u8]], .i .i64, .l [.i .i64, .l [.i .u8]], .i .i64, .i .i64, .i .i64, .i .i64] := .struct (ss := [.i .i64, .i .i64, .i .i64, .i .i64, .i .i64, .i .i64, .i .i64, .l [.i .i64], .i .i64, .i .i64, .i .i64, .i .i64, .i .i64, .i .i64, .i .i64, .i .i64, .i .i64, .i .i64, .i .i64, .i .i64, .i .i64, .i .i64, .i .i64, .l [.l [.i .u8]], .i .i64, .l [.i .i64, .l [.i .u8]], .i .i64, .i .i64, .i .i64, .i .i64]) Tryz.underlying140 (HasFs.cons (s1 := [.i .i64, .i .i64, .i .i64, .i .i64]) (s2 := [.i .i64, .i .i64, .i .i64, .l [.i .i64], .i .i64, .i .i64, .i .i64, .i .i64, .i .i64, .i .i64, .i .i64, .i .i64, .i .i64, .i .i64, .i .i64, .i .i64, .i .i64, .i .i64, .i .i64, .l [.l [.i .u8]], .i .i64, .l [.i .i64, .l [.i .u8]], .i .i64, .i .i64, .i .i64, .i .i64]) rfl Tryz.sh133 (by kernel_rfl) (HasFs.cons (s1 := [.i .i64, .i .i64, .i .i64, .l [.i .i64]]) (s2 := [.i .i64, .i .i64, .i .i64, .i .i64, .i .i64, .i .i64, .i .i64, .i .i64, .i .i64, .i .i64, .i .i64, .i .i64, .i .i64, .i .i64, .i .i64, .l [.l [.i .u8]], .i .i64, .l [.i .i64, .l [.i .u8]], .i .i64, .i .i64, .i .i64, .i .i64]) rfl Tryz.sh134 (by kernel_rfl) (HasFs.cons (s1 := [.i .i64]) (s2 := [.i .i64, .i .i64, .i .i64, .i .i64, .i .i64, .i .i64, .i .i64, .i .i64, .i .i64, .i .i64, .i .i64, .i .i64, .i .i64, .i .i64, .l [.l [.i .u8]], .i .i64, .l [.i .i64, .l [.i .u8]], .i .i64, .i .i64, .i .i64, .i .i64]) rfl Tryz.sh3 (by kernel_rfl) (HasFs.cons (s1 := [.i .i64, .i .i64, .i .i64, .i .i64, .i .i64]) (s2 := [.i .i64, .i .i64, .i .i64, .i .i64, .i .i64, .i .i64, .i .i64, .i .i64, .i .i64, .l [.l [.i .u8]], .i .i64, .l [.i .i64, .l [.i .u8]], .i .i64, .i .i64, .i .i64, .i .i64]) rfl Tryz.sh70 (by kernel_rfl) (HasFs.cons (s1 := [.i .i64]) (s2 := [.i .i64, .i .i64, .i .i64, .i .i64, .i .i64, .i .i64, .i .i64, .i .i64, .l [.l [.i .u8]], .i .i64, .l [.i .i64, .l [.i .u8]], .i .i64, .i .i64, .i .i64, .i .i64]) rfl Tryz.sh3 (by kernel_rfl) (HasFs.cons (s1 := [.i .i64]) (s2 := [.i .i64, .i .i64, .i .i64, .i .i64, .i .i64, .i .i64, .i .i64, .l [.l [.i .u8]], .i .i64, .l [.i .i64, .l [.i .u8]], .i .i64, .i .i64, .i .i64, .i .i64]) rfl Tryz.sh3 (by kernel_rfl) (HasFs.cons (s1 := [.i .i64]) (s2 := [.i .i64, .i .i64, .i .i64, .i .i64, .i .i64, .i .i64, .l [.l [.i .u8]], .i .i64, .l [.i .i64, .l [.i .u8]], .i .i64, .i .i64, .i .i64, .i .i64]) rfl Tryz.sh3 (by kernel_rfl) (HasFs.cons (s1 := [.i .i64]) (s2 := [.i .i64, .i .i64, .i .i64, .i .i64, .i .i64, .l [.l [.i .u8]], .i .i64, .l [.i .i64, .l [.i .u8]], .i .i64, .i .i64, .i .i64, .i .i64]) rfl Tryz.sh3 (by kernel_rfl) (HasFs.cons (s1 := [.i .i64]) (s2 := [.i .i64, .i .i64, .i .i64, .i .i64, .l [.l [.i .u8]], .i .i64, .l [.i .i64, .l [.i .u8]], .i .i64, .i .i64, .i .i64, .i .i64]) rfl Tryz.sh3 (by kernel_rfl) (HasFs.cons (s1 := [.i .i64]) (s2 := [.i .i64, .i .i64, .i .i64, .l [.l [.i .u8]], .i .i64, .l [.i .i64, .l [.i .u8]], .i .i64, .i .i64, .i .i64, .i .i64]) rfl Tryz.sh3 (by kernel_rfl) (HasFs.cons (s1 := [.i .i64, .i .i64, .i .i64]) (s2 := [.l [.l [.i .u8]], .i .i64, .l [.i .i64, .l [.i .u8]], .i .i64, .i .i64, .i .i64, .i .i64]) rfl Tryz.sh135 (by kernel_rfl) (HasFs.cons (s1 := [.l [.l [.i .u8]]]) (s2 := [.i .i64, .l [.i .i64, .l [.i .u8]], .i .i64, .i .i64, .i .i64, .i .i64]) rfl Tryz.sh122 (by kernel_rfl) (HasFs.cons (s1 := [.i .i64, .l [.i .i64, .l [.i .u8]]]) (s2 := [.i .i64, .i .i64, .i .i64, .i .i64]) rfl Tryz.sh137 (by kernel_rfl) (HasFs.cons (s1 := [.i .i64]) (s2 := [.i .i64, .i .i64, .i .i64]) rfl Tryz.sh3 (by kernel_rfl) (HasFs.cons (s1 := [.i .i64, .i .i64, .i .i64]) (s2 := []) rfl Tryz.sh138 (by kernel_rfl) (HasFs.nil)))))))))))))))) (by kernel_rfl)
theorem Tryz.sh39 : HasSh Tryz.prog 39 [.l [.i .i64, .i .i64, .i .i64, .i .i64, .i .i64, .i .i64, .i .i64, .l [.i .i64], .i .i64, .i .i64, .i .i64, .i .i64, .i .i64, .i .i64, .i .i64, .i .i64, .i .i64, .i .i64, .i .i64, .i .i64, .i .i64, .i .i64, .i .i64, .l [.l [.i .u8]], .i .i64, .l [.i .i64, .l [.i .u8]], .i .i64, .i .i64, .i .i64, .i .i64]] := .slice Tryz.underlying39 Tryz.sh140 (by kernel_rfl) (by decide)
theorem Tryz.sh212 : HasSh Tryz.prog 212 [.i .i64, .i .i64] := .struct (ss := [.i .i64, .i .i64]) Tryz.underlying212 (HasFs.cons (s1 := [.i .i64]) (s2 := [.i .i64]) rfl Tryz.sh3 (by kernel_rfl) (HasFs.cons (s1 := [.i .i64]) (s2 := []) rfl Tryz.sh3 (by kernel_rfl) (HasFs.nil))) (by kernel_rfl)
theorem Tryz.sh142 : HasSh Tryz.prog 142 [.l [.i .i64, .i .i64]] := .slice Tryz.underlying142 Tryz.sh212 (by kernel_rfl) (by decide)
theorem Tryz.sh144 : HasSh Tryz.prog 144 [.i .i64, .i .i64, .i .i64, .l [.i .i64, .i .i64]] := .struct (ss := [.i .i64, .i .i64, .i .i64, .l [.i .i64, .i .i64]]) Tryz.underlying144 (HasFs.cons (s1 := [.i .i64]) (s2 := [.i .i64, .i .i64, .l [.i .i64, .i .i64]]) rfl Tryz.sh3 (by kernel_rfl) (HasFs.cons (s1 := [.i .i64]) (s2 := [.i .i64, .l [.i .i64, .i .i64]]) rfl Tryz.sh3 (by kernel_rfl) (HasFs.cons (s1 := [.i .i64]) (s2 := [.l [.i .i64, .i .i64]]) rfl Tryz.sh3 (by kernel_rfl) (HasFs.cons (s1 := [.l [.i .i64, .i .i64]]) (s2 := []) rfl Tryz.sh142 (by kernel_rfl) (HasFs.nil))))) (by kernel_rfl)
theorem Tryz.sh40 : HasSh Tryz.prog 40 [.l [.i .i64, .i .i64, .i .i64, .l [.i .i64, .i .i64]]] := .slice Tryz.underlying40 Tryz.sh144 (by kernel_rfl) (by decide)
theorem Tryz.sh72 : HasSh Tryz.prog 72 [.i .i64, .i .i64, .i .i64, .i .i64, .i .i64, .i .i64, .i .i64, .i .i64, .i .i64, .i .i64, .i .i64] := .struct (ss := [.i .i64, .i .i64, .i .i64, .i .i64, .i .i64, .i .i64, .i .i64, .i .i64, .i .i64, .i .i64, .i .i64]) Tryz.underlying72 (HasFs.cons (s1 := [.i .i64]) (s2 := [.i .i64, .i .i64, .i .i64, .i .i64, .i .i64, .i .i64, .i .i64, .i .i64, .i .i64, .i .i64]) rfl Tryz.sh3 (by kernel_rfl) (HasFs.cons (s1 := [.i .i64]) (s2 := [.i .i64, .i .i64, .i .i64, .i .i64, .i .i64, .i .i64, .i .i64, .i .i64, .i .i64]) rfl Tryz.sh3 (by kernel_rfl) (HasFs.cons (s1 := [.i .i64]) (s2 := [.i .i64, .i .i64, .i .i64, .i .i64, .i .i64, .i .i64, .i .i64, .i .i64]) rfl Tryz.sh3 (by kernel_rfl) (HasFs.cons (s1 := [.i .i64]) (s2 := [.i .i64, .i .i64, .i .i64, .i .i64, .i .i64, .i .i64, .i .i64]) rfl Tryz.sh3 (by kernel_rfl) (HasFs.cons (s1 := [.i .i64]) (s2 := [.i .i64, .i .i64, .i .i64, .i .i64, .i .i64, .i .i64]) rfl Tryz.sh3 (by kernel_rfl) (HasFs.cons (s1 := [.i .i64, .i .i64, .i .i64, .i .i64, .i .i64]) (s2 := [.i .i64]) rfl Tryz.sh70 (by kernel_rfl) (HasFs.cons (s1 := [.i .i64]) (s2 := []) rfl Tryz.sh3 (by kernel_rfl) (HasFs.nil)))))))) (by kernel_rfl)
theorem Tryz.sh75 : HasSh Tryz.prog 75 [.i .i64, .i .i64, .l [.i .u8], .i .i64] := .struct (ss := [.i .i64, .i .i64, .l [.i .u8], .i .i64]) Tryz.underlying75 (HasFs.cons (s1 := [.i .i64]) (s2 := [.i .i64, .l [.i .u8], .i .i64]) rfl Tryz.sh3 (by kernel_rfl) (HasFs.cons (s1 := [.i .i64]) (s2 := [.l [.i .u8], .i .i64]) rfl Tryz.sh3 (by kernel_rfl) (HasFs.cons (s1 := [.l [.i .u8]]) (s2 := [.i .i64]) rfl Tryz.sh73 (by kernel_rfl) (HasFs.cons (s1 := [.i .i64]) (s2 := []) rfl Tryz.sh3 (by kernel_rfl) (HasFs.nil))))) (by kernel_rfl)
theorem Tryz.sh77 : HasSh Tryz.prog 77 [.i .i64, .i .i64, .i .i64, .i .i64, .l [.i .u8], .i .i64] := .struct (ss := [.i .i64, .i .i64, .i .i64, .i .i64, .l [.i .u8], .i .i64]) Tryz.underlying77 (HasFs.cons (s1 := [.i .i64]) (s2 := [.i .i64, .i .i64, .i .i64, .l [.i .u8], .i .i64]) rfl Tryz.sh3 (by kernel_rfl) (HasFs.cons (s1 := [.i .i64]) (s2 := [.i .i64, .i .i64, .l [.i .u8], .i .i64]) rfl Tryz.sh3 (by kernel_rfl) (HasFs.cons (s1 := [.i .i64, .i .i64, .l [.i .u8], .i .i64]) (s2 := []) rfl Tryz.sh75 (by kernel_rfl) (HasFs.nil)))) (by kernel_rfl)
theorem Tryz.sh79 : HasSh Tryz.prog 79 [.i .i64, .b, .b, .i .i64, .i .i64, .i .i64, .i .i64, .i .i64, .i .i64, .i .i64, .i .i64, .i .i64, .i .i64, .i .i64, .i .i64, .i .i64, .i .i64, .i .i64, .i .i64, .l [.i .u8], .i .i64] := .struct (ss := [.i .i64, .b, .b, .i .i64, .i .i64, .i .i64, .i .i64, .i .i64, .i .i64, .i .i64, .i .i64, .i .i64, .i .i64, .i .i64, .i .i64, .i .i64, .i .i64, .i .i64, .i .i64, .l [.i .u8], .i .i64]) Tryz.underlying79 (HasFs.cons (s1 := [.i .i64]) (s2 := [.b, .b, .i .i64, .i .i64, .i .i64, .i .i64, .i .i64, .i .i64, .i .i64, .i .i64, .i .i64, .i .i64, .i .i64, .i .i64, .i .i64, .i .i64, .i .i64, .i .i64, .l [.i .u8], .i .i64]) rfl Tryz.sh3 (by kernel_rfl) (HasFs.cons (s1 := [.b]) (s2 := [.b, .i .i64, .i .i64, .i .i64, .i .i64, .i .i64, .i .i64, .i .i64, .i .i64, .i .i64, .i .i64, .i .i64, .i .i64, .i .i64, .i .i64, .i .i64, .i .i64, .l [.i .u8], .i .i64]) rfl Tryz.sh4 (by kernel_rfl) (HasFs.cons (s1 := [.b]) (s2 := [.i .i64, .i .i64, .i .i64, .i .i64, .i .i64, .i .i64, .i .i64, .i .i64, .i .i64, .i .i64, .i .i64, .i .i64, .i .i64, .i .i64, .i .i64, .i .i64, .l [.i .u8], .i .i64]) rfl Tryz.sh4 (by kernel_rfl) (HasFs.cons (s1 := [.i .i64]) (s2 := [.i .i64, .i .i64, .i .i64, .i .i64, .i .i64, .i .i64, .i .i64, .i .i64, .i .i64, .i .i64, .i .i64, .i .i64, .i .i64, .i .i64, .i .i64, .l [.i .u8], .i .i64]) rfl Tryz.sh3 (by kernel_rfl) (HasFs.cons (s1 := [.i .i64, .i .i64, .i .i64, .i .i64, .i .i64, .i .i64, .i .i64, .i .i64, .i .i64, .i .i64, .i .i64]) (s2 := [.i .i64, .i .i64, .i .i64, .i .i64, .l [.i .u8], .i .i64]) rfl Tryz.sh72 (by kernel_rfl) (HasFs.cons (s1 := [.i .i64, .i .i64, .i .i64, .i .i64, .l [.i .u8], .i .i64]) (s2 := []) rfl Tryz.sh77 (by kernel_rfl) (HasFs.nil))))))) (by kernel_rfl)
theorem Tryz.sh41 : HasSh Tryz.prog 41 [.l [.i .i64, .b, .b, .i .i64, .i .i64, .i .i64, .i .i64, .i .i64, .i .i64, .i .i64, .i .i64, .i .i64, .i .i64, .i .i64, .i .i64, .i .i64, .i .i64, .i .i64, .i .i64, .l [.i .u8], .i .i64]] := .slice Tryz.underlying41 Tryz.sh79 (by kernel_rfl) (by decide)
theorem Tryz.sh42 : HasSh Tryz.prog 42 [.i .i64, .i .i64] := .struct (ss := [.i .i64, .i .i64]) Tryz.underlying42 (HasFs.cons (s1 := [.i .i64]) (s2 := [.i .i64]) rfl Tryz.sh3 (by kernel_rfl) (HasFs.cons (s1 := [.i .i64]) (s2 := []) rfl Tryz.sh3 (by kernel_rfl) (HasFs.nil))) (by kernel_rfl)
theorem Tryz.sh44 : HasSh Tryz.prog 44 [.l [.i .i64, .l [.i .i64]], .l [.i .i64, .i .i64, .i .i64, .i .i64, .i .i64, .i .i64, .i .i64, .i .i64, .i .i64, .b, .i .i64, .i .i64, .l [.i .i64, .l [.i .u8]], .l [.l [.i .u8]]], .l [.i .i64, .i .i64, .i .i64, .i .i64, .i .i64, .i .i64, .i .i64, .l [.i .i64], .i .i64, .i .i64, .i .i64, .i .i64, .i .i64, .i .i64, .i .i64, .i .i64, .i .i64, .i .i64, .i .i64, .i .i64, .i .i64, .i .i64, .i .i64, .l [.l [.i .u8]], .i .i64, .l [.i .i64, .l [.i .u8]], .i .i64, .i .i64, .i .i64, .i .i64], .l [.i .i64, .i .i64, .i .i64, .l [.i .i64, .i .i64]], .l [.i .i64, .b, .b, .i .i64, .i .i64, .i .i64, .i .i64, .i .i64, .i .i64, .i .i64, .i .i64, .i .i64, .i .i64, .i .i64, .i .i64, .i .i64, .i .i64, .i .i64, .i .i64, .l [.i .u8], .i .i64], .i .i64, .i .i64, .i .i64, .i .i64, .i .i64] := .struct (ss := [.l [.i .i64, .l [.i .i64]], .l [.i .i64, .i .i64, .i .i64, .i .i64, .i .i64, .i .i64, .i .i64, .i .i64, .i .i64, .b, .i .i64, .i .i64, .l [.i .i64, .l [.i .u8]], .l [.l [.i .u8]]], .l [.i .i64, .i .i64, .i .i64, .i .i64, .i .i64, .i .i64, .i .i64, .l [.i .i64], .i .i64, .i .i64, .i .i64, .i .i64, .i .i64, .i .i64, .i .i64, .i .i64, .i .i64, .i .i64, .i .i64, .i .i64, .i .i64, .i .i64, .i .i64, .l [.l [.i .u8]], .i .i64, .l [.i .i64, .l [.i .u8]], .i .i64, .i .i64, .i .i64, .i .i64], .l [.i .i64, .i .i64, .i .i64, .l [.i .i64, .i .i64]], .l [.i .i64, .b, .b, .i .i64, .i .i64, .i .i64, .i .i64, .i .i64, .i .i64, .i .i64, .i .i64, .i .i64, .i .i64, .i .i64, .i .i64, .i .i64, .i .i64, .i .i64, .i .i64, .l [.i .u8], .i .i64], .i .i64, .i .i64, .i .i64, .i .i64, .i .i64]) Tryz.underlying44 (HasFs.cons (s1 := [.l [.i .i64, .l [.i .i64]]]) (s2 := [.l [.i .i64, .i .i64, .i .i64, .i .i64, .i .i64, .i .i64, .i .i64, .i .i64, .i .i64, .b, .i .i64, .i .i64, .l [.i .i64, .l [.i .u8]], .l [.l [.i .u8]]], .l [.i .i64, .i .i64, .i .i64, .i .i64, .i .i64, .i .i64, .i .i64, .l [.i .i64], .i .i64, .i .i64, .i .i64, .i .i64, .i .i64, .i .i64, .i .i64, .i .i64, .i .i64, .i .i64, .i .i64, .i .i64, .i .i64, .i .i64, .i .i64, .l [.l [.i .u8]], .i .i64, .l [.i .i64, .l [.i .u8]], .i .i64, .i .i64, .i .i64, .i .i64], .l [.i .i64, .i .i64, .i .i64, .l [.i .i64, .i .i64]], .l [.i .i64, .b, .b, .i .i64, .i .i64, .i .i64, .i .i64, .i .i64, .i .i64, .i .i64, .i .i64, .i .i64, .i .i64, .i .i64, .i .i64, .i .i64, .i .i64, .i .i64, .i .i64, .l [.i .u8], .i .i64], .i .i64, .i .i64, .i .i64, .i .i64, .i .i64]) rfl Tryz.sh37 (by kernel_rfl) (HasFs.cons (s1 := [.l [.i .i64, .i .i64, .i .i64, .i .i64, .i .i64, .i .i64, .i .i64, .i .i64, .i .i64, .b, .i .i64, .i .i64, .l [.i .i64, .l [.i .u8]], .l [.l [.i .u8]]]]) (s2 := [.l [.i .i64, .i .i64, .i .i64, .i .i64, .i .i64, .i .i64, .i .i64, .l [.i .i64], .i .i64, .i .i64, .i .i64, .i .i64, .i .i64, .i .i64, .i .i64, .i .i64, .i .i64, .i .i64, .i .i64, .i .i64, .i .i64, .i .i64, .i .i64, .l [.l [.i .u8]], .i .i64, .l [.i .i64, .l [.i .u8]], .i .i64, .i .i64, .i .i64, .i .i64], .l [.i .i64, .i .i64, .i .i64, .l [.i .i64, .i .i64]], .l [.i .i64, .b, .b, .i .i64, .i .i64, .i .i64, .i .i64, .i .i64, .i .i64, .i .i64, .i .i64, .i .i64, .i .i64, .i .i64, .i .i64, .i .i64, .i .i64, .i .i64, .i .i64, .l [.i .u8], .i .i64], .i .i64, .i .i64, .i .i64, .i .i64, .i .i64]) rfl Tryz.sh38 (by kernel_rfl) (HasFs.cons (s1 := [.l [.i .i64, .i .i64, .i .i64, .i .i64, .i .i64, .i .i64, .i .i64, .l [.i .i64], .i .i64, .i .i64, .i .i64, .i .i64, .i .i64, .i .i64, .i .i64, .i .i64, .i .i64, .i .i64, .i .i64, .i .i64, .i .i64, .i .i64, .i .i64, .l [.l [.i .u8]], .i .i64, .l [.i .i64, .l [.i .u8]], .i .i64, .i .i64, .i .i64, .i .i64]]) (s2 := [.l [.i .i64, .i .i64, .i .i64, .l [.i .i64, .i .i64]], .l [.i .i64, .b, .b, .i .i64, .i .i64, .i .i64, .i .i64, .i .i64, .i .i64, .i .i64, .i .i64, .i .i64, .i .i64, .i .i64, .i .i64, .i .i64, .i .i64, .i .i64, .i .i64, .l [.i .u8], .i .i64], .i .i64, .i .i64, .i .i64, .i .i64, .i .i64]) rfl Tryz.sh39 (by kernel_rfl) (HasFs.cons (s1 := [.l [.i .i64, .i .i64, .i .i64, .l [.i .i64, .i .i64]]]) (s2 := [.l [.i .i64, .b, .b, .i .i64, .i .i64, .i .i64, .i .i64, .i .i64, .i .i64, .i .i64, .i .i64, .i .i64, .i .i64, .i .i64, .i .i64, .i .i64, .i .i64, .i .i64, .i .i64, .l [.i .u8], .i .i64], .i .i64, .i .i64, .i .i64, .i .i64, .i .i64]) rfl Tryz.sh40 (by kernel_rfl) (HasFs.cons (s1 := [.l [.i .i64, .b, .b, .i .i64, .i .i64, .i .i64, .i .i64, .i .i64, .i .i64, .i .i64, .i .i64, .i .i64, .i .i64, .i .i64, .i .i64, .i .i64, .i .i64, .i .i64, .i .i64, .l [.i .u8], .i .i64]]) (s2 := [.i .i64, .i .i64, .i .i64, .i .i64, .i .i64]) rfl Tryz.sh41 (by kernel_rfl) (HasFs.cons (s1 := [.i .i64]) (s2 := [.i .i64, .i .i64, .i .i64, .i .i64]) rfl Tryz.sh3 (by kernel_rfl) (HasFs.cons (s1 := [.i .i64, .i .i64]) (s2 := [.i .i64, .i .i64]) rfl Tryz.sh42 (by kernel_rfl) (HasFs.cons (s1 := [.i .i64]) (s2 := [.i .i64]) rfl Tryz.sh3 (by kernel_rfl) (HasFs.cons (s1 := [.i .i64]) (s2 := []) rfl Tryz.sh3 (by kernel_rfl) (HasFs.nil)))))))))) (by kernel_rfl)
theorem Tryz.sh80 : HasSh Tryz.prog 80 [.l [.str]] := .slice Tryz.underlying80 Tryz.sh9 (by kernel_rfl) (by decide)
theorem Tryz.eqa30 : EqA Tryz.prog 2 30 [.i .i64, .i .i64] := eqA_struct (k := 1) Tryz.underlying30 (by kernel_rfl) (eqF_s rfl (by decide) inferInstance (eqS_int Tryz.underlying3) (eqF_s rfl (by decide) inferInstance (eqS_int Tryz.underlying3) (eqF_nil)))
instance : TyEq Tryz.prog 30 [.i .i64, .i .i64] := ⟨⟨2, by decide, Tryz.eqa30⟩, by kernel_rfl⟩
theorem Tryz.eqa42 : EqA Tryz.prog 2 42 [.i .i64, .i .i64] := eqA_struct (k := 1) Tryz.underlying42 (by kernel_rfl) (eqF_s rfl (by decide) inferInstance (eqS_int Tryz.underlying3) (eqF_s rfl (by decide) inferInstance (eqS_int Tryz.underlying3) (eqF_nil)))
instance : TyEq Tryz.prog 42 [.i .i64, .i .i64] := ⟨⟨2, by decide, Tryz.eqa42⟩, by kernel_rfl⟩
theorem Tryz.eqa70 : EqA Tryz.prog 2 70 [.i .i64, .i .i64, .i .i64, .i .i64, .i .i64] := eqA_struct (k := 1) Tryz.underlying70 (by kernel_rfl) (eqF_s rfl (by decide) inferInstance (eqS_int Tryz.underlying3) (eqF_s rfl (by decide) inferInstance (eqS_int Tryz.underlying3) (eqF_s rfl (by decide) inferInstance (eqS_int Tryz.underlying3) (eqF_s rfl (by decide) inferInstance (eqS_int Tryz.underlying3) (eqF_s rfl (by decide) inferInstance (eqS_int Tryz.underlying3) (eqF_nil))))))
instance : TyEq Tryz.prog 70 [.i .i64, .i .i64, .i .i64, .i .i64, .i .i64] := ⟨⟨2, by decide, Tryz.eqa70⟩, by kernel_rfl⟩
theorem Tryz.eqa72 : EqA Tryz.prog 3 72 [.i .i64, .i .i64, .i .i64, .i .i64, .i .i64, .i .i64, .i .i64, .i .i64, .i .i64, .i .i64, .i .i64] := eqA_struct (k := 2) Tryz.underlying72 (by kernel_rfl) (eqF_s rfl (by decide) inferInstance (eqS_int Tryz.underlying3) (eqF_s rfl (by decide) inferInstance (eqS_int Tryz.underlying3) (eqF_s rfl (by decide) inferInstance (eqS_int Tryz.underlying3) (eqF_s rfl (by decide) inferInstance (eqS_int Tryz.underlying3) (eqF_s rfl (by decide) inferInstance (eqS_int Tryz.underlying3) (eqF_a (n := 5) (s1 := [.i .i64, .i .i64, .i .i64, .i .i64, .i .i64]) rfl (by decide) inferInstance rfl (by decide) Tryz.eqa70 (eqF_s rfl (by decide) inferInstance (eqS_int Tryz.underlying3) (eqF_nil))))))))
instance : TyEq Tryz.prog 72 [.i .i64, .i .i64, .i .i64, .i .i64, .i .i64, .i .i64, .i .i64, .i .i64, .i .i64, .i .i64, .i .i64] := ⟨⟨3, by decide, Tryz.eqa72⟩, by kernel_rfl⟩
theorem Tryz.eqa85 : EqA Tryz.prog 2 85 [.i .i64, .i .i64] := eqA_struct (k := 1) Tryz.underlying85 (by kernel_rfl) (eqF_s rfl (by decide) inferInstance (eqS_int Tryz.underlying3) (eqF_s rfl (by decide) inferInstance (eqS_int Tryz.underlying3) (eqF_nil)))
instance : TyEq Tryz.prog 85 [.i .i64, .i .i64] := ⟨⟨2, by decide, Tryz.eqa85⟩, by kernel_rfl⟩
theorem Tryz.eqa87 : EqA Tryz.prog 3 87 [.i .i64, .i .i64, .i .i64, .i .i64] := eqA_struct (k := 2) Tryz.underlying87 (by kernel_rfl) (eqF_a (n := 2) (s1 := [.i .i64, .i .i64]) rfl (by decide) inferInstance rfl (by decide) Tryz.eqa85 (eqF_s rfl (by decide) inferInstance (eqS_int Tryz.underlying3) (eqF_s rfl (by decide) inferInstance (eqS_int Tryz.underlying3) (eqF_nil))))
instance : TyEq Tryz.prog 87 [.i .i64, .i .i64, .i .i64, .i .i64] := ⟨⟨3, by decide, Tryz.eqa87⟩, by kernel_rfl⟩
theorem Tryz.eqa96 : EqA Tryz.prog 3 96 [.i .i64, .i .i64, .i .i64, .i .i64] := eqA_struct (k := 2) Tryz.underlying96 (by kernel_rfl) (eqF_a (n := 2) (s1 := [.i .i64, .i .i64]) rfl (by decide) inferInstance rfl (by decide) Tryz.eqa85 (eqF_s rfl (by decide) inferInstance (eqS_int Tryz.underlying3) (eqF_s rfl (by decide) inferInstance (eqS_int Tryz.underlying3) (eqF_nil))))
instance : TyEq Tryz.prog 96 [.i .i64, .i .i64, .i .i64, .i .i64] := ⟨⟨3, by decide, Tryz.eqa96⟩, by kernel_rfl⟩
theorem Tryz.eqa99 : EqA Tryz.prog 2 99 [.i .i64, .i .i64, .i .i64, .i .i64, .i .i64] := eqA_struct (k := 1) Tryz.underlying99 (by kernel_rfl) (eqF_s rfl (by decide) inferInstance (eqS_int Tryz.underlying3) (eqF_s rfl (by decide) inferInstance (eqS_int Tryz.underlying3) (eqF_s rfl (by decide) inferInstance (eqS_int Tryz.underlying3) (eqF_s rfl (by decide) inferInstance (eqS_int Tryz.underlying3) (eqF_s rfl (by decide) inferInstance (eqS_int Tryz.underlying3) (eqF_nil))))))
instance : TyEq Tryz.prog 99 [.i .i64, .i .i64, .i .i64, .i .i64, .i .i64] := ⟨⟨2, by decide, Tryz.eqa99⟩, by kernel_rfl⟩
theorem Tryz.eqa101 : EqA Tryz.prog 2 101 [.i .i64, .i .i64, .i .i64] := eqA_struct (k := 1) Tryz.underlying101 (by kernel_rfl) (eqF_s rfl (by decide) inferInstance (eqS_int Tryz.underlying3) (eqF_s rfl (by decide) inferInstance (eqS_int Tryz.underlying3) (eqF_s rfl (by decide) inferInstance (eqS_int Tryz.underlying3) (eqF_nil))))
instance : TyEq Tryz.prog 101 [.i .i64, .i .i64, .i .i64] := ⟨⟨2, by decide, Tryz.eqa101⟩, by kernel_rfl⟩
theorem Tryz.eqa105 : EqA Tryz.prog 2 105 [.i .i64, .i .i64, .i .i64] := eqA_struct (k := 1) Tryz.underlying105 (by kernel_rfl) (eqF_s rfl (by decide) inferInstance (eqS_int Tryz.underlying3) (eqF_s rfl (by decide) inferInstance (eqS_int Tryz.underlying3) (eqF_s rfl (by decide) inferInstance (eqS_int Tryz.underlying3) (eqF_nil))))
instance : TyEq Tryz.prog 105 [.i .i64, .i .i64, .i .i64] := ⟨⟨2, by decide, Tryz.eqa105⟩, by kernel_rfl⟩
theorem Tryz.eqa114 : EqA Tryz.prog 3 114 [.i .i64, .i .i64, .i .i64, .i .i64, .i .i64, .i .i64, .i .i64, .i .i64, .i .i64, .i .i64, .i .i64] := eqA_struct (k := 2) Tryz.underlying114 (by kernel_rfl) (eqF_s rfl (by decide) inferInstance (eqS_int Tryz.underlying3) (eqF_s rfl (by decide) inferInstance (eqS_int Tryz.underlying3) (eqF_s rfl (by decide) inferInstance (eqS_int Tryz.underlying3) (eqF_s rfl (by decide) inferInstance (eqS_int Tryz.underlying3) (eqF_s rfl (by decide) inferInstance (eqS_int Tryz.underlying3) (eqF_a (n := 5) (s1 := [.i .i64, .i .i64, .i .i64, .i .i64, .i .i64]) rfl (by decide) inferInstance rfl (by decide) Tryz.eqa99 (eqF_s rfl (by decide) inferInstance (eqS_int Tryz.underlying3) (eqF_nil))))))))
instance : TyEq Tryz.prog 114 [.i .i64, .i .i64, .i .i64, .i .i64, .i .i64, .i .i64, .i .i64, .i .i64, .i .i64, .i .i64, .i .i64] := ⟨⟨3, by decide, Tryz.eqa114⟩, by kernel_rfl⟩
theorem Tryz.eqa125 : EqA Tryz.prog 2 125 [.i .i64, .i .i64] := eqA_struct (k := 1) Tryz.underlying125 (by kernel_rfl) (eqF_s rfl (by decide) inferInstance (eqS_int Tryz.underlying3) (eqF_s rfl (by decide) inferInstance (eqS_int Tryz.underlying3) (eqF_nil)))
instance : TyEq Tryz.prog 125 [.i .i64, .i .i64] := ⟨⟨2, by decide, Tryz.eqa125⟩, by kernel_rfl⟩
theorem Tryz.eqa127 : EqA Tryz.prog 3 127 [.i .i64, .i .i64, .i .i64, .i .i64] := eqA_struct (k := 2) Tryz.underlying127 (by kernel_rfl) (eqF_a (n := 2) (s1 := [.i .i64, .i .i64]) rfl (by decide) inferInstance rfl (by decide) Tryz.eqa125 (eqF_s rfl (by decide) inferInstance (eqS_int Tryz.underlying3) (eqF_s rfl (by decide) inferInstance (eqS_int Tryz.underlying3) (eqF_nil))))
instance : TyEq Tryz.prog 127 [.i .i64, .i .i64, .i .i64, .i .i64] := ⟨⟨3, by decide, Tryz.eqa127⟩, by kernel_rfl⟩
theorem Tryz.eqa133 : EqA Tryz.prog 3 133 [.i .i64, .i .i64, .i .i64, .i .i64] := eqA_struct (k := 2) Tryz.underlying133 (by kernel_rfl) (eqF_a (n := 2) (s1 := [.i .i64, .i .i64]) rfl (by decide) inferInstance rfl (by decide) Tryz.eqa125 (eqF_s rfl (by decide) inferInstance (eqS_int Tryz.underlying3) (eqF_s rfl (by decide) inferInstance (eqS_int Tryz.underlying3) (eqF_nil))))
instance : TyEq Tryz.prog 133 [.i .i64, .i .i64, .i .i64, .i .i64] := ⟨⟨3, by decide, Tryz.eqa133⟩, by kernel_rfl⟩
theorem Tryz.eqa135 : EqA Tryz.prog 2 135 [.i .i64, .i .i64, .i .i64] := eqA_struct (k := 1) Tryz.underlying135 (by kernel_rfl) (eqF_s rfl (by decide) inferInstance (eqS_int Tryz.underlying3) (eqF_s rfl (by decide) inferInstance (eqS_int Tryz.underlying3) (eqF_s rfl (by decide) inferInstance (eqS_int Tryz.underlying3) (eqF_nil))))
instance : TyEq Tryz.prog 135 [.i .i64, .i .i64, .i .i64] := ⟨⟨2, by decide, Tryz.eqa135⟩, by kernel_rfl⟩
theorem Tryz.eqa138 : EqA Tryz.prog 2 138 [.i .i64, .i .i64, .i .i64] := eqA_struct (k := 1) Tryz.underlying138 (by kernel_rfl) (eqF_s rfl (by decide) inferInstance (eqS_int Tryz.underlying3) (eqF_s rfl (by decide) inferInstance (eqS_int Tryz.underlying3) (eqF_s rfl (by decide) inferInstance (eqS_int Tryz.underlying3) (eqF_nil))))
instance : TyEq Tryz.prog 138 [.i .i64, .i .i64, .i .i64] := ⟨⟨2, by decide, Tryz.eqa138⟩, by kernel_rfl⟩
theorem Tryz.eqa212 : EqA Tryz.prog 2 212 [.i .i64, .i .i64] := eqA_struct (k := 1) Tryz.underlying212 (by kernel_rfl) (eqF_s rfl (by decide) inferInstance (eqS_int Tryz.underlying3) (eqF_s rfl (by decide) inferInstance (eqS_int Tryz.underlying3) (eqF_nil)))
instance : TyEq Tryz.prog 212 [.i .i64, .i .i64] := ⟨⟨2, by decide, Tryz.eqa212⟩, by kernel_rfl⟩
theorem Tryz.eqa214 : EqA Tryz.prog 2 214 [.i .i64, .i .i64] := eqA_struct (k := 1) Tryz.underlying214 (by kernel_rfl) (eqF_s rfl (by decide) inferInstance (eqS_int Tryz.underlying3) (eqF_s rfl (by decide) inferInstance (eqS_int Tryz.underlying3) (eqF_nil)))
instance : TyEq Tryz.prog 214 [.i .i64, .i .i64] := ⟨⟨2, by decide, Tryz.eqa214⟩, by kernel_rfl⟩
theorem Tryz.follows : Tryz.prog.follows .mixedOrders = true := by kernel_rfl
structure TCell where
  Area : Int
  Neighbors : List Int
  deriving DecidableEq, Inhabited
def eTCell (a : TCell) : List D := [.i .i64 a.Area, .l (a.Neighbors.map eI)]
structure TCellMap where
  Cells : List TCell
  deriving DecidableEq, Inhabited
def eTCellMap (a : TCellMap) : List D := [.l (a.Cells.map eTCell)]
structure TServerPool where
  Size : Int
  UpMask : Int
  deriving DecidableEq, Inhabited
def eTServerPool (a : TServerPool) : List D := [.i .i64 a.Size, .i .i64 a.UpMask]
structure TSubscriberID where
  Network : Int
  Number : Int
  deriving DecidableEq, Inhabited
def eTSubscriberID (a : TSubscriberID) : List D := [.i .i64 a.Network, .i .i64 a.Number]
structure TUSIM where
  ID : TSubscriberID
  Key : Int
  LastSeq : Int
  deriving DecidableEq, Inhabited
def eTUSIM (a : TUSIM) : List D := [.i .i64 a.ID.Network, .i .i64 a.ID.Number, .i .i64 a.Key, .i .i64 a.LastSeq]
structure TNumberedPacket where
  Seq : Int
  Data : List Int
  deriving DecidableEq, Inhabited
def eTNumberedPacket (a : TNumberedPacket) : List D := [.i .i64 a.Seq, .l (a.Data.map eU8)]
structure TPayload where
  Data : List Int
  deriving DecidableEq, Inhabited
def eTPayload (a : TPayload) : List D := [.l (a.Data.map eU8)]
structure TReceiveWindow where
  Next : Int
  Pending : List TNumberedPacket
  Delivered : List TPayload
  deriving DecidableEq, Inhabited
def eTReceiveWindow (a : TReceiveWindow) : List D := [.i .i64 a.Next, .l (a.Pending.map eTNumberedPacket), .l (a.Delivered.map eTPayload)]
structure TDevice where
  Card : TUSIM
  State : Int
  Cell : Int
  Generation : Int
  RootKey : Int
  Epoch : Int
  PathConfirmed : Bool
  Wait : Int
  Receiver : TReceiveWindow
  deriving DecidableEq, Inhabited
def eTDevice (a : TDevice) : List D := [.i .i64 a.Card.ID.Network, .i .i64 a.Card.ID.Number, .i .i64 a.Card.Key, .i .i64 a.Card.LastSeq, .i .i64 a.State, .i .i64 a.Cell, .i .i64 a.Generation, .i .i64 a.RootKey, .i .i64 a.Epoch, .b a.PathConfirmed, .i .i64 a.Wait, .i .i64 a.Receiver.Next, .l (a.Receiver.Pending.map eTNumberedPacket), .l (a.Receiver.Delivered.map eTPayload)]
structure TSubscriberRecord where
  ID : TSubscriberID
  Key : Int
  Seq : Int
  deriving DecidableEq, Inhabited
def eTSubscriberRecord (a : TSubscriberRecord) : List D := [.i .i64 a.ID.Network, .i .i64 a.ID.Number, .i .i64 a.Key, .i .i64 a.Seq]
structure TSubscription where
  RateLimit : Int
  BestClass : Int
  GrantSize : Int
  RoamingNetworks : List Int
  deriving DecidableEq, Inhabited
def eTSubscription (a : TSubscription) : List D := [.i .i64 a.RateLimit, .i .i64 a.BestClass, .i .i64 a.GrantSize, .l (a.RoamingNetworks.map eI)]
structure TAuthVector where
  Rand : Int
  Autn : Int
  MAC : Int
  Res : Int
  Key : Int
  deriving DecidableEq, Inhabited
def eTAuthVector (a : TAuthVector) : List D := [.i .i64 a.Rand, .i .i64 a.Autn, .i .i64 a.MAC, .i .i64 a.Res, .i .i64 a.Key]
structure TPagingState where
  Area : Int
  Attempt : Int
  Wait : Int
  deriving DecidableEq, Inhabited
def eTPagingState (a : TPagingState) : List D := [.i .i64 a.Area, .i .i64 a.Attempt, .i .i64 a.Wait]
structure TSendWindow where
  Next : Int
  Unacked : List TNumberedPacket
  deriving DecidableEq, Inhabited
def eTSendWindow (a : TSendWindow) : List D := [.i .i64 a.Next, .l (a.Unacked.map eTNumberedPacket)]
structure TQuota where
  SessionID : Int
  Granted : Int
  Used : Int
  deriving DecidableEq, Inhabited
def eTQuota (a : TQuota) : List D := [.i .i64 a.SessionID, .i .i64 a.Granted, .i .i64 a.Used]
structure TSession where
  Record : TSubscriberRecord
  Plan : TSubscription
  State : Int
  Pending : TAuthVector
  PendingSeq : Int
  Generation : Int
  RootKey : Int
  Epoch : Int
  Cell : Int
  Quiet : Int
  Page : TPagingState
  Submitted : List TPayload
  Window : TSendWindow
  Retry : Int
  Usage : TQuota
  deriving DecidableEq, Inhabited
def eTSession (a : TSession) : List D := [.i .i64 a.Record.ID.Network, .i .i64 a.Record.ID.Number, .i .i64 a.Record.Key, .i .i64 a.Record.Seq, .i .i64 a.Plan.RateLimit, .i .i64 a.Plan.BestClass, .i .i64 a.Plan.GrantSize, .l (a.Plan.RoamingNetworks.map eI), .i .i64 a.State, .i .i64 a.Pending.Rand, .i .i64 a.Pending.Autn, .i .i64 a.Pending.MAC, .i .i64 a.Pending.Res, .i .i64 a.Pending.Key, .i .i64 a.PendingSeq, .i .i64 a.Generation, .i .i64 a.RootKey, .i .i64 a.Epoch, .i .i64 a.Cell, .i .i64 a.Quiet, .i .i64 a.Page.Area, .i .i64 a.Page.Attempt, .i .i64 a.Page.Wait, .l (a.Submitted.map eTPayload), .i .i64 a.Window.Next, .l (a.Window.Unacked.map eTNumberedPacket), .i .i64 a.Retry, .i .i64 a.Usage.SessionID, .i .i64 a.Usage.Granted, .i .i64 a.Usage.Used]
structure TReservation where
  SessionID : Int
  Amount : Int
  deriving DecidableEq, Inhabited
def eTReservation (a : TReservation) : List D := [.i .i64 a.SessionID, .i .i64 a.Amount]
structure TAccount where
  Total : Int
  Available : Int
  Spent : Int
  Reservations : List TReservation
  deriving DecidableEq, Inhabited
def eTAccount (a : TAccount) : List D := [.i .i64 a.Total, .i .i64 a.Available, .i .i64 a.Spent, .l (a.Reservations.map eTReservation)]
structure TSignal where
  Kind : Int
  Cell : Int
  Generation : Int
  Epoch : Int
  Number : Int
  Vector : TAuthVector
  MAC : Int
  deriving DecidableEq, Inhabited
def eTSignal (a : TSignal) : List D := [.i .i64 a.Kind, .i .i64 a.Cell, .i .i64 a.Generation, .i .i64 a.Epoch, .i .i64 a.Number, .i .i64 a.Vector.Rand, .i .i64 a.Vector.Autn, .i .i64 a.Vector.MAC, .i .i64 a.Vector.Res, .i .i64 a.Vector.Key, .i .i64 a.MAC]
structure TSecuredMessage where
  Direction : Int
  Count : Int
  Data : List Int
  MAC : Int
  deriving DecidableEq, Inhabited
def eTSecuredMessage (a : TSecuredMessage) : List D := [.i .i64 a.Direction, .i .i64 a.Count, .l (a.Data.map eU8), .i .i64 a.MAC]
structure TRadioPacket where
  Generation : Int
  Epoch : Int
  Message : TSecuredMessage
  deriving DecidableEq, Inhabited
def eTRadioPacket (a : TRadioPacket) : List D := [.i .i64 a.Generation, .i .i64 a.Epoch, .i .i64 a.Message.Direction, .i .i64 a.Message.Count, .l (a.Message.Data.map eU8), .i .i64 a.Message.MAC]
structure TFlight where
  Device : Int
  Uplink : Bool
  IsRadio : Bool
  Cell : Int
  Signal : TSignal
  Radio : TRadioPacket
  deriving DecidableEq, Inhabited
def eTFlight (a : TFlight) : List D := [.i .i64 a.Device, .b a.Uplink, .b a.IsRadio, .i .i64 a.Cell, .i .i64 a.Signal.Kind, .i .i64 a.Signal.Cell, .i .i64 a.Signal.Generation, .i .i64 a.Signal.Epoch, .i .i64 a.Signal.Number, .i .i64 a.Signal.Vector.Rand, .i .i64 a.Signal.Vector.Autn, .i .i64 a.Signal.Vector.MAC, .i .i64 a.Signal.Vector.Res, .i .i64 a.Signal.Vector.Key, .i .i64 a.Signal.MAC, .i .i64 a.Radio.Generation, .i .i64 a.Radio.Epoch, .i .i64 a.Radio.Message.Direction, .i .i64 a.Radio.Message.Count, .l (a.Radio.Message.Data.map eU8), .i .i64 a.Radio.Message.MAC]
structure TNetwork where
  Map : TCellMap
  Devices : List TDevice
  Sessions : List TSession
  Accounts : List TAccount
  Flights : List TFlight
  DownCells : Int
  Core : TServerPool
  Now : Int
  Lost : Int
  deriving DecidableEq, Inhabited
def eTNetwork (a : TNetwork) : List D := [.l (a.Map.Cells.map eTCell), .l (a.Devices.map eTDevice), .l (a.Sessions.map eTSession), .l (a.Accounts.map eTAccount), .l (a.Flights.map eTFlight), .i .i64 a.DownCells, .i .i64 a.Core.Size, .i .i64 a.Core.UpMask, .i .i64 a.Now, .i .i64 a.Lost]
theorem Try.follows : Tryz.prog.follows .mixedOrders = true := Tryz.follows
end Go.AM
