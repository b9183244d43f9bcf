/-
  Facts on the types of this translation, laid by program.
-/
import Derived.Test.YtghkejhhneijlaaGreatAmZc
import Derived.Test.YtghkejhhneijlaaGreatAmO
import Derived.Test.YtghkejhhneijlaaGreatProg
namespace Go.AM
open Go.Proofs
theorem info_n {P : Program} {t : TypeId} {n : Nat} (h : (P.info? t).map (·.size) = some n) : ∃ i, P.info? t = some i ∧ i.size = n := by
  cases hi : P.info? t with
  | none => simp [hi] at h
  | some i => simp [hi] at h; exact ⟨i, rfl, h⟩
theorem info_z {P : Program} {t : TypeId} {z : Value} (h : (P.info? t).map (·.zero) = some (some z)) : ∃ i, P.info? t = some i ∧ i.zero = some z := by
  cases hi : P.info? t with
  | none => simp [hi] at h
  | some i => simp [hi] at h; exact ⟨i, rfl, h⟩
theorem info_s {P : Program} {t : TypeId} {z : Value} {n b : Nat} (h : (P.info? t).map (fun i => (i.size, i.bytes, i.zero)) = some (n, b, some z)) (hz : z.cells.size = n) : ∃ i z, P.info? t = some i ∧ i.size = n ∧ i.bytes = b ∧ i.zero = some z ∧ z.cells.size = n := by
  cases hi : P.info? t with
  | none => simp [hi] at h
  | some i => simp [hi] at h; exact ⟨i, z, rfl, h.1, h.2.1, h.2.2, hz⟩
theorem info_f {P : Program} {t : TypeId} {n : Nat} (h : (P.info? t).map (·.size) = some n) (hn : n ≠ 0) : ∃ i, P.info? t = some i ∧ i.size ≠ 0 := by
  cases hi : P.info? t with
  | none => simp [hi] at h
  | some i => simp [hi] at h; exact ⟨i, rfl, by omega⟩
-- 3: int
instance : TyN Tryz.prog 3 1 := ⟨info_n (by kernel_rfl)⟩
instance : TySc Tryz.prog 3 := ⟨fun w => by kernel_rfl, info_n (by kernel_rfl)⟩
instance : TyU Tryz.prog 3 (.int .i64) := ⟨Tryz.underlying3⟩
theorem Tryz.z3 : (Tryz.prog.info? 3).map (·.zero) = some (some (.int .i64 0)) := by kernel_rfl
instance : TyZ Tryz.prog 3 [.d false (.i .i64 0)] := ⟨by obtain ⟨i, h1, h2⟩ := info_z Tryz.z3; exact ⟨i, _, h1, h2, rfl⟩⟩
instance : TyE Tryz.prog 3 [.i .i64 0] := ⟨by obtain ⟨i, h1, h2⟩ := info_z Tryz.z3; exact ⟨i, _, h1, h2, rfl⟩⟩
-- 4: bool
instance : TyN Tryz.prog 4 1 := ⟨info_n (by kernel_rfl)⟩
instance : TySc Tryz.prog 4 := ⟨fun w => by kernel_rfl, info_n (by kernel_rfl)⟩
instance : TyU Tryz.prog 4 (.bool) := ⟨Tryz.underlying4⟩
theorem Tryz.z4 : (Tryz.prog.info? 4).map (·.zero) = some (some (.bool false)) := by kernel_rfl
instance : TyZ Tryz.prog 4 [.d false (.b false)] := ⟨by obtain ⟨i, h1, h2⟩ := info_z Tryz.z4; exact ⟨i, _, h1, h2, rfl⟩⟩
instance : TyE Tryz.prog 4 [.b false] := ⟨by obtain ⟨i, h1, h2⟩ := info_z Tryz.z4; exact ⟨i, _, h1, h2, rfl⟩⟩
-- 5: uint8
instance : TyN Tryz.prog 5 1 := ⟨info_n (by kernel_rfl)⟩
instance : TySc Tryz.prog 5 := ⟨fun w => by kernel_rfl, info_n (by kernel_rfl)⟩
instance : TyU Tryz.prog 5 (.int .u8) := ⟨Tryz.underlying5⟩
theorem Tryz.z5 : (Tryz.prog.info? 5).map (·.zero) = some (some (.int .u8 0)) := by kernel_rfl
instance : TyZ Tryz.prog 5 [.d false (.i .u8 0)] := ⟨by obtain ⟨i, h1, h2⟩ := info_z Tryz.z5; exact ⟨i, _, h1, h2, rfl⟩⟩
instance : TyE Tryz.prog 5 [.i .u8 0] := ⟨by obtain ⟨i, h1, h2⟩ := info_z Tryz.z5; exact ⟨i, _, h1, h2, rfl⟩⟩
-- 9: string
instance : TyN Tryz.prog 9 1 := ⟨info_n (by kernel_rfl)⟩
instance : TySc Tryz.prog 9 := ⟨fun w => by kernel_rfl, info_n (by kernel_rfl)⟩
instance : TyU Tryz.prog 9 (.string) := ⟨Tryz.underlying9⟩
theorem Tryz.z9 : (Tryz.prog.info? 9).map (·.zero) = some (some (.string ⟨#[]⟩)) := by kernel_rfl
instance : TyZ Tryz.prog 9 [.d false (.str ⟨#[]⟩)] := ⟨by obtain ⟨i, h1, h2⟩ := info_z Tryz.z9; exact ⟨i, _, h1, h2, rfl⟩⟩
instance : TyE Tryz.prog 9 [.str ⟨#[]⟩] := ⟨by obtain ⟨i, h1, h2⟩ := info_z Tryz.z9; exact ⟨i, _, h1, h2, rfl⟩⟩
-- 22: []laws.Cell
instance : TyN Tryz.prog 22 1 := ⟨info_n (by kernel_rfl)⟩
instance : TySc Tryz.prog 22 := ⟨fun w => by kernel_rfl, info_n (by kernel_rfl)⟩
theorem Tryz.z22 : (Tryz.prog.info? 22).map (·.zero) = some (some (.slice none 0 0)) := by kernel_rfl
instance : TyZ Tryz.prog 22 [.nil] := ⟨by obtain ⟨i, h1, h2⟩ := info_z Tryz.z22; exact ⟨i, _, h1, h2, rfl⟩⟩
instance : TyE Tryz.prog 22 [.l []] := ⟨by obtain ⟨i, h1, h2⟩ := info_z Tryz.z22; exact ⟨i, _, h1, h2, rfl⟩⟩
instance : TySl Tryz.prog 22 160 2 32 := ⟨Tryz.underlying22, info_s (z := .agg #[.int .i64 0, .slice none 0 0]) (by kernel_rfl) rfl, by decide⟩
-- 24: laws.CellMap
instance : TyN Tryz.prog 24 1 := ⟨info_n (by kernel_rfl)⟩
instance : TyAg Tryz.prog 24 1 := ⟨fun w => by kernel_rfl, info_n (by kernel_rfl)⟩
theorem Tryz.z24 : (Tryz.prog.info? 24).map (·.zero) = some (some (.agg #[.slice none 0 0])) := by kernel_rfl
instance : TyZ Tryz.prog 24 [.nil] := ⟨by obtain ⟨i, h1, h2⟩ := info_z Tryz.z24; exact ⟨i, _, h1, h2, rfl⟩⟩
instance : TyE Tryz.prog 24 [.l []] := ⟨by obtain ⟨i, h1, h2⟩ := info_z Tryz.z24; exact ⟨i, _, h1, h2, rfl⟩⟩
instance : TyB Tryz.prog 24 [(0, 1)] := ⟨_, Tryz.underlying24, fun w => by kernel_rfl⟩
instance : TyF Tryz.prog 24 0 0 22 := ⟨_, _, Tryz.underlying24, rfl, rfl, rfl, info_f (n := 1) (by kernel_rfl) (by decide)⟩
-- 25: []laws.Device
instance : TyN Tryz.prog 25 1 := ⟨info_n (by kernel_rfl)⟩
instance : TySc Tryz.prog 25 := ⟨fun w => by kernel_rfl, info_n (by kernel_rfl)⟩
theorem Tryz.z25 : (Tryz.prog.info? 25).map (·.zero) = some (some (.slice none 0 0)) := by kernel_rfl
instance : TyZ Tryz.prog 25 [.nil] := ⟨by obtain ⟨i, h1, h2⟩ := info_z Tryz.z25; exact ⟨i, _, h1, h2, rfl⟩⟩
instance : TyE Tryz.prog 25 [.l []] := ⟨by obtain ⟨i, h1, h2⟩ := info_z Tryz.z25; exact ⟨i, _, h1, h2, rfl⟩⟩
instance : TySl Tryz.prog 25 109 14 144 := ⟨Tryz.underlying25, info_s (z := .agg #[.int .i64 0, .int .i64 0, .int .i64 0, .int .i64 0, .int .i64 0, .int .i64 0, .int .i64 0, .int .i64 0, .int .i64 0, .bool false, .int .i64 0, .int .i64 0, .slice none 0 0, .slice none 0 0]) (by kernel_rfl) rfl, by decide⟩
-- 26: []laws.Session
instance : TyN Tryz.prog 26 1 := ⟨info_n (by kernel_rfl)⟩
instance : TySc Tryz.prog 26 := ⟨fun w => by kernel_rfl, info_n (by kernel_rfl)⟩
theorem Tryz.z26 : (Tryz.prog.info? 26).map (·.zero) = some (some (.slice none 0 0)) := by kernel_rfl
instance : TyZ Tryz.prog 26 [.nil] := ⟨by obtain ⟨i, h1, h2⟩ := info_z Tryz.z26; exact ⟨i, _, h1, h2, rfl⟩⟩
instance : TyE Tryz.prog 26 [.l []] := ⟨by obtain ⟨i, h1, h2⟩ := info_z Tryz.z26; exact ⟨i, _, h1, h2, rfl⟩⟩
instance : TySl Tryz.prog 26 120 30 288 := ⟨Tryz.underlying26, info_s (z := .agg #[.int .i64 0, .int .i64 0, .int .i64 0, .int .i64 0, .int .i64 0, .int .i64 0, .int .i64 0, .slice none 0 0, .int .i64 0, .int .i64 0, .int .i64 0, .int .i64 0, .int .i64 0, .int .i64 0, .int .i64 0, .int .i64 0, .int .i64 0, .int .i64 0, .int .i64 0, .int .i64 0, .int .i64 0, .int .i64 0, .int .i64 0, .slice none 0 0, .int .i64 0, .slice none 0 0, .int .i64 0, .int .i64 0, .int .i64 0, .int .i64 0]) (by kernel_rfl) rfl, by decide⟩
-- 27: []laws.Account
instance : TyN Tryz.prog 27 1 := ⟨info_n (by kernel_rfl)⟩
instance : TySc Tryz.prog 27 := ⟨fun w => by kernel_rfl, info_n (by kernel_rfl)⟩
theorem Tryz.z27 : (Tryz.prog.info? 27).map (·.zero) = some (some (.slice none 0 0)) := by kernel_rfl
instance : TyZ Tryz.prog 27 [.nil] := ⟨by obtain ⟨i, h1, h2⟩ := info_z Tryz.z27; exact ⟨i, _, h1, h2, rfl⟩⟩
instance : TyE Tryz.prog 27 [.l []] := ⟨by obtain ⟨i, h1, h2⟩ := info_z Tryz.z27; exact ⟨i, _, h1, h2, rfl⟩⟩
instance : TySl Tryz.prog 27 124 4 48 := ⟨Tryz.underlying27, info_s (z := .agg #[.int .i64 0, .int .i64 0, .int .i64 0, .slice none 0 0]) (by kernel_rfl) rfl, by decide⟩
-- 28: []laws.Flight
instance : TyN Tryz.prog 28 1 := ⟨info_n (by kernel_rfl)⟩
instance : TySc Tryz.prog 28 := ⟨fun w => by kernel_rfl, info_n (by kernel_rfl)⟩
theorem Tryz.z28 : (Tryz.prog.info? 28).map (·.zero) = some (some (.slice none 0 0)) := by kernel_rfl
instance : TyZ Tryz.prog 28 [.nil] := ⟨by obtain ⟨i, h1, h2⟩ := info_z Tryz.z28; exact ⟨i, _, h1, h2, rfl⟩⟩
instance : TyE Tryz.prog 28 [.l []] := ⟨by obtain ⟨i, h1, h2⟩ := info_z Tryz.z28; exact ⟨i, _, h1, h2, rfl⟩⟩
instance : TySl Tryz.prog 28 134 21 176 := ⟨Tryz.underlying28, info_s (z := .agg #[.int .i64 0, .bool false, .bool false, .int .i64 0, .int .i64 0, .int .i64 0, .int .i64 0, .int .i64 0, .int .i64 0, .int .i64 0, .int .i64 0, .int .i64 0, .int .i64 0, .int .i64 0, .int .i64 0, .int .i64 0, .int .i64 0, .int .i64 0, .int .i64 0, .slice none 0 0, .int .i64 0]) (by kernel_rfl) rfl, by decide⟩
-- 30: laws.ServerPool
instance : TyN Tryz.prog 30 2 := ⟨info_n (by kernel_rfl)⟩
instance : TyAg Tryz.prog 30 2 := ⟨fun w => by kernel_rfl, info_n (by kernel_rfl)⟩
theorem Tryz.z30 : (Tryz.prog.info? 30).map (·.zero) = some (some (.agg #[.int .i64 0, .int .i64 0])) := by kernel_rfl
instance : TyZ Tryz.prog 30 [.d false (.i .i64 0), .d false (.i .i64 0)] := ⟨by obtain ⟨i, h1, h2⟩ := info_z Tryz.z30; exact ⟨i, _, h1, h2, rfl⟩⟩
instance : TyE Tryz.prog 30 [.i .i64 0, .i .i64 0] := ⟨by obtain ⟨i, h1, h2⟩ := info_z Tryz.z30; exact ⟨i, _, h1, h2, rfl⟩⟩
instance : TyB Tryz.prog 30 [(0, 1), (1, 1)] := ⟨_, Tryz.underlying30, fun w => by kernel_rfl⟩
instance : TyF Tryz.prog 30 0 0 3 := ⟨_, _, Tryz.underlying30, rfl, rfl, rfl, info_f (n := 1) (by kernel_rfl) (by decide)⟩
instance : TyF Tryz.prog 30 1 1 3 := ⟨_, _, Tryz.underlying30, rfl, rfl, rfl, info_f (n := 1) (by kernel_rfl) (by decide)⟩
-- 32: laws.Network
instance : TyN Tryz.prog 32 10 := ⟨info_n (by kernel_rfl)⟩
instance : TyAg Tryz.prog 32 10 := ⟨fun w => by kernel_rfl, info_n (by kernel_rfl)⟩
theorem Tryz.z32 : (Tryz.prog.info? 32).map (·.zero) = some (some (.agg #[.slice none 0 0, .slice none 0 0, .slice none 0 0, .slice none 0 0, .slice none 0 0, .int .i64 0, .int .i64 0, .int .i64 0, .int .i64 0, .int .i64 0])) := by kernel_rfl
instance : TyZ Tryz.prog 32 [.nil, .nil, .nil, .nil, .nil, .d false (.i .i64 0), .d false (.i .i64 0), .d false (.i .i64 0), .d false (.i .i64 0), .d false (.i .i64 0)] := ⟨by obtain ⟨i, h1, h2⟩ := info_z Tryz.z32; exact ⟨i, _, h1, h2, rfl⟩⟩
instance : TyE Tryz.prog 32 [.l [], .l [], .l [], .l [], .l [], .i .i64 0, .i .i64 0, .i .i64 0, .i .i64 0, .i .i64 0] := ⟨by obtain ⟨i, h1, h2⟩ := info_z Tryz.z32; exact ⟨i, _, h1, h2, rfl⟩⟩
instance : TyB Tryz.prog 32 [(0, 1), (1, 1), (2, 1), (3, 1), (4, 1), (5, 1), (6, 2), (8, 1), (9, 1)] := ⟨_, Tryz.underlying32, fun w => by kernel_rfl⟩
instance : TyF Tryz.prog 32 0 0 24 := ⟨_, _, Tryz.underlying32, rfl, rfl, rfl, info_f (n := 1) (by kernel_rfl) (by decide)⟩
instance : TyF Tryz.prog 32 1 1 25 := ⟨_, _, Tryz.underlying32, rfl, rfl, rfl, info_f (n := 1) (by kernel_rfl) (by decide)⟩
instance : TyF Tryz.prog 32 2 2 26 := ⟨_, _, Tryz.underlying32, rfl, rfl, rfl, info_f (n := 1) (by kernel_rfl) (by decide)⟩
instance : TyF Tryz.prog 32 3 3 27 := ⟨_, _, Tryz.underlying32, rfl, rfl, rfl, info_f (n := 1) (by kernel_rfl) (by decide)⟩
instance : TyF Tryz.prog 32 4 4 28 := ⟨_, _, Tryz.underlying32, rfl, rfl, rfl, info_f (n := 1) (by kernel_rfl) (by decide)⟩
instance : TyF Tryz.prog 32 5 5 3 := ⟨_, _, Tryz.underlying32, rfl, rfl, rfl, info_f (n := 1) (by kernel_rfl) (by decide)⟩
instance : TyF Tryz.prog 32 6 6 30 := ⟨_, _, Tryz.underlying32, rfl, rfl, rfl, info_f (n := 2) (by kernel_rfl) (by decide)⟩
instance : TyF Tryz.prog 32 7 8 3 := ⟨_, _, Tryz.underlying32, rfl, rfl, rfl, info_f (n := 1) (by kernel_rfl) (by decide)⟩
instance : TyF Tryz.prog 32 8 9 3 := ⟨_, _, Tryz.underlying32, rfl, rfl, rfl, info_f (n := 1) (by kernel_rfl) (by decide)⟩
-- 35: []impl.Cell
instance : TyN Tryz.prog 35 1 := ⟨info_n (by kernel_rfl)⟩
instance : TySc Tryz.prog 35 := ⟨fun w => by kernel_rfl, info_n (by kernel_rfl)⟩
theorem Tryz.z35 : (Tryz.prog.info? 35).map (·.zero) = some (some (.slice none 0 0)) := by kernel_rfl
instance : TyZ Tryz.prog 35 [.nil] := ⟨by obtain ⟨i, h1, h2⟩ := info_z Tryz.z35; exact ⟨i, _, h1, h2, rfl⟩⟩
instance : TyE Tryz.prog 35 [.l []] := ⟨by obtain ⟨i, h1, h2⟩ := info_z Tryz.z35; exact ⟨i, _, h1, h2, rfl⟩⟩
instance : TySl Tryz.prog 35 167 2 32 := ⟨Tryz.underlying35, info_s (z := .agg #[.int .i64 0, .slice none 0 0]) (by kernel_rfl) rfl, by decide⟩
-- 37: impl.CellMap
instance : TyN Tryz.prog 37 1 := ⟨info_n (by kernel_rfl)⟩
instance : TyAg Tryz.prog 37 1 := ⟨fun w => by kernel_rfl, info_n (by kernel_rfl)⟩
theorem Tryz.z37 : (Tryz.prog.info? 37).map (·.zero) = some (some (.agg #[.slice none 0 0])) := by kernel_rfl
instance : TyZ Tryz.prog 37 [.nil] := ⟨by obtain ⟨i, h1, h2⟩ := info_z Tryz.z37; exact ⟨i, _, h1, h2, rfl⟩⟩
instance : TyE Tryz.prog 37 [.l []] := ⟨by obtain ⟨i, h1, h2⟩ := info_z Tryz.z37; exact ⟨i, _, h1, h2, rfl⟩⟩
instance : TyB Tryz.prog 37 [(0, 1)] := ⟨_, Tryz.underlying37, fun w => by kernel_rfl⟩
instance : TyF Tryz.prog 37 0 0 35 := ⟨_, _, Tryz.underlying37, rfl, rfl, rfl, info_f (n := 1) (by kernel_rfl) (by decide)⟩
-- 38: []impl.Device
instance : TyN Tryz.prog 38 1 := ⟨info_n (by kernel_rfl)⟩
instance : TySc Tryz.prog 38 := ⟨fun w => by kernel_rfl, info_n (by kernel_rfl)⟩
theorem Tryz.z38 : (Tryz.prog.info? 38).map (·.zero) = some (some (.slice none 0 0)) := by kernel_rfl
instance : TyZ Tryz.prog 38 [.nil] := ⟨by obtain ⟨i, h1, h2⟩ := info_z Tryz.z38; exact ⟨i, _, h1, h2, rfl⟩⟩
instance : TyE Tryz.prog 38 [.l []] := ⟨by obtain ⟨i, h1, h2⟩ := info_z Tryz.z38; exact ⟨i, _, h1, h2, rfl⟩⟩
instance : TySl Tryz.prog 38 63 14 144 := ⟨Tryz.underlying38, info_s (z := .agg #[.int .i64 0, .int .i64 0, .int .i64 0, .int .i64 0, .int .i64 0, .int .i64 0, .int .i64 0, .int .i64 0, .int .i64 0, .bool false, .int .i64 0, .int .i64 0, .slice none 0 0, .slice none 0 0]) (by kernel_rfl) rfl, by decide⟩
-- 39: []impl.Session
instance : TyN Tryz.prog 39 1 := ⟨info_n (by kernel_rfl)⟩
instance : TySc Tryz.prog 39 := ⟨fun w => by kernel_rfl, info_n (by kernel_rfl)⟩
theorem Tryz.z39 : (Tryz.prog.info? 39).map (·.zero) = some (some (.slice none 0 0)) := by kernel_rfl
instance : TyZ Tryz.prog 39 [.nil] := ⟨by obtain ⟨i, h1, h2⟩ := info_z Tryz.z39; exact ⟨i, _, h1, h2, rfl⟩⟩
instance : TyE Tryz.prog 39 [.l []] := ⟨by obtain ⟨i, h1, h2⟩ := info_z Tryz.z39; exact ⟨i, _, h1, h2, rfl⟩⟩
instance : TySl Tryz.prog 39 78 30 288 := ⟨Tryz.underlying39, info_s (z := .agg #[.int .i64 0, .int .i64 0, .int .i64 0, .int .i64 0, .int .i64 0, .int .i64 0, .int .i64 0, .slice none 0 0, .int .i64 0, .int .i64 0, .int .i64 0, .int .i64 0, .int .i64 0, .int .i64 0, .int .i64 0, .int .i64 0, .int .i64 0, .int .i64 0, .int .i64 0, .int .i64 0, .int .i64 0, .int .i64 0, .int .i64 0, .slice none 0 0, .int .i64 0, .slice none 0 0, .int .i64 0, .int .i64 0, .int .i64 0, .int .i64 0]) (by kernel_rfl) rfl, by decide⟩
-- 40: []impl.Account
instance : TyN Tryz.prog 40 1 := ⟨info_n (by kernel_rfl)⟩
instance : TySc Tryz.prog 40 := ⟨fun w => by kernel_rfl, info_n (by kernel_rfl)⟩
theorem Tryz.z40 : (Tryz.prog.info? 40).map (·.zero) = some (some (.slice none 0 0)) := by kernel_rfl
instance : TyZ Tryz.prog 40 [.nil] := ⟨by obtain ⟨i, h1, h2⟩ := info_z Tryz.z40; exact ⟨i, _, h1, h2, rfl⟩⟩
instance : TyE Tryz.prog 40 [.l []] := ⟨by obtain ⟨i, h1, h2⟩ := info_z Tryz.z40; exact ⟨i, _, h1, h2, rfl⟩⟩
instance : TySl Tryz.prog 40 96 4 48 := ⟨Tryz.underlying40, info_s (z := .agg #[.int .i64 0, .int .i64 0, .int .i64 0, .slice none 0 0]) (by kernel_rfl) rfl, by decide⟩
-- 41: []impl.Flight
instance : TyN Tryz.prog 41 1 := ⟨info_n (by kernel_rfl)⟩
instance : TySc Tryz.prog 41 := ⟨fun w => by kernel_rfl, info_n (by kernel_rfl)⟩
theorem Tryz.z41 : (Tryz.prog.info? 41).map (·.zero) = some (some (.slice none 0 0)) := by kernel_rfl
instance : TyZ Tryz.prog 41 [.nil] := ⟨by obtain ⟨i, h1, h2⟩ := info_z Tryz.z41; exact ⟨i, _, h1, h2, rfl⟩⟩
instance : TyE Tryz.prog 41 [.l []] := ⟨by obtain ⟨i, h1, h2⟩ := info_z Tryz.z41; exact ⟨i, _, h1, h2, rfl⟩⟩
instance : TySl Tryz.prog 41 147 21 176 := ⟨Tryz.underlying41, info_s (z := .agg #[.int .i64 0, .bool false, .bool false, .int .i64 0, .int .i64 0, .int .i64 0, .int .i64 0, .int .i64 0, .int .i64 0, .int .i64 0, .int .i64 0, .int .i64 0, .int .i64 0, .int .i64 0, .int .i64 0, .int .i64 0, .int .i64 0, .int .i64 0, .int .i64 0, .slice none 0 0, .int .i64 0]) (by kernel_rfl) rfl, by decide⟩
-- 42: impl.ServerPool
instance : TyN Tryz.prog 42 2 := ⟨info_n (by kernel_rfl)⟩
instance : TyAg Tryz.prog 42 2 := ⟨fun w => by kernel_rfl, info_n (by kernel_rfl)⟩
theorem Tryz.z42 : (Tryz.prog.info? 42).map (·.zero) = some (some (.agg #[.int .i64 0, .int .i64 0])) := by kernel_rfl
instance : TyZ Tryz.prog 42 [.d false (.i .i64 0), .d false (.i .i64 0)] := ⟨by obtain ⟨i, h1, h2⟩ := info_z Tryz.z42; exact ⟨i, _, h1, h2, rfl⟩⟩
instance : TyE Tryz.prog 42 [.i .i64 0, .i .i64 0] := ⟨by obtain ⟨i, h1, h2⟩ := info_z Tryz.z42; exact ⟨i, _, h1, h2, rfl⟩⟩
instance : TyB Tryz.prog 42 [(0, 1), (1, 1)] := ⟨_, Tryz.underlying42, fun w => by kernel_rfl⟩
instance : TyF Tryz.prog 42 0 0 3 := ⟨_, _, Tryz.underlying42, rfl, rfl, rfl, info_f (n := 1) (by kernel_rfl) (by decide)⟩
instance : TyF Tryz.prog 42 1 1 3 := ⟨_, _, Tryz.underlying42, rfl, rfl, rfl, info_f (n := 1) (by kernel_rfl) (by decide)⟩
-- 44: impl.Network
instance : TyN Tryz.prog 44 10 := ⟨info_n (by kernel_rfl)⟩
instance : TyAg Tryz.prog 44 10 := ⟨fun w => by kernel_rfl, info_n (by kernel_rfl)⟩
theorem Tryz.z44 : (Tryz.prog.info? 44).map (·.zero) = some (some (.agg #[.slice none 0 0, .slice none 0 0, .slice none 0 0, .slice none 0 0, .slice none 0 0, .int .i64 0, .int .i64 0, .int .i64 0, .int .i64 0, .int .i64 0])) := by kernel_rfl
instance : TyZ Tryz.prog 44 [.nil, .nil, .nil, .nil, .nil, .d false (.i .i64 0), .d false (.i .i64 0), .d false (.i .i64 0), .d false (.i .i64 0), .d false (.i .i64 0)] := ⟨by obtain ⟨i, h1, h2⟩ := info_z Tryz.z44; exact ⟨i, _, h1, h2, rfl⟩⟩
instance : TyE Tryz.prog 44 [.l [], .l [], .l [], .l [], .l [], .i .i64 0, .i .i64 0, .i .i64 0, .i .i64 0, .i .i64 0] := ⟨by obtain ⟨i, h1, h2⟩ := info_z Tryz.z44; exact ⟨i, _, h1, h2, rfl⟩⟩
instance : TyB Tryz.prog 44 [(0, 1), (1, 1), (2, 1), (3, 1), (4, 1), (5, 1), (6, 2), (8, 1), (9, 1)] := ⟨_, Tryz.underlying44, fun w => by kernel_rfl⟩
instance : TyF Tryz.prog 44 0 0 37 := ⟨_, _, Tryz.underlying44, rfl, rfl, rfl, info_f (n := 1) (by kernel_rfl) (by decide)⟩
instance : TyF Tryz.prog 44 1 1 38 := ⟨_, _, Tryz.underlying44, rfl, rfl, rfl, info_f (n := 1) (by kernel_rfl) (by decide)⟩
instance : TyF Tryz.prog 44 2 2 39 := ⟨_, _, Tryz.underlying44, rfl, rfl, rfl, info_f (n := 1) (by kernel_rfl) (by decide)⟩
instance : TyF Tryz.prog 44 3 3 40 := ⟨_, _, Tryz.underlying44, rfl, rfl, rfl, info_f (n := 1) (by kernel_rfl) (by decide)⟩
instance : TyF Tryz.prog 44 4 4 41 := ⟨_, _, Tryz.underlying44, rfl, rfl, rfl, info_f (n := 1) (by kernel_rfl) (by decide)⟩
instance : TyF Tryz.prog 44 5 5 3 := ⟨_, _, Tryz.underlying44, rfl, rfl, rfl, info_f (n := 1) (by kernel_rfl) (by decide)⟩
instance : TyF Tryz.prog 44 6 6 42 := ⟨_, _, Tryz.underlying44, rfl, rfl, rfl, info_f (n := 2) (by kernel_rfl) (by decide)⟩
instance : TyF Tryz.prog 44 7 8 3 := ⟨_, _, Tryz.underlying44, rfl, rfl, rfl, info_f (n := 1) (by kernel_rfl) (by decide)⟩
instance : TyF Tryz.prog 44 8 9 3 := ⟨_, _, Tryz.underlying44, rfl, rfl, rfl, info_f (n := 1) (by kernel_rfl) (by decide)⟩
-- 54: []impl.NumberedPacket
instance : TyN Tryz.prog 54 1 := ⟨info_n (by kernel_rfl)⟩
instance : TySc Tryz.prog 54 := ⟨fun w => by kernel_rfl, info_n (by kernel_rfl)⟩
theorem Tryz.z54 : (Tryz.prog.info? 54).map (·.zero) = some (some (.slice none 0 0)) := by kernel_rfl
instance : TyZ Tryz.prog 54 [.nil] := ⟨by obtain ⟨i, h1, h2⟩ := info_z Tryz.z54; exact ⟨i, _, h1, h2, rfl⟩⟩
instance : TyE Tryz.prog 54 [.l []] := ⟨by obtain ⟨i, h1, h2⟩ := info_z Tryz.z54; exact ⟨i, _, h1, h2, rfl⟩⟩
instance : TySl Tryz.prog 54 217 2 32 := ⟨Tryz.underlying54, info_s (z := .agg #[.int .i64 0, .slice none 0 0]) (by kernel_rfl) rfl, by decide⟩
-- 55: []impl.Payload
instance : TyN Tryz.prog 55 1 := ⟨info_n (by kernel_rfl)⟩
instance : TySc Tryz.prog 55 := ⟨fun w => by kernel_rfl, info_n (by kernel_rfl)⟩
theorem Tryz.z55 : (Tryz.prog.info? 55).map (·.zero) = some (some (.slice none 0 0)) := by kernel_rfl
instance : TyZ Tryz.prog 55 [.nil] := ⟨by obtain ⟨i, h1, h2⟩ := info_z Tryz.z55; exact ⟨i, _, h1, h2, rfl⟩⟩
instance : TyE Tryz.prog 55 [.l []] := ⟨by obtain ⟨i, h1, h2⟩ := info_z Tryz.z55; exact ⟨i, _, h1, h2, rfl⟩⟩
instance : TySl Tryz.prog 55 151 1 24 := ⟨Tryz.underlying55, info_s (z := .agg #[.slice none 0 0]) (by kernel_rfl) rfl, by decide⟩
-- 57: impl.ReceiveWindow
instance : TyN Tryz.prog 57 3 := ⟨info_n (by kernel_rfl)⟩
instance : TyAg Tryz.prog 57 3 := ⟨fun w => by kernel_rfl, info_n (by kernel_rfl)⟩
theorem Tryz.z57 : (Tryz.prog.info? 57).map (·.zero) = some (some (.agg #[.int .i64 0, .slice none 0 0, .slice none 0 0])) := by kernel_rfl
instance : TyZ Tryz.prog 57 [.d false (.i .i64 0), .nil, .nil] := ⟨by obtain ⟨i, h1, h2⟩ := info_z Tryz.z57; exact ⟨i, _, h1, h2, rfl⟩⟩
instance : TyE Tryz.prog 57 [.i .i64 0, .l [], .l []] := ⟨by obtain ⟨i, h1, h2⟩ := info_z Tryz.z57; exact ⟨i, _, h1, h2, rfl⟩⟩
instance : TyB Tryz.prog 57 [(0, 1), (1, 1), (2, 1)] := ⟨_, Tryz.underlying57, fun w => by kernel_rfl⟩
instance : TyF Tryz.prog 57 0 0 3 := ⟨_, _, Tryz.underlying57, rfl, rfl, rfl, info_f (n := 1) (by kernel_rfl) (by decide)⟩
instance : TyF Tryz.prog 57 1 1 54 := ⟨_, _, Tryz.underlying57, rfl, rfl, rfl, info_f (n := 1) (by kernel_rfl) (by decide)⟩
instance : TyF Tryz.prog 57 2 2 55 := ⟨_, _, Tryz.underlying57, rfl, rfl, rfl, info_f (n := 1) (by kernel_rfl) (by decide)⟩
-- 59: impl.SubscriberID
instance : TyN Tryz.prog 59 2 := ⟨info_n (by kernel_rfl)⟩
instance : TyAg Tryz.prog 59 2 := ⟨fun w => by kernel_rfl, info_n (by kernel_rfl)⟩
theorem Tryz.z59 : (Tryz.prog.info? 59).map (·.zero) = some (some (.agg #[.int .i64 0, .int .i64 0])) := by kernel_rfl
instance : TyZ Tryz.prog 59 [.d false (.i .i64 0), .d false (.i .i64 0)] := ⟨by obtain ⟨i, h1, h2⟩ := info_z Tryz.z59; exact ⟨i, _, h1, h2, rfl⟩⟩
instance : TyE Tryz.prog 59 [.i .i64 0, .i .i64 0] := ⟨by obtain ⟨i, h1, h2⟩ := info_z Tryz.z59; exact ⟨i, _, h1, h2, rfl⟩⟩
instance : TyB Tryz.prog 59 [(0, 1), (1, 1)] := ⟨_, Tryz.underlying59, fun w => by kernel_rfl⟩
instance : TyF Tryz.prog 59 0 0 3 := ⟨_, _, Tryz.underlying59, rfl, rfl, rfl, info_f (n := 1) (by kernel_rfl) (by decide)⟩
instance : TyF Tryz.prog 59 1 1 3 := ⟨_, _, Tryz.underlying59, rfl, rfl, rfl, info_f (n := 1) (by kernel_rfl) (by decide)⟩
-- 61: impl.USIM
instance : TyN Tryz.prog 61 4 := ⟨info_n (by kernel_rfl)⟩
instance : TyAg Tryz.prog 61 4 := ⟨fun w => by kernel_rfl, info_n (by kernel_rfl)⟩
theorem Tryz.z61 : (Tryz.prog.info? 61).map (·.zero) = some (some (.agg #[.int .i64 0, .int .i64 0, .int .i64 0, .int .i64 0])) := by kernel_rfl
instance : TyZ Tryz.prog 61 [.d false (.i .i64 0), .d false (.i .i64 0), .d false (.i .i64 0), .d false (.i .i64 0)] := ⟨by obtain ⟨i, h1, h2⟩ := info_z Tryz.z61; exact ⟨i, _, h1, h2, rfl⟩⟩
instance : TyE Tryz.prog 61 [.i .i64 0, .i .i64 0, .i .i64 0, .i .i64 0] := ⟨by obtain ⟨i, h1, h2⟩ := info_z Tryz.z61; exact ⟨i, _, h1, h2, rfl⟩⟩
instance : TyB Tryz.prog 61 [(0, 2), (2, 1), (3, 1)] := ⟨_, Tryz.underlying61, fun w => by kernel_rfl⟩
instance : TyF Tryz.prog 61 0 0 59 := ⟨_, _, Tryz.underlying61, rfl, rfl, rfl, info_f (n := 2) (by kernel_rfl) (by decide)⟩
instance : TyF Tryz.prog 61 1 2 3 := ⟨_, _, Tryz.underlying61, rfl, rfl, rfl, info_f (n := 1) (by kernel_rfl) (by decide)⟩
instance : TyF Tryz.prog 61 2 3 3 := ⟨_, _, Tryz.underlying61, rfl, rfl, rfl, info_f (n := 1) (by kernel_rfl) (by decide)⟩
-- 63: impl.Device
instance : TyN Tryz.prog 63 14 := ⟨info_n (by kernel_rfl)⟩
instance : TyAg Tryz.prog 63 14 := ⟨fun w => by kernel_rfl, info_n (by kernel_rfl)⟩
theorem Tryz.z63 : (Tryz.prog.info? 63).map (·.zero) = some (some (.agg #[.int .i64 0, .int .i64 0, .int .i64 0, .int .i64 0, .int .i64 0, .int .i64 0, .int .i64 0, .int .i64 0, .int .i64 0, .bool false, .int .i64 0, .int .i64 0, .slice none 0 0, .slice none 0 0])) := by kernel_rfl
instance : TyZ Tryz.prog 63 [.d false (.i .i64 0), .d false (.i .i64 0), .d false (.i .i64 0), .d false (.i .i64 0), .d false (.i .i64 0), .d false (.i .i64 0), .d false (.i .i64 0), .d false (.i .i64 0), .d false (.i .i64 0), .d false (.b false), .d false (.i .i64 0), .d false (.i .i64 0), .nil, .nil] := ⟨by obtain ⟨i, h1, h2⟩ := info_z Tryz.z63; exact ⟨i, _, h1, h2, rfl⟩⟩
instance : TyE Tryz.prog 63 [.i .i64 0, .i .i64 0, .i .i64 0, .i .i64 0, .i .i64 0, .i .i64 0, .i .i64 0, .i .i64 0, .i .i64 0, .b false, .i .i64 0, .i .i64 0, .l [], .l []] := ⟨by obtain ⟨i, h1, h2⟩ := info_z Tryz.z63; exact ⟨i, _, h1, h2, rfl⟩⟩
instance : TyB Tryz.prog 63 [(0, 4), (4, 1), (5, 1), (6, 1), (7, 1), (8, 1), (9, 1), (10, 1), (11, 3)] := ⟨_, Tryz.underlying63, fun w => by kernel_rfl⟩
instance : TyF Tryz.prog 63 0 0 61 := ⟨_, _, Tryz.underlying63, rfl, rfl, rfl, info_f (n := 4) (by kernel_rfl) (by decide)⟩
instance : TyF Tryz.prog 63 1 4 3 := ⟨_, _, Tryz.underlying63, rfl, rfl, rfl, info_f (n := 1) (by kernel_rfl) (by decide)⟩
instance : TyF Tryz.prog 63 2 5 3 := ⟨_, _, Tryz.underlying63, rfl, rfl, rfl, info_f (n := 1) (by kernel_rfl) (by decide)⟩
instance : TyF Tryz.prog 63 3 6 3 := ⟨_, _, Tryz.underlying63, rfl, rfl, rfl, info_f (n := 1) (by kernel_rfl) (by decide)⟩
instance : TyF Tryz.prog 63 4 7 3 := ⟨_, _, Tryz.underlying63, rfl, rfl, rfl, info_f (n := 1) (by kernel_rfl) (by decide)⟩
instance : TyF Tryz.prog 63 5 8 3 := ⟨_, _, Tryz.underlying63, rfl, rfl, rfl, info_f (n := 1) (by kernel_rfl) (by decide)⟩
instance : TyF Tryz.prog 63 6 9 4 := ⟨_, _, Tryz.underlying63, rfl, rfl, rfl, info_f (n := 1) (by kernel_rfl) (by decide)⟩
instance : TyF Tryz.prog 63 7 10 3 := ⟨_, _, Tryz.underlying63, rfl, rfl, rfl, info_f (n := 1) (by kernel_rfl) (by decide)⟩
instance : TyF Tryz.prog 63 8 11 57 := ⟨_, _, Tryz.underlying63, rfl, rfl, rfl, info_f (n := 3) (by kernel_rfl) (by decide)⟩
-- 65: impl.SubscriberRecord
instance : TyN Tryz.prog 65 4 := ⟨info_n (by kernel_rfl)⟩
instance : TyAg Tryz.prog 65 4 := ⟨fun w => by kernel_rfl, info_n (by kernel_rfl)⟩
theorem Tryz.z65 : (Tryz.prog.info? 65).map (·.zero) = some (some (.agg #[.int .i64 0, .int .i64 0, .int .i64 0, .int .i64 0])) := by kernel_rfl
instance : TyZ Tryz.prog 65 [.d false (.i .i64 0), .d false (.i .i64 0), .d false (.i .i64 0), .d false (.i .i64 0)] := ⟨by obtain ⟨i, h1, h2⟩ := info_z Tryz.z65; exact ⟨i, _, h1, h2, rfl⟩⟩
instance : TyE Tryz.prog 65 [.i .i64 0, .i .i64 0, .i .i64 0, .i .i64 0] := ⟨by obtain ⟨i, h1, h2⟩ := info_z Tryz.z65; exact ⟨i, _, h1, h2, rfl⟩⟩
instance : TyB Tryz.prog 65 [(0, 2), (2, 1), (3, 1)] := ⟨_, Tryz.underlying65, fun w => by kernel_rfl⟩
instance : TyF Tryz.prog 65 0 0 59 := ⟨_, _, Tryz.underlying65, rfl, rfl, rfl, info_f (n := 2) (by kernel_rfl) (by decide)⟩
instance : TyF Tryz.prog 65 1 2 3 := ⟨_, _, Tryz.underlying65, rfl, rfl, rfl, info_f (n := 1) (by kernel_rfl) (by decide)⟩
instance : TyF Tryz.prog 65 2 3 3 := ⟨_, _, Tryz.underlying65, rfl, rfl, rfl, info_f (n := 1) (by kernel_rfl) (by decide)⟩
-- 66: []int
instance : TyN Tryz.prog 66 1 := ⟨info_n (by kernel_rfl)⟩
instance : TySc Tryz.prog 66 := ⟨fun w => by kernel_rfl, info_n (by kernel_rfl)⟩
theorem Tryz.z66 : (Tryz.prog.info? 66).map (·.zero) = some (some (.slice none 0 0)) := by kernel_rfl
instance : TyZ Tryz.prog 66 [.nil] := ⟨by obtain ⟨i, h1, h2⟩ := info_z Tryz.z66; exact ⟨i, _, h1, h2, rfl⟩⟩
instance : TyE Tryz.prog 66 [.l []] := ⟨by obtain ⟨i, h1, h2⟩ := info_z Tryz.z66; exact ⟨i, _, h1, h2, rfl⟩⟩
instance : TySl Tryz.prog 66 3 1 8 := ⟨Tryz.underlying66, info_s (z := .int .i64 0) (by kernel_rfl) rfl, by decide⟩
-- 68: impl.Subscription
instance : TyN Tryz.prog 68 4 := ⟨info_n (by kernel_rfl)⟩
instance : TyAg Tryz.prog 68 4 := ⟨fun w => by kernel_rfl, info_n (by kernel_rfl)⟩
theorem Tryz.z68 : (Tryz.prog.info? 68).map (·.zero) = some (some (.agg #[.int .i64 0, .int .i64 0, .int .i64 0, .slice none 0 0])) := by kernel_rfl
instance : TyZ Tryz.prog 68 [.d false (.i .i64 0), .d false (.i .i64 0), .d false (.i .i64 0), .nil] := ⟨by obtain ⟨i, h1, h2⟩ := info_z Tryz.z68; exact ⟨i, _, h1, h2, rfl⟩⟩
instance : TyE Tryz.prog 68 [.i .i64 0, .i .i64 0, .i .i64 0, .l []] := ⟨by obtain ⟨i, h1, h2⟩ := info_z Tryz.z68; exact ⟨i, _, h1, h2, rfl⟩⟩
instance : TyB Tryz.prog 68 [(0, 1), (1, 1), (2, 1), (3, 1)] := ⟨_, Tryz.underlying68, fun w => by kernel_rfl⟩
instance : TyF Tryz.prog 68 0 0 3 := ⟨_, _, Tryz.underlying68, rfl, rfl, rfl, info_f (n := 1) (by kernel_rfl) (by decide)⟩
instance : TyF Tryz.prog 68 1 1 3 := ⟨_, _, Tryz.underlying68, rfl, rfl, rfl, info_f (n := 1) (by kernel_rfl) (by decide)⟩
instance : TyF Tryz.prog 68 2 2 3 := ⟨_, _, Tryz.underlying68, rfl, rfl, rfl, info_f (n := 1) (by kernel_rfl) (by decide)⟩
instance : TyF Tryz.prog 68 3 3 66 := ⟨_, _, Tryz.underlying68, rfl, rfl, rfl, info_f (n := 1) (by kernel_rfl) (by decide)⟩
-- 70: impl.AuthVector
instance : TyN Tryz.prog 70 5 := ⟨info_n (by kernel_rfl)⟩
instance : TyAg Tryz.prog 70 5 := ⟨fun w => by kernel_rfl, info_n (by kernel_rfl)⟩
theorem Tryz.z70 : (Tryz.prog.info? 70).map (·.zero) = some (some (.agg #[.int .i64 0, .int .i64 0, .int .i64 0, .int .i64 0, .int .i64 0])) := by kernel_rfl
instance : TyZ Tryz.prog 70 [.d false (.i .i64 0), .d false (.i .i64 0), .d false (.i .i64 0), .d false (.i .i64 0), .d false (.i .i64 0)] := ⟨by obtain ⟨i, h1, h2⟩ := info_z Tryz.z70; exact ⟨i, _, h1, h2, rfl⟩⟩
instance : TyE Tryz.prog 70 [.i .i64 0, .i .i64 0, .i .i64 0, .i .i64 0, .i .i64 0] := ⟨by obtain ⟨i, h1, h2⟩ := info_z Tryz.z70; exact ⟨i, _, h1, h2, rfl⟩⟩
instance : TyB Tryz.prog 70 [(0, 1), (1, 1), (2, 1), (3, 1), (4, 1)] := ⟨_, Tryz.underlying70, fun w => by kernel_rfl⟩
instance : TyF Tryz.prog 70 0 0 3 := ⟨_, _, Tryz.underlying70, rfl, rfl, rfl, info_f (n := 1) (by kernel_rfl) (by decide)⟩
instance : TyF Tryz.prog 70 1 1 3 := ⟨_, _, Tryz.underlying70, rfl, rfl, rfl, info_f (n := 1) (by kernel_rfl) (by decide)⟩
instance : TyF Tryz.prog 70 2 2 3 := ⟨_, _, Tryz.underlying70, rfl, rfl, rfl, info_f (n := 1) (by kernel_rfl) (by decide)⟩
instance : TyF Tryz.prog 70 3 3 3 := ⟨_, _, Tryz.underlying70, rfl, rfl, rfl, info_f (n := 1) (by kernel_rfl) (by decide)⟩
instance : TyF Tryz.prog 70 4 4 3 := ⟨_, _, Tryz.underlying70, rfl, rfl, rfl, info_f (n := 1) (by kernel_rfl) (by decide)⟩
-- 72: impl.PagingState
instance : TyN Tryz.prog 72 3 := ⟨info_n (by kernel_rfl)⟩
instance : TyAg Tryz.prog 72 3 := ⟨fun w => by kernel_rfl, info_n (by kernel_rfl)⟩
theorem Tryz.z72 : (Tryz.prog.info? 72).map (·.zero) = some (some (.agg #[.int .i64 0, .int .i64 0, .int .i64 0])) := by kernel_rfl
instance : TyZ Tryz.prog 72 [.d false (.i .i64 0), .d false (.i .i64 0), .d false (.i .i64 0)] := ⟨by obtain ⟨i, h1, h2⟩ := info_z Tryz.z72; exact ⟨i, _, h1, h2, rfl⟩⟩
instance : TyE Tryz.prog 72 [.i .i64 0, .i .i64 0, .i .i64 0] := ⟨by obtain ⟨i, h1, h2⟩ := info_z Tryz.z72; exact ⟨i, _, h1, h2, rfl⟩⟩
instance : TyB Tryz.prog 72 [(0, 1), (1, 1), (2, 1)] := ⟨_, Tryz.underlying72, fun w => by kernel_rfl⟩
instance : TyF Tryz.prog 72 0 0 3 := ⟨_, _, Tryz.underlying72, rfl, rfl, rfl, info_f (n := 1) (by kernel_rfl) (by decide)⟩
instance : TyF Tryz.prog 72 1 1 3 := ⟨_, _, Tryz.underlying72, rfl, rfl, rfl, info_f (n := 1) (by kernel_rfl) (by decide)⟩
instance : TyF Tryz.prog 72 2 2 3 := ⟨_, _, Tryz.underlying72, rfl, rfl, rfl, info_f (n := 1) (by kernel_rfl) (by decide)⟩
-- 74: impl.SendWindow
instance : TyN Tryz.prog 74 2 := ⟨info_n (by kernel_rfl)⟩
instance : TyAg Tryz.prog 74 2 := ⟨fun w => by kernel_rfl, info_n (by kernel_rfl)⟩
theorem Tryz.z74 : (Tryz.prog.info? 74).map (·.zero) = some (some (.agg #[.int .i64 0, .slice none 0 0])) := by kernel_rfl
instance : TyZ Tryz.prog 74 [.d false (.i .i64 0), .nil] := ⟨by obtain ⟨i, h1, h2⟩ := info_z Tryz.z74; exact ⟨i, _, h1, h2, rfl⟩⟩
instance : TyE Tryz.prog 74 [.i .i64 0, .l []] := ⟨by obtain ⟨i, h1, h2⟩ := info_z Tryz.z74; exact ⟨i, _, h1, h2, rfl⟩⟩
instance : TyB Tryz.prog 74 [(0, 1), (1, 1)] := ⟨_, Tryz.underlying74, fun w => by kernel_rfl⟩
instance : TyF Tryz.prog 74 0 0 3 := ⟨_, _, Tryz.underlying74, rfl, rfl, rfl, info_f (n := 1) (by kernel_rfl) (by decide)⟩
instance : TyF Tryz.prog 74 1 1 54 := ⟨_, _, Tryz.underlying74, rfl, rfl, rfl, info_f (n := 1) (by kernel_rfl) (by decide)⟩
-- 76: impl.Quota
instance : TyN Tryz.prog 76 3 := ⟨info_n (by kernel_rfl)⟩
instance : TyAg Tryz.prog 76 3 := ⟨fun w => by kernel_rfl, info_n (by kernel_rfl)⟩
theorem Tryz.z76 : (Tryz.prog.info? 76).map (·.zero) = some (some (.agg #[.int .i64 0, .int .i64 0, .int .i64 0])) := by kernel_rfl
instance : TyZ Tryz.prog 76 [.d false (.i .i64 0), .d false (.i .i64 0), .d false (.i .i64 0)] := ⟨by obtain ⟨i, h1, h2⟩ := info_z Tryz.z76; exact ⟨i, _, h1, h2, rfl⟩⟩
instance : TyE Tryz.prog 76 [.i .i64 0, .i .i64 0, .i .i64 0] := ⟨by obtain ⟨i, h1, h2⟩ := info_z Tryz.z76; exact ⟨i, _, h1, h2, rfl⟩⟩
instance : TyB Tryz.prog 76 [(0, 1), (1, 1), (2, 1)] := ⟨_, Tryz.underlying76, fun w => by kernel_rfl⟩
instance : TyF Tryz.prog 76 0 0 3 := ⟨_, _, Tryz.underlying76, rfl, rfl, rfl, info_f (n := 1) (by kernel_rfl) (by decide)⟩
instance : TyF Tryz.prog 76 1 1 3 := ⟨_, _, Tryz.underlying76, rfl, rfl, rfl, info_f (n := 1) (by kernel_rfl) (by decide)⟩
instance : TyF Tryz.prog 76 2 2 3 := ⟨_, _, Tryz.underlying76, rfl, rfl, rfl, info_f (n := 1) (by kernel_rfl) (by decide)⟩
-- 78: impl.Session
instance : TyN Tryz.prog 78 30 := ⟨info_n (by kernel_rfl)⟩
instance : TyAg Tryz.prog 78 30 := ⟨fun w => by kernel_rfl, info_n (by kernel_rfl)⟩
theorem Tryz.z78 : (Tryz.prog.info? 78).map (·.zero) = some (some (.agg #[.int .i64 0, .int .i64 0, .int .i64 0, .int .i64 0, .int .i64 0, .int .i64 0, .int .i64 0, .slice none 0 0, .int .i64 0, .int .i64 0, .int .i64 0, .int .i64 0, .int .i64 0, .int .i64 0, .int .i64 0, .int .i64 0, .int .i64 0, .int .i64 0, .int .i64 0, .int .i64 0, .int .i64 0, .int .i64 0, .int .i64 0, .slice none 0 0, .int .i64 0, .slice none 0 0, .int .i64 0, .int .i64 0, .int .i64 0, .int .i64 0])) := by kernel_rfl
instance : TyZ Tryz.prog 78 [.d false (.i .i64 0), .d false (.i .i64 0), .d false (.i .i64 0), .d false (.i .i64 0), .d false (.i .i64 0), .d false (.i .i64 0), .d false (.i .i64 0), .nil, .d false (.i .i64 0), .d false (.i .i64 0), .d false (.i .i64 0), .d false (.i .i64 0), .d false (.i .i64 0), .d false (.i .i64 0), .d false (.i .i64 0), .d false (.i .i64 0), .d false (.i .i64 0), .d false (.i .i64 0), .d false (.i .i64 0), .d false (.i .i64 0), .d false (.i .i64 0), .d false (.i .i64 0), .d false (.i .i64 0), .nil, .d false (.i .i64 0), .nil, .d false (.i .i64 0), .d false (.i .i64 0), .d false (.i .i64 0), .d false (.i .i64 0)] := ⟨by obtain ⟨i, h1, h2⟩ := info_z Tryz.z78; exact ⟨i, _, h1, h2, rfl⟩⟩
instance : TyE Tryz.prog 78 [.i .i64 0, .i .i64 0, .i .i64 0, .i .i64 0, .i .i64 0, .i .i64 0, .i .i64 0, .l [], .i .i64 0, .i .i64 0, .i .i64 0, .i .i64 0, .i .i64 0, .i .i64 0, .i .i64 0, .i .i64 0, .i .i64 0, .i .i64 0, .i .i64 0, .i .i64 0, .i .i64 0, .i .i64 0, .i .i64 0, .l [], .i .i64 0, .l [], .i .i64 0, .i .i64 0, .i .i64 0, .i .i64 0] := ⟨by obtain ⟨i, h1, h2⟩ := info_z Tryz.z78; exact ⟨i, _, h1, h2, rfl⟩⟩
instance : TyB Tryz.prog 78 [(0, 4), (4, 4), (8, 1), (9, 5), (14, 1), (15, 1), (16, 1), (17, 1), (18, 1), (19, 1), (20, 3), (23, 1), (24, 2), (26, 1), (27, 3)] := ⟨_, Tryz.underlying78, fun w => by kernel_rfl⟩
instance : TyF Tryz.prog 78 0 0 65 := ⟨_, _, Tryz.underlying78, rfl, rfl, rfl, info_f (n := 4) (by kernel_rfl) (by decide)⟩
instance : TyF Tryz.prog 78 1 4 68 := ⟨_, _, Tryz.underlying78, rfl, rfl, rfl, info_f (n := 4) (by kernel_rfl) (by decide)⟩
instance : TyF Tryz.prog 78 2 8 3 := ⟨_, _, Tryz.underlying78, rfl, rfl, rfl, info_f (n := 1) (by kernel_rfl) (by decide)⟩
instance : TyF Tryz.prog 78 3 9 70 := ⟨_, _, Tryz.underlying78, rfl, rfl, rfl, info_f (n := 5) (by kernel_rfl) (by decide)⟩
instance : TyF Tryz.prog 78 4 14 3 := ⟨_, _, Tryz.underlying78, rfl, rfl, rfl, info_f (n := 1) (by kernel_rfl) (by decide)⟩
instance : TyF Tryz.prog 78 5 15 3 := ⟨_, _, Tryz.underlying78, rfl, rfl, rfl, info_f (n := 1) (by kernel_rfl) (by decide)⟩
instance : TyF Tryz.prog 78 6 16 3 := ⟨_, _, Tryz.underlying78, rfl, rfl, rfl, info_f (n := 1) (by kernel_rfl) (by decide)⟩
instance : TyF Tryz.prog 78 7 17 3 := ⟨_, _, Tryz.underlying78, rfl, rfl, rfl, info_f (n := 1) (by kernel_rfl) (by decide)⟩
instance : TyF Tryz.prog 78 8 18 3 := ⟨_, _, Tryz.underlying78, rfl, rfl, rfl, info_f (n := 1) (by kernel_rfl) (by decide)⟩
instance : TyF Tryz.prog 78 9 19 3 := ⟨_, _, Tryz.underlying78, rfl, rfl, rfl, info_f (n := 1) (by kernel_rfl) (by decide)⟩
instance : TyF Tryz.prog 78 10 20 72 := ⟨_, _, Tryz.underlying78, rfl, rfl, rfl, info_f (n := 3) (by kernel_rfl) (by decide)⟩
instance : TyF Tryz.prog 78 11 23 55 := ⟨_, _, Tryz.underlying78, rfl, rfl, rfl, info_f (n := 1) (by kernel_rfl) (by decide)⟩
instance : TyF Tryz.prog 78 12 24 74 := ⟨_, _, Tryz.underlying78, rfl, rfl, rfl, info_f (n := 2) (by kernel_rfl) (by decide)⟩
instance : TyF Tryz.prog 78 13 26 3 := ⟨_, _, Tryz.underlying78, rfl, rfl, rfl, info_f (n := 1) (by kernel_rfl) (by decide)⟩
instance : TyF Tryz.prog 78 14 27 76 := ⟨_, _, Tryz.underlying78, rfl, rfl, rfl, info_f (n := 3) (by kernel_rfl) (by decide)⟩
-- 94: []impl.Reservation
instance : TyN Tryz.prog 94 1 := ⟨info_n (by kernel_rfl)⟩
instance : TySc Tryz.prog 94 := ⟨fun w => by kernel_rfl, info_n (by kernel_rfl)⟩
theorem Tryz.z94 : (Tryz.prog.info? 94).map (·.zero) = some (some (.slice none 0 0)) := by kernel_rfl
instance : TyZ Tryz.prog 94 [.nil] := ⟨by obtain ⟨i, h1, h2⟩ := info_z Tryz.z94; exact ⟨i, _, h1, h2, rfl⟩⟩
instance : TyE Tryz.prog 94 [.l []] := ⟨by obtain ⟨i, h1, h2⟩ := info_z Tryz.z94; exact ⟨i, _, h1, h2, rfl⟩⟩
instance : TySl Tryz.prog 94 203 2 16 := ⟨Tryz.underlying94, info_s (z := .agg #[.int .i64 0, .int .i64 0]) (by kernel_rfl) rfl, by decide⟩
-- 96: impl.Account
instance : TyN Tryz.prog 96 4 := ⟨info_n (by kernel_rfl)⟩
instance : TyAg Tryz.prog 96 4 := ⟨fun w => by kernel_rfl, info_n (by kernel_rfl)⟩
theorem Tryz.z96 : (Tryz.prog.info? 96).map (·.zero) = some (some (.agg #[.int .i64 0, .int .i64 0, .int .i64 0, .slice none 0 0])) := by kernel_rfl
instance : TyZ Tryz.prog 96 [.d false (.i .i64 0), .d false (.i .i64 0), .d false (.i .i64 0), .nil] := ⟨by obtain ⟨i, h1, h2⟩ := info_z Tryz.z96; exact ⟨i, _, h1, h2, rfl⟩⟩
instance : TyE Tryz.prog 96 [.i .i64 0, .i .i64 0, .i .i64 0, .l []] := ⟨by obtain ⟨i, h1, h2⟩ := info_z Tryz.z96; exact ⟨i, _, h1, h2, rfl⟩⟩
instance : TyB Tryz.prog 96 [(0, 1), (1, 1), (2, 1), (3, 1)] := ⟨_, Tryz.underlying96, fun w => by kernel_rfl⟩
instance : TyF Tryz.prog 96 0 0 3 := ⟨_, _, Tryz.underlying96, rfl, rfl, rfl, info_f (n := 1) (by kernel_rfl) (by decide)⟩
instance : TyF Tryz.prog 96 1 1 3 := ⟨_, _, Tryz.underlying96, rfl, rfl, rfl, info_f (n := 1) (by kernel_rfl) (by decide)⟩
instance : TyF Tryz.prog 96 2 2 3 := ⟨_, _, Tryz.underlying96, rfl, rfl, rfl, info_f (n := 1) (by kernel_rfl) (by decide)⟩
instance : TyF Tryz.prog 96 3 3 94 := ⟨_, _, Tryz.underlying96, rfl, rfl, rfl, info_f (n := 1) (by kernel_rfl) (by decide)⟩
-- 101: laws.SubscriberID
instance : TyN Tryz.prog 101 2 := ⟨info_n (by kernel_rfl)⟩
instance : TyAg Tryz.prog 101 2 := ⟨fun w => by kernel_rfl, info_n (by kernel_rfl)⟩
theorem Tryz.z101 : (Tryz.prog.info? 101).map (·.zero) = some (some (.agg #[.int .i64 0, .int .i64 0])) := by kernel_rfl
instance : TyZ Tryz.prog 101 [.d false (.i .i64 0), .d false (.i .i64 0)] := ⟨by obtain ⟨i, h1, h2⟩ := info_z Tryz.z101; exact ⟨i, _, h1, h2, rfl⟩⟩
instance : TyE Tryz.prog 101 [.i .i64 0, .i .i64 0] := ⟨by obtain ⟨i, h1, h2⟩ := info_z Tryz.z101; exact ⟨i, _, h1, h2, rfl⟩⟩
instance : TyB Tryz.prog 101 [(0, 1), (1, 1)] := ⟨_, Tryz.underlying101, fun w => by kernel_rfl⟩
instance : TyF Tryz.prog 101 0 0 3 := ⟨_, _, Tryz.underlying101, rfl, rfl, rfl, info_f (n := 1) (by kernel_rfl) (by decide)⟩
instance : TyF Tryz.prog 101 1 1 3 := ⟨_, _, Tryz.underlying101, rfl, rfl, rfl, info_f (n := 1) (by kernel_rfl) (by decide)⟩
-- 103: laws.USIM
instance : TyN Tryz.prog 103 4 := ⟨info_n (by kernel_rfl)⟩
instance : TyAg Tryz.prog 103 4 := ⟨fun w => by kernel_rfl, info_n (by kernel_rfl)⟩
theorem Tryz.z103 : (Tryz.prog.info? 103).map (·.zero) = some (some (.agg #[.int .i64 0, .int .i64 0, .int .i64 0, .int .i64 0])) := by kernel_rfl
instance : TyZ Tryz.prog 103 [.d false (.i .i64 0), .d false (.i .i64 0), .d false (.i .i64 0), .d false (.i .i64 0)] := ⟨by obtain ⟨i, h1, h2⟩ := info_z Tryz.z103; exact ⟨i, _, h1, h2, rfl⟩⟩
instance : TyE Tryz.prog 103 [.i .i64 0, .i .i64 0, .i .i64 0, .i .i64 0] := ⟨by obtain ⟨i, h1, h2⟩ := info_z Tryz.z103; exact ⟨i, _, h1, h2, rfl⟩⟩
instance : TyB Tryz.prog 103 [(0, 2), (2, 1), (3, 1)] := ⟨_, Tryz.underlying103, fun w => by kernel_rfl⟩
instance : TyF Tryz.prog 103 0 0 101 := ⟨_, _, Tryz.underlying103, rfl, rfl, rfl, info_f (n := 2) (by kernel_rfl) (by decide)⟩
instance : TyF Tryz.prog 103 1 2 3 := ⟨_, _, Tryz.underlying103, rfl, rfl, rfl, info_f (n := 1) (by kernel_rfl) (by decide)⟩
instance : TyF Tryz.prog 103 2 3 3 := ⟨_, _, Tryz.underlying103, rfl, rfl, rfl, info_f (n := 1) (by kernel_rfl) (by decide)⟩
-- 104: []laws.NumberedPacket
instance : TyN Tryz.prog 104 1 := ⟨info_n (by kernel_rfl)⟩
instance : TySc Tryz.prog 104 := ⟨fun w => by kernel_rfl, info_n (by kernel_rfl)⟩
theorem Tryz.z104 : (Tryz.prog.info? 104).map (·.zero) = some (some (.slice none 0 0)) := by kernel_rfl
instance : TyZ Tryz.prog 104 [.nil] := ⟨by obtain ⟨i, h1, h2⟩ := info_z Tryz.z104; exact ⟨i, _, h1, h2, rfl⟩⟩
instance : TyE Tryz.prog 104 [.l []] := ⟨by obtain ⟨i, h1, h2⟩ := info_z Tryz.z104; exact ⟨i, _, h1, h2, rfl⟩⟩
instance : TySl Tryz.prog 104 215 2 32 := ⟨Tryz.underlying104, info_s (z := .agg #[.int .i64 0, .slice none 0 0]) (by kernel_rfl) rfl, by decide⟩
-- 105: []laws.Payload
instance : TyN Tryz.prog 105 1 := ⟨info_n (by kernel_rfl)⟩
instance : TySc Tryz.prog 105 := ⟨fun w => by kernel_rfl, info_n (by kernel_rfl)⟩
theorem Tryz.z105 : (Tryz.prog.info? 105).map (·.zero) = some (some (.slice none 0 0)) := by kernel_rfl
instance : TyZ Tryz.prog 105 [.nil] := ⟨by obtain ⟨i, h1, h2⟩ := info_z Tryz.z105; exact ⟨i, _, h1, h2, rfl⟩⟩
instance : TyE Tryz.prog 105 [.l []] := ⟨by obtain ⟨i, h1, h2⟩ := info_z Tryz.z105; exact ⟨i, _, h1, h2, rfl⟩⟩
instance : TySl Tryz.prog 105 196 1 24 := ⟨Tryz.underlying105, info_s (z := .agg #[.slice none 0 0]) (by kernel_rfl) rfl, by decide⟩
-- 107: laws.ReceiveWindow
instance : TyN Tryz.prog 107 3 := ⟨info_n (by kernel_rfl)⟩
instance : TyAg Tryz.prog 107 3 := ⟨fun w => by kernel_rfl, info_n (by kernel_rfl)⟩
theorem Tryz.z107 : (Tryz.prog.info? 107).map (·.zero) = some (some (.agg #[.int .i64 0, .slice none 0 0, .slice none 0 0])) := by kernel_rfl
instance : TyZ Tryz.prog 107 [.d false (.i .i64 0), .nil, .nil] := ⟨by obtain ⟨i, h1, h2⟩ := info_z Tryz.z107; exact ⟨i, _, h1, h2, rfl⟩⟩
instance : TyE Tryz.prog 107 [.i .i64 0, .l [], .l []] := ⟨by obtain ⟨i, h1, h2⟩ := info_z Tryz.z107; exact ⟨i, _, h1, h2, rfl⟩⟩
instance : TyB Tryz.prog 107 [(0, 1), (1, 1), (2, 1)] := ⟨_, Tryz.underlying107, fun w => by kernel_rfl⟩
instance : TyF Tryz.prog 107 0 0 3 := ⟨_, _, Tryz.underlying107, rfl, rfl, rfl, info_f (n := 1) (by kernel_rfl) (by decide)⟩
instance : TyF Tryz.prog 107 1 1 104 := ⟨_, _, Tryz.underlying107, rfl, rfl, rfl, info_f (n := 1) (by kernel_rfl) (by decide)⟩
instance : TyF Tryz.prog 107 2 2 105 := ⟨_, _, Tryz.underlying107, rfl, rfl, rfl, info_f (n := 1) (by kernel_rfl) (by decide)⟩
-- 109: laws.Device
instance : TyN Tryz.prog 109 14 := ⟨info_n (by kernel_rfl)⟩
instance : TyAg Tryz.prog 109 14 := ⟨fun w => by kernel_rfl, info_n (by kernel_rfl)⟩
theorem Tryz.z109 : (Tryz.prog.info? 109).map (·.zero) = some (some (.agg #[.int .i64 0, .int .i64 0, .int .i64 0, .int .i64 0, .int .i64 0, .int .i64 0, .int .i64 0, .int .i64 0, .int .i64 0, .bool false, .int .i64 0, .int .i64 0, .slice none 0 0, .slice none 0 0])) := by kernel_rfl
instance : TyZ Tryz.prog 109 [.d false (.i .i64 0), .d false (.i .i64 0), .d false (.i .i64 0), .d false (.i .i64 0), .d false (.i .i64 0), .d false (.i .i64 0), .d false (.i .i64 0), .d false (.i .i64 0), .d false (.i .i64 0), .d false (.b false), .d false (.i .i64 0), .d false (.i .i64 0), .nil, .nil] := ⟨by obtain ⟨i, h1, h2⟩ := info_z Tryz.z109; exact ⟨i, _, h1, h2, rfl⟩⟩
instance : TyE Tryz.prog 109 [.i .i64 0, .i .i64 0, .i .i64 0, .i .i64 0, .i .i64 0, .i .i64 0, .i .i64 0, .i .i64 0, .i .i64 0, .b false, .i .i64 0, .i .i64 0, .l [], .l []] := ⟨by obtain ⟨i, h1, h2⟩ := info_z Tryz.z109; exact ⟨i, _, h1, h2, rfl⟩⟩
instance : TyB Tryz.prog 109 [(0, 4), (4, 1), (5, 1), (6, 1), (7, 1), (8, 1), (9, 1), (10, 1), (11, 3)] := ⟨_, Tryz.underlying109, fun w => by kernel_rfl⟩
instance : TyF Tryz.prog 109 0 0 103 := ⟨_, _, Tryz.underlying109, rfl, rfl, rfl, info_f (n := 4) (by kernel_rfl) (by decide)⟩
instance : TyF Tryz.prog 109 1 4 3 := ⟨_, _, Tryz.underlying109, rfl, rfl, rfl, info_f (n := 1) (by kernel_rfl) (by decide)⟩
instance : TyF Tryz.prog 109 2 5 3 := ⟨_, _, Tryz.underlying109, rfl, rfl, rfl, info_f (n := 1) (by kernel_rfl) (by decide)⟩
instance : TyF Tryz.prog 109 3 6 3 := ⟨_, _, Tryz.underlying109, rfl, rfl, rfl, info_f (n := 1) (by kernel_rfl) (by decide)⟩
instance : TyF Tryz.prog 109 4 7 3 := ⟨_, _, Tryz.underlying109, rfl, rfl, rfl, info_f (n := 1) (by kernel_rfl) (by decide)⟩
instance : TyF Tryz.prog 109 5 8 3 := ⟨_, _, Tryz.underlying109, rfl, rfl, rfl, info_f (n := 1) (by kernel_rfl) (by decide)⟩
instance : TyF Tryz.prog 109 6 9 4 := ⟨_, _, Tryz.underlying109, rfl, rfl, rfl, info_f (n := 1) (by kernel_rfl) (by decide)⟩
instance : TyF Tryz.prog 109 7 10 3 := ⟨_, _, Tryz.underlying109, rfl, rfl, rfl, info_f (n := 1) (by kernel_rfl) (by decide)⟩
instance : TyF Tryz.prog 109 8 11 107 := ⟨_, _, Tryz.underlying109, rfl, rfl, rfl, info_f (n := 3) (by kernel_rfl) (by decide)⟩
-- 112: laws.SubscriberRecord
instance : TyN Tryz.prog 112 4 := ⟨info_n (by kernel_rfl)⟩
instance : TyAg Tryz.prog 112 4 := ⟨fun w => by kernel_rfl, info_n (by kernel_rfl)⟩
theorem Tryz.z112 : (Tryz.prog.info? 112).map (·.zero) = some (some (.agg #[.int .i64 0, .int .i64 0, .int .i64 0, .int .i64 0])) := by kernel_rfl
instance : TyZ Tryz.prog 112 [.d false (.i .i64 0), .d false (.i .i64 0), .d false (.i .i64 0), .d false (.i .i64 0)] := ⟨by obtain ⟨i, h1, h2⟩ := info_z Tryz.z112; exact ⟨i, _, h1, h2, rfl⟩⟩
instance : TyE Tryz.prog 112 [.i .i64 0, .i .i64 0, .i .i64 0, .i .i64 0] := ⟨by obtain ⟨i, h1, h2⟩ := info_z Tryz.z112; exact ⟨i, _, h1, h2, rfl⟩⟩
instance : TyB Tryz.prog 112 [(0, 2), (2, 1), (3, 1)] := ⟨_, Tryz.underlying112, fun w => by kernel_rfl⟩
instance : TyF Tryz.prog 112 0 0 101 := ⟨_, _, Tryz.underlying112, rfl, rfl, rfl, info_f (n := 2) (by kernel_rfl) (by decide)⟩
instance : TyF Tryz.prog 112 1 2 3 := ⟨_, _, Tryz.underlying112, rfl, rfl, rfl, info_f (n := 1) (by kernel_rfl) (by decide)⟩
instance : TyF Tryz.prog 112 2 3 3 := ⟨_, _, Tryz.underlying112, rfl, rfl, rfl, info_f (n := 1) (by kernel_rfl) (by decide)⟩
-- 113: laws.Subscription
instance : TyN Tryz.prog 113 4 := ⟨info_n (by kernel_rfl)⟩
instance : TyAg Tryz.prog 113 4 := ⟨fun w => by kernel_rfl, info_n (by kernel_rfl)⟩
theorem Tryz.z113 : (Tryz.prog.info? 113).map (·.zero) = some (some (.agg #[.int .i64 0, .int .i64 0, .int .i64 0, .slice none 0 0])) := by kernel_rfl
instance : TyZ Tryz.prog 113 [.d false (.i .i64 0), .d false (.i .i64 0), .d false (.i .i64 0), .nil] := ⟨by obtain ⟨i, h1, h2⟩ := info_z Tryz.z113; exact ⟨i, _, h1, h2, rfl⟩⟩
instance : TyE Tryz.prog 113 [.i .i64 0, .i .i64 0, .i .i64 0, .l []] := ⟨by obtain ⟨i, h1, h2⟩ := info_z Tryz.z113; exact ⟨i, _, h1, h2, rfl⟩⟩
instance : TyB Tryz.prog 113 [(0, 1), (1, 1), (2, 1), (3, 1)] := ⟨_, Tryz.underlying113, fun w => by kernel_rfl⟩
instance : TyF Tryz.prog 113 0 0 3 := ⟨_, _, Tryz.underlying113, rfl, rfl, rfl, info_f (n := 1) (by kernel_rfl) (by decide)⟩
instance : TyF Tryz.prog 113 1 1 3 := ⟨_, _, Tryz.underlying113, rfl, rfl, rfl, info_f (n := 1) (by kernel_rfl) (by decide)⟩
instance : TyF Tryz.prog 113 2 2 3 := ⟨_, _, Tryz.underlying113, rfl, rfl, rfl, info_f (n := 1) (by kernel_rfl) (by decide)⟩
instance : TyF Tryz.prog 113 3 3 66 := ⟨_, _, Tryz.underlying113, rfl, rfl, rfl, info_f (n := 1) (by kernel_rfl) (by decide)⟩
-- 114: laws.AuthVector
instance : TyN Tryz.prog 114 5 := ⟨info_n (by kernel_rfl)⟩
instance : TyAg Tryz.prog 114 5 := ⟨fun w => by kernel_rfl, info_n (by kernel_rfl)⟩
theorem Tryz.z114 : (Tryz.prog.info? 114).map (·.zero) = some (some (.agg #[.int .i64 0, .int .i64 0, .int .i64 0, .int .i64 0, .int .i64 0])) := by kernel_rfl
instance : TyZ Tryz.prog 114 [.d false (.i .i64 0), .d false (.i .i64 0), .d false (.i .i64 0), .d false (.i .i64 0), .d false (.i .i64 0)] := ⟨by obtain ⟨i, h1, h2⟩ := info_z Tryz.z114; exact ⟨i, _, h1, h2, rfl⟩⟩
instance : TyE Tryz.prog 114 [.i .i64 0, .i .i64 0, .i .i64 0, .i .i64 0, .i .i64 0] := ⟨by obtain ⟨i, h1, h2⟩ := info_z Tryz.z114; exact ⟨i, _, h1, h2, rfl⟩⟩
instance : TyB Tryz.prog 114 [(0, 1), (1, 1), (2, 1), (3, 1), (4, 1)] := ⟨_, Tryz.underlying114, fun w => by kernel_rfl⟩
instance : TyF Tryz.prog 114 0 0 3 := ⟨_, _, Tryz.underlying114, rfl, rfl, rfl, info_f (n := 1) (by kernel_rfl) (by decide)⟩
instance : TyF Tryz.prog 114 1 1 3 := ⟨_, _, Tryz.underlying114, rfl, rfl, rfl, info_f (n := 1) (by kernel_rfl) (by decide)⟩
instance : TyF Tryz.prog 114 2 2 3 := ⟨_, _, Tryz.underlying114, rfl, rfl, rfl, info_f (n := 1) (by kernel_rfl) (by decide)⟩
instance : TyF Tryz.prog 114 3 3 3 := ⟨_, _, Tryz.underlying114, rfl, rfl, rfl, info_f (n := 1) (by kernel_rfl) (by decide)⟩
instance : TyF Tryz.prog 114 4 4 3 := ⟨_, _, Tryz.underlying114, rfl, rfl, rfl, info_f (n := 1) (by kernel_rfl) (by decide)⟩
-- 115: laws.PagingState
instance : TyN Tryz.prog 115 3 := ⟨info_n (by kernel_rfl)⟩
instance : TyAg Tryz.prog 115 3 := ⟨fun w => by kernel_rfl, info_n (by kernel_rfl)⟩
theorem Tryz.z115 : (Tryz.prog.info? 115).map (·.zero) = some (some (.agg #[.int .i64 0, .int .i64 0, .int .i64 0])) := by kernel_rfl
instance : TyZ Tryz.prog 115 [.d false (.i .i64 0), .d false (.i .i64 0), .d false (.i .i64 0)] := ⟨by obtain ⟨i, h1, h2⟩ := info_z Tryz.z115; exact ⟨i, _, h1, h2, rfl⟩⟩
instance : TyE Tryz.prog 115 [.i .i64 0, .i .i64 0, .i .i64 0] := ⟨by obtain ⟨i, h1, h2⟩ := info_z Tryz.z115; exact ⟨i, _, h1, h2, rfl⟩⟩
instance : TyB Tryz.prog 115 [(0, 1), (1, 1), (2, 1)] := ⟨_, Tryz.underlying115, fun w => by kernel_rfl⟩
instance : TyF Tryz.prog 115 0 0 3 := ⟨_, _, Tryz.underlying115, rfl, rfl, rfl, info_f (n := 1) (by kernel_rfl) (by decide)⟩
instance : TyF Tryz.prog 115 1 1 3 := ⟨_, _, Tryz.underlying115, rfl, rfl, rfl, info_f (n := 1) (by kernel_rfl) (by decide)⟩
instance : TyF Tryz.prog 115 2 2 3 := ⟨_, _, Tryz.underlying115, rfl, rfl, rfl, info_f (n := 1) (by kernel_rfl) (by decide)⟩
-- 117: laws.SendWindow
instance : TyN Tryz.prog 117 2 := ⟨info_n (by kernel_rfl)⟩
instance : TyAg Tryz.prog 117 2 := ⟨fun w => by kernel_rfl, info_n (by kernel_rfl)⟩
theorem Tryz.z117 : (Tryz.prog.info? 117).map (·.zero) = some (some (.agg #[.int .i64 0, .slice none 0 0])) := by kernel_rfl
instance : TyZ Tryz.prog 117 [.d false (.i .i64 0), .nil] := ⟨by obtain ⟨i, h1, h2⟩ := info_z Tryz.z117; exact ⟨i, _, h1, h2, rfl⟩⟩
instance : TyE Tryz.prog 117 [.i .i64 0, .l []] := ⟨by obtain ⟨i, h1, h2⟩ := info_z Tryz.z117; exact ⟨i, _, h1, h2, rfl⟩⟩
instance : TyB Tryz.prog 117 [(0, 1), (1, 1)] := ⟨_, Tryz.underlying117, fun w => by kernel_rfl⟩
instance : TyF Tryz.prog 117 0 0 3 := ⟨_, _, Tryz.underlying117, rfl, rfl, rfl, info_f (n := 1) (by kernel_rfl) (by decide)⟩
instance : TyF Tryz.prog 117 1 1 104 := ⟨_, _, Tryz.underlying117, rfl, rfl, rfl, info_f (n := 1) (by kernel_rfl) (by decide)⟩
-- 118: laws.Quota
instance : TyN Tryz.prog 118 3 := ⟨info_n (by kernel_rfl)⟩
instance : TyAg Tryz.prog 118 3 := ⟨fun w => by kernel_rfl, info_n (by kernel_rfl)⟩
theorem Tryz.z118 : (Tryz.prog.info? 118).map (·.zero) = some (some (.agg #[.int .i64 0, .int .i64 0, .int .i64 0])) := by kernel_rfl
instance : TyZ Tryz.prog 118 [.d false (.i .i64 0), .d false (.i .i64 0), .d false (.i .i64 0)] := ⟨by obtain ⟨i, h1, h2⟩ := info_z Tryz.z118; exact ⟨i, _, h1, h2, rfl⟩⟩
instance : TyE Tryz.prog 118 [.i .i64 0, .i .i64 0, .i .i64 0] := ⟨by obtain ⟨i, h1, h2⟩ := info_z Tryz.z118; exact ⟨i, _, h1, h2, rfl⟩⟩
instance : TyB Tryz.prog 118 [(0, 1), (1, 1), (2, 1)] := ⟨_, Tryz.underlying118, fun w => by kernel_rfl⟩
instance : TyF Tryz.prog 118 0 0 3 := ⟨_, _, Tryz.underlying118, rfl, rfl, rfl, info_f (n := 1) (by kernel_rfl) (by decide)⟩
instance : TyF Tryz.prog 118 1 1 3 := ⟨_, _, Tryz.underlying118, rfl, rfl, rfl, info_f (n := 1) (by kernel_rfl) (by decide)⟩
instance : TyF Tryz.prog 118 2 2 3 := ⟨_, _, Tryz.underlying118, rfl, rfl, rfl, info_f (n := 1) (by kernel_rfl) (by decide)⟩
-- 120: laws.Session
instance : TyN Tryz.prog 120 30 := ⟨info_n (by kernel_rfl)⟩
instance : TyAg Tryz.prog 120 30 := ⟨fun w => by kernel_rfl, info_n (by kernel_rfl)⟩
theorem Tryz.z120 : (Tryz.prog.info? 120).map (·.zero) = some (some (.agg #[.int .i64 0, .int .i64 0, .int .i64 0, .int .i64 0, .int .i64 0, .int .i64 0, .int .i64 0, .slice none 0 0, .int .i64 0, .int .i64 0, .int .i64 0, .int .i64 0, .int .i64 0, .int .i64 0, .int .i64 0, .int .i64 0, .int .i64 0, .int .i64 0, .int .i64 0, .int .i64 0, .int .i64 0, .int .i64 0, .int .i64 0, .slice none 0 0, .int .i64 0, .slice none 0 0, .int .i64 0, .int .i64 0, .int .i64 0, .int .i64 0])) := by kernel_rfl
instance : TyZ Tryz.prog 120 [.d false (.i .i64 0), .d false (.i .i64 0), .d false (.i .i64 0), .d false (.i .i64 0), .d false (.i .i64 0), .d false (.i .i64 0), .d false (.i .i64 0), .nil, .d false (.i .i64 0), .d false (.i .i64 0), .d false (.i .i64 0), .d false (.i .i64 0), .d false (.i .i64 0), .d false (.i .i64 0), .d false (.i .i64 0), .d false (.i .i64 0), .d false (.i .i64 0), .d false (.i .i64 0), .d false (.i .i64 0), .d false (.i .i64 0), .d false (.i .i64 0), .d false (.i .i64 0), .d false (.i .i64 0), .nil, .d false (.i .i64 0), .nil, .d false (.i .i64 0), .d false (.i .i64 0), .d false (.i .i64 0), .d false (.i .i64 0)] := ⟨by obtain ⟨i, h1, h2⟩ := info_z Tryz.z120; exact ⟨i, _, h1, h2, rfl⟩⟩
instance : TyE Tryz.prog 120 [.i .i64 0, .i .i64 0, .i .i64 0, .i .i64 0, .i .i64 0, .i .i64 0, .i .i64 0, .l [], .i .i64 0, .i .i64 0, .i .i64 0, .i .i64 0, .i .i64 0, .i .i64 0, .i .i64 0, .i .i64 0, .i .i64 0, .i .i64 0, .i .i64 0, .i .i64 0, .i .i64 0, .i .i64 0, .i .i64 0, .l [], .i .i64 0, .l [], .i .i64 0, .i .i64 0, .i .i64 0, .i .i64 0] := ⟨by obtain ⟨i, h1, h2⟩ := info_z Tryz.z120; exact ⟨i, _, h1, h2, rfl⟩⟩
instance : TyB Tryz.prog 120 [(0, 4), (4, 4), (8, 1), (9, 5), (14, 1), (15, 1), (16, 1), (17, 1), (18, 1), (19, 1), (20, 3), (23, 1), (24, 2), (26, 1), (27, 3)] := ⟨_, Tryz.underlying120, fun w => by kernel_rfl⟩
instance : TyF Tryz.prog 120 0 0 112 := ⟨_, _, Tryz.underlying120, rfl, rfl, rfl, info_f (n := 4) (by kernel_rfl) (by decide)⟩
instance : TyF Tryz.prog 120 1 4 113 := ⟨_, _, Tryz.underlying120, rfl, rfl, rfl, info_f (n := 4) (by kernel_rfl) (by decide)⟩
instance : TyF Tryz.prog 120 2 8 3 := ⟨_, _, Tryz.underlying120, rfl, rfl, rfl, info_f (n := 1) (by kernel_rfl) (by decide)⟩
instance : TyF Tryz.prog 120 3 9 114 := ⟨_, _, Tryz.underlying120, rfl, rfl, rfl, info_f (n := 5) (by kernel_rfl) (by decide)⟩
instance : TyF Tryz.prog 120 4 14 3 := ⟨_, _, Tryz.underlying120, rfl, rfl, rfl, info_f (n := 1) (by kernel_rfl) (by decide)⟩
instance : TyF Tryz.prog 120 5 15 3 := ⟨_, _, Tryz.underlying120, rfl, rfl, rfl, info_f (n := 1) (by kernel_rfl) (by decide)⟩
instance : TyF Tryz.prog 120 6 16 3 := ⟨_, _, Tryz.underlying120, rfl, rfl, rfl, info_f (n := 1) (by kernel_rfl) (by decide)⟩
instance : TyF Tryz.prog 120 7 17 3 := ⟨_, _, Tryz.underlying120, rfl, rfl, rfl, info_f (n := 1) (by kernel_rfl) (by decide)⟩
instance : TyF Tryz.prog 120 8 18 3 := ⟨_, _, Tryz.underlying120, rfl, rfl, rfl, info_f (n := 1) (by kernel_rfl) (by decide)⟩
instance : TyF Tryz.prog 120 9 19 3 := ⟨_, _, Tryz.underlying120, rfl, rfl, rfl, info_f (n := 1) (by kernel_rfl) (by decide)⟩
instance : TyF Tryz.prog 120 10 20 115 := ⟨_, _, Tryz.underlying120, rfl, rfl, rfl, info_f (n := 3) (by kernel_rfl) (by decide)⟩
instance : TyF Tryz.prog 120 11 23 105 := ⟨_, _, Tryz.underlying120, rfl, rfl, rfl, info_f (n := 1) (by kernel_rfl) (by decide)⟩
instance : TyF Tryz.prog 120 12 24 117 := ⟨_, _, Tryz.underlying120, rfl, rfl, rfl, info_f (n := 2) (by kernel_rfl) (by decide)⟩
instance : TyF Tryz.prog 120 13 26 3 := ⟨_, _, Tryz.underlying120, rfl, rfl, rfl, info_f (n := 1) (by kernel_rfl) (by decide)⟩
instance : TyF Tryz.prog 120 14 27 118 := ⟨_, _, Tryz.underlying120, rfl, rfl, rfl, info_f (n := 3) (by kernel_rfl) (by decide)⟩
-- 122: []laws.Reservation
instance : TyN Tryz.prog 122 1 := ⟨info_n (by kernel_rfl)⟩
instance : TySc Tryz.prog 122 := ⟨fun w => by kernel_rfl, info_n (by kernel_rfl)⟩
theorem Tryz.z122 : (Tryz.prog.info? 122).map (·.zero) = some (some (.slice none 0 0)) := by kernel_rfl
instance : TyZ Tryz.prog 122 [.nil] := ⟨by obtain ⟨i, h1, h2⟩ := info_z Tryz.z122; exact ⟨i, _, h1, h2, rfl⟩⟩
instance : TyE Tryz.prog 122 [.l []] := ⟨by obtain ⟨i, h1, h2⟩ := info_z Tryz.z122; exact ⟨i, _, h1, h2, rfl⟩⟩
instance : TySl Tryz.prog 122 205 2 16 := ⟨Tryz.underlying122, info_s (z := .agg #[.int .i64 0, .int .i64 0]) (by kernel_rfl) rfl, by decide⟩
-- 124: laws.Account
instance : TyN Tryz.prog 124 4 := ⟨info_n (by kernel_rfl)⟩
instance : TyAg Tryz.prog 124 4 := ⟨fun w => by kernel_rfl, info_n (by kernel_rfl)⟩
theorem Tryz.z124 : (Tryz.prog.info? 124).map (·.zero) = some (some (.agg #[.int .i64 0, .int .i64 0, .int .i64 0, .slice none 0 0])) := by kernel_rfl
instance : TyZ Tryz.prog 124 [.d false (.i .i64 0), .d false (.i .i64 0), .d false (.i .i64 0), .nil] := ⟨by obtain ⟨i, h1, h2⟩ := info_z Tryz.z124; exact ⟨i, _, h1, h2, rfl⟩⟩
instance : TyE Tryz.prog 124 [.i .i64 0, .i .i64 0, .i .i64 0, .l []] := ⟨by obtain ⟨i, h1, h2⟩ := info_z Tryz.z124; exact ⟨i, _, h1, h2, rfl⟩⟩
instance : TyB Tryz.prog 124 [(0, 1), (1, 1), (2, 1), (3, 1)] := ⟨_, Tryz.underlying124, fun w => by kernel_rfl⟩
instance : TyF Tryz.prog 124 0 0 3 := ⟨_, _, Tryz.underlying124, rfl, rfl, rfl, info_f (n := 1) (by kernel_rfl) (by decide)⟩
instance : TyF Tryz.prog 124 1 1 3 := ⟨_, _, Tryz.underlying124, rfl, rfl, rfl, info_f (n := 1) (by kernel_rfl) (by decide)⟩
instance : TyF Tryz.prog 124 2 2 3 := ⟨_, _, Tryz.underlying124, rfl, rfl, rfl, info_f (n := 1) (by kernel_rfl) (by decide)⟩
instance : TyF Tryz.prog 124 3 3 122 := ⟨_, _, Tryz.underlying124, rfl, rfl, rfl, info_f (n := 1) (by kernel_rfl) (by decide)⟩
-- 127: laws.Signal
instance : TyN Tryz.prog 127 11 := ⟨info_n (by kernel_rfl)⟩
instance : TyAg Tryz.prog 127 11 := ⟨fun w => by kernel_rfl, info_n (by kernel_rfl)⟩
theorem Tryz.z127 : (Tryz.prog.info? 127).map (·.zero) = some (some (.agg #[.int .i64 0, .int .i64 0, .int .i64 0, .int .i64 0, .int .i64 0, .int .i64 0, .int .i64 0, .int .i64 0, .int .i64 0, .int .i64 0, .int .i64 0])) := by kernel_rfl
instance : TyZ Tryz.prog 127 [.d false (.i .i64 0), .d false (.i .i64 0), .d false (.i .i64 0), .d false (.i .i64 0), .d false (.i .i64 0), .d false (.i .i64 0), .d false (.i .i64 0), .d false (.i .i64 0), .d false (.i .i64 0), .d false (.i .i64 0), .d false (.i .i64 0)] := ⟨by obtain ⟨i, h1, h2⟩ := info_z Tryz.z127; exact ⟨i, _, h1, h2, rfl⟩⟩
instance : TyE Tryz.prog 127 [.i .i64 0, .i .i64 0, .i .i64 0, .i .i64 0, .i .i64 0, .i .i64 0, .i .i64 0, .i .i64 0, .i .i64 0, .i .i64 0, .i .i64 0] := ⟨by obtain ⟨i, h1, h2⟩ := info_z Tryz.z127; exact ⟨i, _, h1, h2, rfl⟩⟩
instance : TyB Tryz.prog 127 [(0, 1), (1, 1), (2, 1), (3, 1), (4, 1), (5, 5), (10, 1)] := ⟨_, Tryz.underlying127, fun w => by kernel_rfl⟩
instance : TyF Tryz.prog 127 0 0 3 := ⟨_, _, Tryz.underlying127, rfl, rfl, rfl, info_f (n := 1) (by kernel_rfl) (by decide)⟩
instance : TyF Tryz.prog 127 1 1 3 := ⟨_, _, Tryz.underlying127, rfl, rfl, rfl, info_f (n := 1) (by kernel_rfl) (by decide)⟩
instance : TyF Tryz.prog 127 2 2 3 := ⟨_, _, Tryz.underlying127, rfl, rfl, rfl, info_f (n := 1) (by kernel_rfl) (by decide)⟩
instance : TyF Tryz.prog 127 3 3 3 := ⟨_, _, Tryz.underlying127, rfl, rfl, rfl, info_f (n := 1) (by kernel_rfl) (by decide)⟩
instance : TyF Tryz.prog 127 4 4 3 := ⟨_, _, Tryz.underlying127, rfl, rfl, rfl, info_f (n := 1) (by kernel_rfl) (by decide)⟩
instance : TyF Tryz.prog 127 5 5 114 := ⟨_, _, Tryz.underlying127, rfl, rfl, rfl, info_f (n := 5) (by kernel_rfl) (by decide)⟩
instance : TyF Tryz.prog 127 6 10 3 := ⟨_, _, Tryz.underlying127, rfl, rfl, rfl, info_f (n := 1) (by kernel_rfl) (by decide)⟩
-- 128: []uint8
instance : TyN Tryz.prog 128 1 := ⟨info_n (by kernel_rfl)⟩
instance : TySc Tryz.prog 128 := ⟨fun w => by kernel_rfl, info_n (by kernel_rfl)⟩
theorem Tryz.z128 : (Tryz.prog.info? 128).map (·.zero) = some (some (.slice none 0 0)) := by kernel_rfl
instance : TyZ Tryz.prog 128 [.nil] := ⟨by obtain ⟨i, h1, h2⟩ := info_z Tryz.z128; exact ⟨i, _, h1, h2, rfl⟩⟩
instance : TyE Tryz.prog 128 [.l []] := ⟨by obtain ⟨i, h1, h2⟩ := info_z Tryz.z128; exact ⟨i, _, h1, h2, rfl⟩⟩
instance : TySl Tryz.prog 128 5 1 1 := ⟨Tryz.underlying128, info_s (z := .int .u8 0) (by kernel_rfl) rfl, by decide⟩
-- 130: laws.SecuredMessage
instance : TyN Tryz.prog 130 4 := ⟨info_n (by kernel_rfl)⟩
instance : TyAg Tryz.prog 130 4 := ⟨fun w => by kernel_rfl, info_n (by kernel_rfl)⟩
theorem Tryz.z130 : (Tryz.prog.info? 130).map (·.zero) = some (some (.agg #[.int .i64 0, .int .i64 0, .slice none 0 0, .int .i64 0])) := by kernel_rfl
instance : TyZ Tryz.prog 130 [.d false (.i .i64 0), .d false (.i .i64 0), .nil, .d false (.i .i64 0)] := ⟨by obtain ⟨i, h1, h2⟩ := info_z Tryz.z130; exact ⟨i, _, h1, h2, rfl⟩⟩
instance : TyE Tryz.prog 130 [.i .i64 0, .i .i64 0, .l [], .i .i64 0] := ⟨by obtain ⟨i, h1, h2⟩ := info_z Tryz.z130; exact ⟨i, _, h1, h2, rfl⟩⟩
instance : TyB Tryz.prog 130 [(0, 1), (1, 1), (2, 1), (3, 1)] := ⟨_, Tryz.underlying130, fun w => by kernel_rfl⟩
instance : TyF Tryz.prog 130 0 0 3 := ⟨_, _, Tryz.underlying130, rfl, rfl, rfl, info_f (n := 1) (by kernel_rfl) (by decide)⟩
instance : TyF Tryz.prog 130 1 1 3 := ⟨_, _, Tryz.underlying130, rfl, rfl, rfl, info_f (n := 1) (by kernel_rfl) (by decide)⟩
instance : TyF Tryz.prog 130 2 2 128 := ⟨_, _, Tryz.underlying130, rfl, rfl, rfl, info_f (n := 1) (by kernel_rfl) (by decide)⟩
instance : TyF Tryz.prog 130 3 3 3 := ⟨_, _, Tryz.underlying130, rfl, rfl, rfl, info_f (n := 1) (by kernel_rfl) (by decide)⟩
-- 132: laws.RadioPacket
instance : TyN Tryz.prog 132 6 := ⟨info_n (by kernel_rfl)⟩
instance : TyAg Tryz.prog 132 6 := ⟨fun w => by kernel_rfl, info_n (by kernel_rfl)⟩
theorem Tryz.z132 : (Tryz.prog.info? 132).map (·.zero) = some (some (.agg #[.int .i64 0, .int .i64 0, .int .i64 0, .int .i64 0, .slice none 0 0, .int .i64 0])) := by kernel_rfl
instance : TyZ Tryz.prog 132 [.d false (.i .i64 0), .d false (.i .i64 0), .d false (.i .i64 0), .d false (.i .i64 0), .nil, .d false (.i .i64 0)] := ⟨by obtain ⟨i, h1, h2⟩ := info_z Tryz.z132; exact ⟨i, _, h1, h2, rfl⟩⟩
instance : TyE Tryz.prog 132 [.i .i64 0, .i .i64 0, .i .i64 0, .i .i64 0, .l [], .i .i64 0] := ⟨by obtain ⟨i, h1, h2⟩ := info_z Tryz.z132; exact ⟨i, _, h1, h2, rfl⟩⟩
instance : TyB Tryz.prog 132 [(0, 1), (1, 1), (2, 4)] := ⟨_, Tryz.underlying132, fun w => by kernel_rfl⟩
instance : TyF Tryz.prog 132 0 0 3 := ⟨_, _, Tryz.underlying132, rfl, rfl, rfl, info_f (n := 1) (by kernel_rfl) (by decide)⟩
instance : TyF Tryz.prog 132 1 1 3 := ⟨_, _, Tryz.underlying132, rfl, rfl, rfl, info_f (n := 1) (by kernel_rfl) (by decide)⟩
instance : TyF Tryz.prog 132 2 2 130 := ⟨_, _, Tryz.underlying132, rfl, rfl, rfl, info_f (n := 4) (by kernel_rfl) (by decide)⟩
-- 134: laws.Flight
instance : TyN Tryz.prog 134 21 := ⟨info_n (by kernel_rfl)⟩
instance : TyAg Tryz.prog 134 21 := ⟨fun w => by kernel_rfl, info_n (by kernel_rfl)⟩
theorem Tryz.z134 : (Tryz.prog.info? 134).map (·.zero) = some (some (.agg #[.int .i64 0, .bool false, .bool false, .int .i64 0, .int .i64 0, .int .i64 0, .int .i64 0, .int .i64 0, .int .i64 0, .int .i64 0, .int .i64 0, .int .i64 0, .int .i64 0, .int .i64 0, .int .i64 0, .int .i64 0, .int .i64 0, .int .i64 0, .int .i64 0, .slice none 0 0, .int .i64 0])) := by kernel_rfl
instance : TyZ Tryz.prog 134 [.d false (.i .i64 0), .d false (.b false), .d false (.b false), .d false (.i .i64 0), .d false (.i .i64 0), .d false (.i .i64 0), .d false (.i .i64 0), .d false (.i .i64 0), .d false (.i .i64 0), .d false (.i .i64 0), .d false (.i .i64 0), .d false (.i .i64 0), .d false (.i .i64 0), .d false (.i .i64 0), .d false (.i .i64 0), .d false (.i .i64 0), .d false (.i .i64 0), .d false (.i .i64 0), .d false (.i .i64 0), .nil, .d false (.i .i64 0)] := ⟨by obtain ⟨i, h1, h2⟩ := info_z Tryz.z134; exact ⟨i, _, h1, h2, rfl⟩⟩
instance : TyE Tryz.prog 134 [.i .i64 0, .b false, .b false, .i .i64 0, .i .i64 0, .i .i64 0, .i .i64 0, .i .i64 0, .i .i64 0, .i .i64 0, .i .i64 0, .i .i64 0, .i .i64 0, .i .i64 0, .i .i64 0, .i .i64 0, .i .i64 0, .i .i64 0, .i .i64 0, .l [], .i .i64 0] := ⟨by obtain ⟨i, h1, h2⟩ := info_z Tryz.z134; exact ⟨i, _, h1, h2, rfl⟩⟩
instance : TyB Tryz.prog 134 [(0, 1), (1, 1), (2, 1), (3, 1), (4, 11), (15, 6)] := ⟨_, Tryz.underlying134, fun w => by kernel_rfl⟩
instance : TyF Tryz.prog 134 0 0 3 := ⟨_, _, Tryz.underlying134, rfl, rfl, rfl, info_f (n := 1) (by kernel_rfl) (by decide)⟩
instance : TyF Tryz.prog 134 1 1 4 := ⟨_, _, Tryz.underlying134, rfl, rfl, rfl, info_f (n := 1) (by kernel_rfl) (by decide)⟩
instance : TyF Tryz.prog 134 2 2 4 := ⟨_, _, Tryz.underlying134, rfl, rfl, rfl, info_f (n := 1) (by kernel_rfl) (by decide)⟩
instance : TyF Tryz.prog 134 3 3 3 := ⟨_, _, Tryz.underlying134, rfl, rfl, rfl, info_f (n := 1) (by kernel_rfl) (by decide)⟩
instance : TyF Tryz.prog 134 4 4 127 := ⟨_, _, Tryz.underlying134, rfl, rfl, rfl, info_f (n := 11) (by kernel_rfl) (by decide)⟩
instance : TyF Tryz.prog 134 5 15 132 := ⟨_, _, Tryz.underlying134, rfl, rfl, rfl, info_f (n := 6) (by kernel_rfl) (by decide)⟩
-- 142: impl.Signal
instance : TyN Tryz.prog 142 11 := ⟨info_n (by kernel_rfl)⟩
instance : TyAg Tryz.prog 142 11 := ⟨fun w => by kernel_rfl, info_n (by kernel_rfl)⟩
theorem Tryz.z142 : (Tryz.prog.info? 142).map (·.zero) = some (some (.agg #[.int .i64 0, .int .i64 0, .int .i64 0, .int .i64 0, .int .i64 0, .int .i64 0, .int .i64 0, .int .i64 0, .int .i64 0, .int .i64 0, .int .i64 0])) := by kernel_rfl
instance : TyZ Tryz.prog 142 [.d false (.i .i64 0), .d false (.i .i64 0), .d false (.i .i64 0), .d false (.i .i64 0), .d false (.i .i64 0), .d false (.i .i64 0), .d false (.i .i64 0), .d false (.i .i64 0), .d false (.i .i64 0), .d false (.i .i64 0), .d false (.i .i64 0)] := ⟨by obtain ⟨i, h1, h2⟩ := info_z Tryz.z142; exact ⟨i, _, h1, h2, rfl⟩⟩
instance : TyE Tryz.prog 142 [.i .i64 0, .i .i64 0, .i .i64 0, .i .i64 0, .i .i64 0, .i .i64 0, .i .i64 0, .i .i64 0, .i .i64 0, .i .i64 0, .i .i64 0] := ⟨by obtain ⟨i, h1, h2⟩ := info_z Tryz.z142; exact ⟨i, _, h1, h2, rfl⟩⟩
instance : TyB Tryz.prog 142 [(0, 1), (1, 1), (2, 1), (3, 1), (4, 1), (5, 5), (10, 1)] := ⟨_, Tryz.underlying142, fun w => by kernel_rfl⟩
instance : TyF Tryz.prog 142 0 0 3 := ⟨_, _, Tryz.underlying142, rfl, rfl, rfl, info_f (n := 1) (by kernel_rfl) (by decide)⟩
instance : TyF Tryz.prog 142 1 1 3 := ⟨_, _, Tryz.underlying142, rfl, rfl, rfl, info_f (n := 1) (by kernel_rfl) (by decide)⟩
instance : TyF Tryz.prog 142 2 2 3 := ⟨_, _, Tryz.underlying142, rfl, rfl, rfl, info_f (n := 1) (by kernel_rfl) (by decide)⟩
instance : TyF Tryz.prog 142 3 3 3 := ⟨_, _, Tryz.underlying142, rfl, rfl, rfl, info_f (n := 1) (by kernel_rfl) (by decide)⟩
instance : TyF Tryz.prog 142 4 4 3 := ⟨_, _, Tryz.underlying142, rfl, rfl, rfl, info_f (n := 1) (by kernel_rfl) (by decide)⟩
instance : TyF Tryz.prog 142 5 5 70 := ⟨_, _, Tryz.underlying142, rfl, rfl, rfl, info_f (n := 5) (by kernel_rfl) (by decide)⟩
instance : TyF Tryz.prog 142 6 10 3 := ⟨_, _, Tryz.underlying142, rfl, rfl, rfl, info_f (n := 1) (by kernel_rfl) (by decide)⟩
-- 143: impl.SecuredMessage
instance : TyN Tryz.prog 143 4 := ⟨info_n (by kernel_rfl)⟩
instance : TyAg Tryz.prog 143 4 := ⟨fun w => by kernel_rfl, info_n (by kernel_rfl)⟩
theorem Tryz.z143 : (Tryz.prog.info? 143).map (·.zero) = some (some (.agg #[.int .i64 0, .int .i64 0, .slice none 0 0, .int .i64 0])) := by kernel_rfl
instance : TyZ Tryz.prog 143 [.d false (.i .i64 0), .d false (.i .i64 0), .nil, .d false (.i .i64 0)] := ⟨by obtain ⟨i, h1, h2⟩ := info_z Tryz.z143; exact ⟨i, _, h1, h2, rfl⟩⟩
instance : TyE Tryz.prog 143 [.i .i64 0, .i .i64 0, .l [], .i .i64 0] := ⟨by obtain ⟨i, h1, h2⟩ := info_z Tryz.z143; exact ⟨i, _, h1, h2, rfl⟩⟩
instance : TyB Tryz.prog 143 [(0, 1), (1, 1), (2, 1), (3, 1)] := ⟨_, Tryz.underlying143, fun w => by kernel_rfl⟩
instance : TyF Tryz.prog 143 0 0 3 := ⟨_, _, Tryz.underlying143, rfl, rfl, rfl, info_f (n := 1) (by kernel_rfl) (by decide)⟩
instance : TyF Tryz.prog 143 1 1 3 := ⟨_, _, Tryz.underlying143, rfl, rfl, rfl, info_f (n := 1) (by kernel_rfl) (by decide)⟩
instance : TyF Tryz.prog 143 2 2 128 := ⟨_, _, Tryz.underlying143, rfl, rfl, rfl, info_f (n := 1) (by kernel_rfl) (by decide)⟩
instance : TyF Tryz.prog 143 3 3 3 := ⟨_, _, Tryz.underlying143, rfl, rfl, rfl, info_f (n := 1) (by kernel_rfl) (by decide)⟩
-- 145: impl.RadioPacket
instance : TyN Tryz.prog 145 6 := ⟨info_n (by kernel_rfl)⟩
instance : TyAg Tryz.prog 145 6 := ⟨fun w => by kernel_rfl, info_n (by kernel_rfl)⟩
theorem Tryz.z145 : (Tryz.prog.info? 145).map (·.zero) = some (some (.agg #[.int .i64 0, .int .i64 0, .int .i64 0, .int .i64 0, .slice none 0 0, .int .i64 0])) := by kernel_rfl
instance : TyZ Tryz.prog 145 [.d false (.i .i64 0), .d false (.i .i64 0), .d false (.i .i64 0), .d false (.i .i64 0), .nil, .d false (.i .i64 0)] := ⟨by obtain ⟨i, h1, h2⟩ := info_z Tryz.z145; exact ⟨i, _, h1, h2, rfl⟩⟩
instance : TyE Tryz.prog 145 [.i .i64 0, .i .i64 0, .i .i64 0, .i .i64 0, .l [], .i .i64 0] := ⟨by obtain ⟨i, h1, h2⟩ := info_z Tryz.z145; exact ⟨i, _, h1, h2, rfl⟩⟩
instance : TyB Tryz.prog 145 [(0, 1), (1, 1), (2, 4)] := ⟨_, Tryz.underlying145, fun w => by kernel_rfl⟩
instance : TyF Tryz.prog 145 0 0 3 := ⟨_, _, Tryz.underlying145, rfl, rfl, rfl, info_f (n := 1) (by kernel_rfl) (by decide)⟩
instance : TyF Tryz.prog 145 1 1 3 := ⟨_, _, Tryz.underlying145, rfl, rfl, rfl, info_f (n := 1) (by kernel_rfl) (by decide)⟩
instance : TyF Tryz.prog 145 2 2 143 := ⟨_, _, Tryz.underlying145, rfl, rfl, rfl, info_f (n := 4) (by kernel_rfl) (by decide)⟩
-- 147: impl.Flight
instance : TyN Tryz.prog 147 21 := ⟨info_n (by kernel_rfl)⟩
instance : TyAg Tryz.prog 147 21 := ⟨fun w => by kernel_rfl, info_n (by kernel_rfl)⟩
theorem Tryz.z147 : (Tryz.prog.info? 147).map (·.zero) = some (some (.agg #[.int .i64 0, .bool false, .bool false, .int .i64 0, .int .i64 0, .int .i64 0, .int .i64 0, .int .i64 0, .int .i64 0, .int .i64 0, .int .i64 0, .int .i64 0, .int .i64 0, .int .i64 0, .int .i64 0, .int .i64 0, .int .i64 0, .int .i64 0, .int .i64 0, .slice none 0 0, .int .i64 0])) := by kernel_rfl
instance : TyZ Tryz.prog 147 [.d false (.i .i64 0), .d false (.b false), .d false (.b false), .d false (.i .i64 0), .d false (.i .i64 0), .d false (.i .i64 0), .d false (.i .i64 0), .d false (.i .i64 0), .d false (.i .i64 0), .d false (.i .i64 0), .d false (.i .i64 0), .d false (.i .i64 0), .d false (.i .i64 0), .d false (.i .i64 0), .d false (.i .i64 0), .d false (.i .i64 0), .d false (.i .i64 0), .d false (.i .i64 0), .d false (.i .i64 0), .nil, .d false (.i .i64 0)] := ⟨by obtain ⟨i, h1, h2⟩ := info_z Tryz.z147; exact ⟨i, _, h1, h2, rfl⟩⟩
instance : TyE Tryz.prog 147 [.i .i64 0, .b false, .b false, .i .i64 0, .i .i64 0, .i .i64 0, .i .i64 0, .i .i64 0, .i .i64 0, .i .i64 0, .i .i64 0, .i .i64 0, .i .i64 0, .i .i64 0, .i .i64 0, .i .i64 0, .i .i64 0, .i .i64 0, .i .i64 0, .l [], .i .i64 0] := ⟨by obtain ⟨i, h1, h2⟩ := info_z Tryz.z147; exact ⟨i, _, h1, h2, rfl⟩⟩
instance : TyB Tryz.prog 147 [(0, 1), (1, 1), (2, 1), (3, 1), (4, 11), (15, 6)] := ⟨_, Tryz.underlying147, fun w => by kernel_rfl⟩
instance : TyF Tryz.prog 147 0 0 3 := ⟨_, _, Tryz.underlying147, rfl, rfl, rfl, info_f (n := 1) (by kernel_rfl) (by decide)⟩
instance : TyF Tryz.prog 147 1 1 4 := ⟨_, _, Tryz.underlying147, rfl, rfl, rfl, info_f (n := 1) (by kernel_rfl) (by decide)⟩
instance : TyF Tryz.prog 147 2 2 4 := ⟨_, _, Tryz.underlying147, rfl, rfl, rfl, info_f (n := 1) (by kernel_rfl) (by decide)⟩
instance : TyF Tryz.prog 147 3 3 3 := ⟨_, _, Tryz.underlying147, rfl, rfl, rfl, info_f (n := 1) (by kernel_rfl) (by decide)⟩
instance : TyF Tryz.prog 147 4 4 142 := ⟨_, _, Tryz.underlying147, rfl, rfl, rfl, info_f (n := 11) (by kernel_rfl) (by decide)⟩
instance : TyF Tryz.prog 147 5 15 145 := ⟨_, _, Tryz.underlying147, rfl, rfl, rfl, info_f (n := 6) (by kernel_rfl) (by decide)⟩
-- 151: impl.Payload
instance : TyN Tryz.prog 151 1 := ⟨info_n (by kernel_rfl)⟩
instance : TyAg Tryz.prog 151 1 := ⟨fun w => by kernel_rfl, info_n (by kernel_rfl)⟩
theorem Tryz.z151 : (Tryz.prog.info? 151).map (·.zero) = some (some (.agg #[.slice none 0 0])) := by kernel_rfl
instance : TyZ Tryz.prog 151 [.nil] := ⟨by obtain ⟨i, h1, h2⟩ := info_z Tryz.z151; exact ⟨i, _, h1, h2, rfl⟩⟩
instance : TyE Tryz.prog 151 [.l []] := ⟨by obtain ⟨i, h1, h2⟩ := info_z Tryz.z151; exact ⟨i, _, h1, h2, rfl⟩⟩
instance : TyB Tryz.prog 151 [(0, 1)] := ⟨_, Tryz.underlying151, fun w => by kernel_rfl⟩
instance : TyF Tryz.prog 151 0 0 128 := ⟨_, _, Tryz.underlying151, rfl, rfl, rfl, info_f (n := 1) (by kernel_rfl) (by decide)⟩
-- 160: laws.Cell
instance : TyN Tryz.prog 160 2 := ⟨info_n (by kernel_rfl)⟩
instance : TyAg Tryz.prog 160 2 := ⟨fun w => by kernel_rfl, info_n (by kernel_rfl)⟩
theorem Tryz.z160 : (Tryz.prog.info? 160).map (·.zero) = some (some (.agg #[.int .i64 0, .slice none 0 0])) := by kernel_rfl
instance : TyZ Tryz.prog 160 [.d false (.i .i64 0), .nil] := ⟨by obtain ⟨i, h1, h2⟩ := info_z Tryz.z160; exact ⟨i, _, h1, h2, rfl⟩⟩
instance : TyE Tryz.prog 160 [.i .i64 0, .l []] := ⟨by obtain ⟨i, h1, h2⟩ := info_z Tryz.z160; exact ⟨i, _, h1, h2, rfl⟩⟩
instance : TyB Tryz.prog 160 [(0, 1), (1, 1)] := ⟨_, Tryz.underlying160, fun w => by kernel_rfl⟩
instance : TyF Tryz.prog 160 0 0 3 := ⟨_, _, Tryz.underlying160, rfl, rfl, rfl, info_f (n := 1) (by kernel_rfl) (by decide)⟩
instance : TyF Tryz.prog 160 1 1 66 := ⟨_, _, Tryz.underlying160, rfl, rfl, rfl, info_f (n := 1) (by kernel_rfl) (by decide)⟩
-- 167: impl.Cell
instance : TyN Tryz.prog 167 2 := ⟨info_n (by kernel_rfl)⟩
instance : TyAg Tryz.prog 167 2 := ⟨fun w => by kernel_rfl, info_n (by kernel_rfl)⟩
theorem Tryz.z167 : (Tryz.prog.info? 167).map (·.zero) = some (some (.agg #[.int .i64 0, .slice none 0 0])) := by kernel_rfl
instance : TyZ Tryz.prog 167 [.d false (.i .i64 0), .nil] := ⟨by obtain ⟨i, h1, h2⟩ := info_z Tryz.z167; exact ⟨i, _, h1, h2, rfl⟩⟩
instance : TyE Tryz.prog 167 [.i .i64 0, .l []] := ⟨by obtain ⟨i, h1, h2⟩ := info_z Tryz.z167; exact ⟨i, _, h1, h2, rfl⟩⟩
instance : TyB Tryz.prog 167 [(0, 1), (1, 1)] := ⟨_, Tryz.underlying167, fun w => by kernel_rfl⟩
instance : TyF Tryz.prog 167 0 0 3 := ⟨_, _, Tryz.underlying167, rfl, rfl, rfl, info_f (n := 1) (by kernel_rfl) (by decide)⟩
instance : TyF Tryz.prog 167 1 1 66 := ⟨_, _, Tryz.underlying167, rfl, rfl, rfl, info_f (n := 1) (by kernel_rfl) (by decide)⟩
-- 196: laws.Payload
instance : TyN Tryz.prog 196 1 := ⟨info_n (by kernel_rfl)⟩
instance : TyAg Tryz.prog 196 1 := ⟨fun w => by kernel_rfl, info_n (by kernel_rfl)⟩
theorem Tryz.z196 : (Tryz.prog.info? 196).map (·.zero) = some (some (.agg #[.slice none 0 0])) := by kernel_rfl
instance : TyZ Tryz.prog 196 [.nil] := ⟨by obtain ⟨i, h1, h2⟩ := info_z Tryz.z196; exact ⟨i, _, h1, h2, rfl⟩⟩
instance : TyE Tryz.prog 196 [.l []] := ⟨by obtain ⟨i, h1, h2⟩ := info_z Tryz.z196; exact ⟨i, _, h1, h2, rfl⟩⟩
instance : TyB Tryz.prog 196 [(0, 1)] := ⟨_, Tryz.underlying196, fun w => by kernel_rfl⟩
instance : TyF Tryz.prog 196 0 0 128 := ⟨_, _, Tryz.underlying196, rfl, rfl, rfl, info_f (n := 1) (by kernel_rfl) (by decide)⟩
-- 203: impl.Reservation
instance : TyN Tryz.prog 203 2 := ⟨info_n (by kernel_rfl)⟩
instance : TyAg Tryz.prog 203 2 := ⟨fun w => by kernel_rfl, info_n (by kernel_rfl)⟩
theorem Tryz.z203 : (Tryz.prog.info? 203).map (·.zero) = some (some (.agg #[.int .i64 0, .int .i64 0])) := by kernel_rfl
instance : TyZ Tryz.prog 203 [.d false (.i .i64 0), .d false (.i .i64 0)] := ⟨by obtain ⟨i, h1, h2⟩ := info_z Tryz.z203; exact ⟨i, _, h1, h2, rfl⟩⟩
instance : TyE Tryz.prog 203 [.i .i64 0, .i .i64 0] := ⟨by obtain ⟨i, h1, h2⟩ := info_z Tryz.z203; exact ⟨i, _, h1, h2, rfl⟩⟩
instance : TyB Tryz.prog 203 [(0, 1), (1, 1)] := ⟨_, Tryz.underlying203, fun w => by kernel_rfl⟩
instance : TyF Tryz.prog 203 0 0 3 := ⟨_, _, Tryz.underlying203, rfl, rfl, rfl, info_f (n := 1) (by kernel_rfl) (by decide)⟩
instance : TyF Tryz.prog 203 1 1 3 := ⟨_, _, Tryz.underlying203, rfl, rfl, rfl, info_f (n := 1) (by kernel_rfl) (by decide)⟩
-- 205: laws.Reservation
instance : TyN Tryz.prog 205 2 := ⟨info_n (by kernel_rfl)⟩
instance : TyAg Tryz.prog 205 2 := ⟨fun w => by kernel_rfl, info_n (by kernel_rfl)⟩
theorem Tryz.z205 : (Tryz.prog.info? 205).map (·.zero) = some (some (.agg #[.int .i64 0, .int .i64 0])) := by kernel_rfl
instance : TyZ Tryz.prog 205 [.d false (.i .i64 0), .d false (.i .i64 0)] := ⟨by obtain ⟨i, h1, h2⟩ := info_z Tryz.z205; exact ⟨i, _, h1, h2, rfl⟩⟩
instance : TyE Tryz.prog 205 [.i .i64 0, .i .i64 0] := ⟨by obtain ⟨i, h1, h2⟩ := info_z Tryz.z205; exact ⟨i, _, h1, h2, rfl⟩⟩
instance : TyB Tryz.prog 205 [(0, 1), (1, 1)] := ⟨_, Tryz.underlying205, fun w => by kernel_rfl⟩
instance : TyF Tryz.prog 205 0 0 3 := ⟨_, _, Tryz.underlying205, rfl, rfl, rfl, info_f (n := 1) (by kernel_rfl) (by decide)⟩
instance : TyF Tryz.prog 205 1 1 3 := ⟨_, _, Tryz.underlying205, rfl, rfl, rfl, info_f (n := 1) (by kernel_rfl) (by decide)⟩
-- 215: laws.NumberedPacket
instance : TyN Tryz.prog 215 2 := ⟨info_n (by kernel_rfl)⟩
instance : TyAg Tryz.prog 215 2 := ⟨fun w => by kernel_rfl, info_n (by kernel_rfl)⟩
theorem Tryz.z215 : (Tryz.prog.info? 215).map (·.zero) = some (some (.agg #[.int .i64 0, .slice none 0 0])) := by kernel_rfl
instance : TyZ Tryz.prog 215 [.d false (.i .i64 0), .nil] := ⟨by obtain ⟨i, h1, h2⟩ := info_z Tryz.z215; exact ⟨i, _, h1, h2, rfl⟩⟩
instance : TyE Tryz.prog 215 [.i .i64 0, .l []] := ⟨by obtain ⟨i, h1, h2⟩ := info_z Tryz.z215; exact ⟨i, _, h1, h2, rfl⟩⟩
instance : TyB Tryz.prog 215 [(0, 1), (1, 1)] := ⟨_, Tryz.underlying215, fun w => by kernel_rfl⟩
instance : TyF Tryz.prog 215 0 0 3 := ⟨_, _, Tryz.underlying215, rfl, rfl, rfl, info_f (n := 1) (by kernel_rfl) (by decide)⟩
instance : TyF Tryz.prog 215 1 1 128 := ⟨_, _, Tryz.underlying215, rfl, rfl, rfl, info_f (n := 1) (by kernel_rfl) (by decide)⟩
-- 217: impl.NumberedPacket
instance : TyN Tryz.prog 217 2 := ⟨info_n (by kernel_rfl)⟩
instance : TyAg Tryz.prog 217 2 := ⟨fun w => by kernel_rfl, info_n (by kernel_rfl)⟩
theorem Tryz.z217 : (Tryz.prog.info? 217).map (·.zero) = some (some (.agg #[.int .i64 0, .slice none 0 0])) := by kernel_rfl
instance : TyZ Tryz.prog 217 [.d false (.i .i64 0), .nil] := ⟨by obtain ⟨i, h1, h2⟩ := info_z Tryz.z217; exact ⟨i, _, h1, h2, rfl⟩⟩
instance : TyE Tryz.prog 217 [.i .i64 0, .l []] := ⟨by obtain ⟨i, h1, h2⟩ := info_z Tryz.z217; exact ⟨i, _, h1, h2, rfl⟩⟩
instance : TyB Tryz.prog 217 [(0, 1), (1, 1)] := ⟨_, Tryz.underlying217, fun w => by kernel_rfl⟩
instance : TyF Tryz.prog 217 0 0 3 := ⟨_, _, Tryz.underlying217, rfl, rfl, rfl, info_f (n := 1) (by kernel_rfl) (by decide)⟩
instance : TyF Tryz.prog 217 1 1 128 := ⟨_, _, Tryz.underlying217, rfl, rfl, rfl, info_f (n := 1) (by kernel_rfl) (by decide)⟩
theorem Tryz.sh3 : HasSh Tryz.prog 3 [.i .i64] := .int Tryz.underlying3
theorem Tryz.sh4 : HasSh Tryz.prog 4 [.b] := .bool Tryz.underlying4
theorem Tryz.sh5 : HasSh Tryz.prog 5 [.i .u8] := .int Tryz.underlying5
theorem Tryz.sh9 : HasSh Tryz.prog 9 [.str] := .string Tryz.underlying9
theorem Tryz.sh66 : HasSh Tryz.prog 66 [.l [.i .i64]] := .slice Tryz.underlying66 Tryz.sh3 (by kernel_rfl) (by decide)
theorem Tryz.sh160 : HasSh Tryz.prog 160 [.i .i64, .l [.i .i64]] := .struct (ss := [.i .i64, .l [.i .i64]]) Tryz.underlying160 (HasFs.cons (s1 := [.i .i64]) (s2 := [.l [.i .i64]]) rfl Tryz.sh3 (by kernel_rfl) (HasFs.cons (s1 := [.l [.i .i64]]) (s2 := []) rfl Tryz.sh66 (by kernel_rfl) (HasFs.nil))) (by kernel_rfl)
theorem Tryz.sh22 : HasSh Tryz.prog 22 [.l [.i .i64, .l [.i .i64]]] := .slice Tryz.underlying22 Tryz.sh160 (by kernel_rfl) (by decide)
theorem Tryz.sh24 : HasSh Tryz.prog 24 [.l [.i .i64, .l [.i .i64]]] := .struct (ss := [.l [.i .i64, .l [.i .i64]]]) Tryz.underlying24 (HasFs.cons (s1 := [.l [.i .i64, .l [.i .i64]]]) (s2 := []) rfl Tryz.sh22 (by kernel_rfl) (HasFs.nil)) (by kernel_rfl)
theorem Tryz.sh101 : HasSh Tryz.prog 101 [.i .i64, .i .i64] := .struct (ss := [.i .i64, .i .i64]) Tryz.underlying101 (HasFs.cons (s1 := [.i .i64]) (s2 := [.i .i64]) rfl Tryz.sh3 (by kernel_rfl) (HasFs.cons (s1 := [.i .i64]) (s2 := []) rfl Tryz.sh3 (by kernel_rfl) (HasFs.nil))) (by kernel_rfl)
theorem Tryz.sh103 : HasSh Tryz.prog 103 [.i .i64, .i .i64, .i .i64, .i .i64] := .struct (ss := [.i .i64, .i .i64, .i .i64, .i .i64]) Tryz.underlying103 (HasFs.cons (s1 := [.i .i64, .i .i64]) (s2 := [.i .i64, .i .i64]) rfl Tryz.sh101 (by kernel_rfl) (HasFs.cons (s1 := [.i .i64]) (s2 := [.i .i64]) rfl Tryz.sh3 (by kernel_rfl) (HasFs.cons (s1 := [.i .i64]) (s2 := []) rfl Tryz.sh3 (by kernel_rfl) (HasFs.nil)))) (by kernel_rfl)
theorem Tryz.sh128 : HasSh Tryz.prog 128 [.l [.i .u8]] := .slice Tryz.underlying128 Tryz.sh5 (by kernel_rfl) (by decide)
theorem Tryz.sh215 : HasSh Tryz.prog 215 [.i .i64, .l [.i .u8]] := .struct (ss := [.i .i64, .l [.i .u8]]) Tryz.underlying215 (HasFs.cons (s1 := [.i .i64]) (s2 := [.l [.i .u8]]) rfl Tryz.sh3 (by kernel_rfl) (HasFs.cons (s1 := [.l [.i .u8]]) (s2 := []) rfl Tryz.sh128 (by kernel_rfl) (HasFs.nil))) (by kernel_rfl)
theorem Tryz.sh104 : HasSh Tryz.prog 104 [.l [.i .i64, .l [.i .u8]]] := .slice Tryz.underlying104 Tryz.sh215 (by kernel_rfl) (by decide)
theorem Tryz.sh196 : HasSh Tryz.prog 196 [.l [.i .u8]] := .struct (ss := [.l [.i .u8]]) Tryz.underlying196 (HasFs.cons (s1 := [.l [.i .u8]]) (s2 := []) rfl Tryz.sh128 (by kernel_rfl) (HasFs.nil)) (by kernel_rfl)
theorem Tryz.sh105 : HasSh Tryz.prog 105 [.l [.l [.i .u8]]] := .slice Tryz.underlying105 Tryz.sh196 (by kernel_rfl) (by decide)
theorem Tryz.sh107 : HasSh Tryz.prog 107 [.i .i64, .l [.i .i64, .l [.i .u8]], .l [.l [.i .u8]]] := .struct (ss := [.i .i64, .l [.i .i64, .l [.i .u8]], .l [.l [.i .u8]]]) Tryz.underlying107 (HasFs.cons (s1 := [.i .i64]) (s2 := [.l [.i .i64, .l [.i .u8]], .l [.l [.i .u8]]]) rfl Tryz.sh3 (by kernel_rfl) (HasFs.cons (s1 := [.l [.i .i64, .l [.i .u8]]]) (s2 := [.l [.l [.i .u8]]]) rfl Tryz.sh104 (by kernel_rfl) (HasFs.cons (s1 := [.l [.l [.i .u8]]]) (s2 := []) rfl Tryz.sh105 (by kernel_rfl) (HasFs.nil)))) (by kernel_rfl)
theorem Tryz.sh109 : HasSh Tryz.prog 109 [.i .i64, .i .i64, .i .i64, .i .i64, .i .i64, .i .i64, .i .i64, .i .i64, .i .i64, .b, .i .i64, .i .i64, .l [.i .i64, .l [.i .u8]], .l [.l [.i .u8]]] := .struct (ss := [.i .i64, .i .i64, .i .i64, .i .i64, .i .i64, .i .i64, .i .i64, .i .i64, .i .i64, .b, .i .i64, .i .i64, .l [.i .i64, .l [.i .u8]], .l [.l [.i .u8]]]) Tryz.underlying109 (HasFs.cons (s1 := [.i .i64, .i .i64, .i .i64, .i .i64]) (s2 := [.i .i64, .i .i64, .i .i64, .i .i64, .i .i64, .b, .i .i64, .i .i64, .l [.i .i64, .l [.i .u8]], .l [.l [.i .u8]]]) rfl Tryz.sh103 (by kernel_rfl) (HasFs.cons (s1 := [.i .i64]) (s2 := [.i .i64, .i .i64, .i .i64, .i .i64, .b, .i .i64, .i .i64, .l [.i .i64, .l [.i .u8]], .l [.l [.i .u8]]]) rfl Tryz.sh3 (by kernel_rfl) (HasFs.cons (s1 := [.i .i64]) (s2 := [.i .i64, .i .i64, .i .i64, .b, .i .i64, .i .i64, .l [.i .i64, .l [.i .u8]], .l [.l [.i .u8]]]) rfl Tryz.sh3 (by kernel_rfl) (HasFs.cons (s1 := [.i .i64]) (s2 := [.i .i64, .i .i64, .b, .i .i64, .i .i64, .l [.i .i64, .l [.i .u8]], .l [.l [.i .u8]]]) rfl Tryz.sh3 (by kernel_rfl) (HasFs.cons (s1 := [.i .i64]) (s2 := [.i .i64, .b, .i .i64, .i .i64, .l [.i .i64, .l [.i .u8]], .l [.l [.i .u8]]]) rfl Tryz.sh3 (by kernel_rfl) (HasFs.cons (s1 := [.i .i64]) (s2 := [.b, .i .i64, .i .i64, .l [.i .i64, .l [.i .u8]], .l [.l [.i .u8]]]) rfl Tryz.sh3 (by kernel_rfl) (HasFs.cons (s1 := [.b]) (s2 := [.i .i64, .i .i64, .l [.i .i64, .l [.i .u8]], .l [.l [.i .u8]]]) rfl Tryz.sh4 (by kernel_rfl) (HasFs.cons (s1 := [.i .i64]) (s2 := [.i .i64, .l [.i .i64, .l [.i .u8]], .l [.l [.i .u8]]]) rfl Tryz.sh3 (by kernel_rfl) (HasFs.cons (s1 := [.i .i64, .l [.i .i64, .l [.i .u8]], .l [.l [.i .u8]]]) (s2 := []) rfl Tryz.sh107 (by kernel_rfl) (HasFs.nil)))))))))) (by kernel_rfl)
theorem Tryz.sh25 : HasSh Tryz.prog 25 [.l [.i .i64, .i .i64, .i .i64, .i .i64, .i .i64, .i .i64, .i .i64, .i .i64, .i .i64, .b, .i .i64, .i .i64, .l [.i .i64, .l [.i .u8]], .l [.l [.i .u8]]]] := .slice Tryz.underlying25 Tryz.sh109 (by kernel_rfl) (by decide)
theorem Tryz.sh112 : HasSh Tryz.prog 112 [.i .i64, .i .i64, .i .i64, .i .i64] := .struct (ss := [.i .i64, .i .i64, .i .i64, .i .i64]) Tryz.underlying112 (HasFs.cons (s1 := [.i .i64, .i .i64]) (s2 := [.i .i64, .i .i64]) rfl Tryz.sh101 (by kernel_rfl) (HasFs.cons (s1 := [.i .i64]) (s2 := [.i .i64]) rfl Tryz.sh3 (by kernel_rfl) (HasFs.cons (s1 := [.i .i64]) (s2 := []) rfl Tryz.sh3 (by kernel_rfl) (HasFs.nil)))) (by kernel_rfl)
theorem Tryz.sh113 : HasSh Tryz.prog 113 [.i .i64, .i .i64, .i .i64, .l [.i .i64]] := .struct (ss := [.i .i64, .i .i64, .i .i64, .l [.i .i64]]) Tryz.underlying113 (HasFs.cons (s1 := [.i .i64]) (s2 := [.i .i64, .i .i64, .l [.i .i64]]) rfl Tryz.sh3 (by kernel_rfl) (HasFs.cons (s1 := [.i .i64]) (s2 := [.i .i64, .l [.i .i64]]) rfl Tryz.sh3 (by kernel_rfl) (HasFs.cons (s1 := [.i .i64]) (s2 := [.l [.i .i64]]) rfl Tryz.sh3 (by kernel_rfl) (HasFs.cons (s1 := [.l [.i .i64]]) (s2 := []) rfl Tryz.sh66 (by kernel_rfl) (HasFs.nil))))) (by kernel_rfl)
theorem Tryz.sh114 : HasSh Tryz.prog 114 [.i .i64, .i .i64, .i .i64, .i .i64, .i .i64] := .struct (ss := [.i .i64, .i .i64, .i .i64, .i .i64, .i .i64]) Tryz.underlying114 (HasFs.cons (s1 := [.i .i64]) (s2 := [.i .i64, .i .i64, .i .i64, .i .i64]) rfl Tryz.sh3 (by kernel_rfl) (HasFs.cons (s1 := [.i .i64]) (s2 := [.i .i64, .i .i64, .i .i64]) rfl Tryz.sh3 (by kernel_rfl) (HasFs.cons (s1 := [.i .i64]) (s2 := [.i .i64, .i .i64]) rfl Tryz.sh3 (by kernel_rfl) (HasFs.cons (s1 := [.i .i64]) (s2 := [.i .i64]) rfl Tryz.sh3 (by kernel_rfl) (HasFs.cons (s1 := [.i .i64]) (s2 := []) rfl Tryz.sh3 (by kernel_rfl) (HasFs.nil)))))) (by kernel_rfl)
theorem Tryz.sh115 : HasSh Tryz.prog 115 [.i .i64, .i .i64, .i .i64] := .struct (ss := [.i .i64, .i .i64, .i .i64]) Tryz.underlying115 (HasFs.cons (s1 := [.i .i64]) (s2 := [.i .i64, .i .i64]) rfl Tryz.sh3 (by kernel_rfl) (HasFs.cons (s1 := [.i .i64]) (s2 := [.i .i64]) rfl Tryz.sh3 (by kernel_rfl) (HasFs.cons (s1 := [.i .i64]) (s2 := []) rfl Tryz.sh3 (by kernel_rfl) (HasFs.nil)))) (by kernel_rfl)
theorem Tryz.sh117 : HasSh Tryz.prog 117 [.i .i64, .l [.i .i64, .l [.i .u8]]] := .struct (ss := [.i .i64, .l [.i .i64, .l [.i .u8]]]) Tryz.underlying117 (HasFs.cons (s1 := [.i .i64]) (s2 := [.l [.i .i64, .l [.i .u8]]]) rfl Tryz.sh3 (by kernel_rfl) (HasFs.cons (s1 := [.l [.i .i64, .l [.i .u8]]]) (s2 := []) rfl Tryz.sh104 (by kernel_rfl) (HasFs.nil))) (by kernel_rfl)
theorem Tryz.sh118 : HasSh Tryz.prog 118 [.i .i64, .i .i64, .i .i64] := .struct (ss := [.i .i64, .i .i64, .i .i64]) Tryz.underlying118 (HasFs.cons (s1 := [.i .i64]) (s2 := [.i .i64, .i .i64]) rfl Tryz.sh3 (by kernel_rfl) (HasFs.cons (s1 := [.i .i64]) (s2 := [.i .i64]) rfl Tryz.sh3 (by kernel_rfl) (HasFs.cons (s1 := [.i .i64]) (s2 := []) rfl Tryz.sh3 (by kernel_rfl) (HasFs.nil)))) (by kernel_rfl)
theorem Tryz.sh120 : HasSh Tryz.prog 120 [.i .i64, .i .i64, .i .i64, .i .i64, .i .i64, .i .i64, .i .i64, .l [.i .i64], .i .i64, .i .i64, .i .i64, .i .i64, .i .i64, .i .i64, .i .i64, .i .i64, .i .i64, .i .i64, .i .i64, .i .i64, .i .i64, .i .i64, .i .i64, .l [.l [.i .u8]], .i .i64, .l [.i .i64, .l [.i .u8]], .i .i64, .i .i64, .i .i64, .i .i64] := .struct (ss := [.i .i64, .i .i64, .i .i64, .i .i64, .i .i64, .i .i64, .i .i64, .l [.i .i64], .i .i64, .i .i64, .i .i64, .i .i64, .i .i64, .i .i64, .i .i64, .i .i64, .i .i64, .i .i64, .i .i64, .i .i64, .i .i64, .i .i64, .i .i64, .l [.l [.i .u8]], .i .i64, .l [.i .i64, .l [.i .u8]], .i .i64, .i .i64, .i .i64, .i .i64]) Tryz.underlying120 (HasFs.cons (s1 := [.i .i64, .i .i64, .i .i64, .i .i64]) (s2 := [.i .i64, .i .i64, .i .i64, .l [.i .i64], .i .i64, .i .i64, .i .i64, .i .i64, .i .i64, .i .i64, .i .i64, .i .i64, .i .i64, .i .i64, .i .i64, .i .i64, .i .i64, .i .i64, .i .i64, .l [.l [.i .u8]], .i .i64, .l [.i .i64, .l [.i .u8]], .i .i64, .i .i64, .i .i64, .i .i64]) rfl Tryz.sh112 (by kernel_rfl) (HasFs.cons (s1 := [.i .i64, .i .i64, .i .i64, .l [.i .i64]]) (s2 := [.i .i64, .i .i64, .i .i64, .i .i64, .i .i64, .i .i64, .i .i64, .i .i64, .i .i64, .i .i64, .i .i64, .i .i64, .i .i64, .i .i64, .i .i64, .l [.l [.i .u8]], .i .i64, .l [.i .i64, .l [.i .u8]], .i .i64, .i .i64, .i .i64, .i .i64]) rfl Tryz.sh113 (by kernel_rfl) (HasFs.cons (s1 := [.i .i64]) (s2 := [.i .i64, .i .i64, .i .i64, .i .i64, .i .i64, .i .i64, .i .i64, .i .i64, .i .i64, .i .i64, .i .i64, .i .i64, .i .i64, .i .i64, .l [.l [.i .u8]], .i .i64, .l [.i .i64, .l [.i .u8]], .i .i64, .i .i64, .i .i64, .i .i64]) rfl Tryz.sh3 (by kernel_rfl) (HasFs.cons (s1 := [.i .i64, .i .i64, .i .i64, .i .i64, .i .i64]) (s2 := [.i .i64, .i .i64, .i .i64, .i .i64, .i .i64, .i .i64, .i .i64, .i .i64, .i .i64, .l [.l [.i .u8]], .i .i64, .l [.i .i64, .l [.i .u8]], .i .i64, .i .i64, .i .i64, .i .i64]) rfl Tryz.sh114 (by kernel_rfl) (HasFs.cons (s1 := [.i .i64]) (s2 := [.i .i64, .i .i64, .i .i64, .i .i64, .i .i64, .i .i64, .i .i64, .i .i64, .l [.l [.i .u8]], .i .i64, .l [.i .i64, .l [.i .u8]], .i .i64, .i .i64, .i .i64, .i .i64]) rfl Tryz.sh3 (by kernel_rfl) (HasFs.cons (s1 := [.i .i64]) (s2 := [.i .i64, .i .i64, .i .i64, .i .i64, .i .i64, .i .i64, .i .i64, .l [.l [.i .u8]], .i .i64, .l [.i .i64, .l [.i .u8]], .i .i64, .i .i64, .i .i64, .i .i64]) rfl Tryz.sh3 (by kernel_rfl) (HasFs.cons (s1 := [.i .i64]) (s2 := [.i .i64, .i .i64, .i .i64, .i .i64, .i .i64, .i .i64, .l [.l [.i .u8]], .i .i64, .l [.i .i64, .l [.i .u8]], .i .i64, .i .i64, .i .i64, .i .i64]) rfl Tryz.sh3 (by kernel_rfl) (HasFs.cons (s1 := [.i .i64]) (s2 := [.i .i64, .i .i64, .i .i64, .i .i64, .i .i64, .l [.l [.i .u8]], .i .i64, .l [.i .i64, .l [.i .u8]], .i .i64, .i .i64, .i .i64, .i .i64]) rfl Tryz.sh3 (by kernel_rfl) (HasFs.cons (s1 := [.i .i64]) (s2 := [.i .i64, .i .i64, .i .i64, .i .i64, .l [.l [.i .u8]], .i .i64, .l [.i .i64, .l [.i .u8]], .i .i64, .i .i64, .i .i64, .i .i64]) rfl Tryz.sh3 (by kernel_rfl) (HasFs.cons (s1 := [.i .i64]) (s2 := [.i .i64, .i .i64, .i .i64, .l [.l [.i .u8]], .i .i64, .l [.i .i64, .l [.i .u8]], .i .i64, .i .i64, .i .i64, .i .i64]) rfl Tryz.sh3 (by kernel_rfl) (HasFs.cons (s1 := [.i .i64, .i .i64, .i .i64]) (s2 := [.l [.l [.i .u8]], .i .i64, .l [.i .i64, .l [.i .u8]], .i .i64, .i .i64, .i .i64, .i .i64]) rfl Tryz.sh115 (by kernel_rfl) (HasFs.cons (s1 := [.l [.l [.i .u8]]]) (s2 := [.i .i64, .l [.i .i64, .l [.i .u8]], .i .i64, .i .i64, .i .i64, .i .i64]) rfl Tryz.sh105 (by kernel_rfl) (HasFs.cons (s1 := [.i .i64, .l [.i .i64, .l [.i .u8]]]) (s2 := [.i .i64, .i .i64, .i .i64, .i .i64]) rfl Tryz.sh117 (by kernel_rfl) (HasFs.cons (s1 := [.i .i64]) (s2 := [.i .i64, .i .i64, .i .i64]) rfl Tryz.sh3 (by kernel_rfl) (HasFs.cons (s1 := [.i .i64, .i .i64, .i .i64]) (s2 := []) rfl Tryz.sh118 (by kernel_rfl) (HasFs.nil)))))))))))))))) (by kernel_rfl)
theorem Tryz.sh26 : HasSh Tryz.prog 26 [.l [.i .i64, .i .i64, .i .i64, .i .i64, .i .i64, .i .i64, .i .i64, .l [.i .i64], .i .i64, .i .i64, .i .i64, .i .i64, .i .i64, .i .i64, .i .i64, .i .i64, .i .i64, .i .i64, .i .i64, .i .i64, .i .i64, .i .i64, .i .i64, .l [.l [.i .u8]], .i .i64, .l [.i .i64, .l [.i .u8]], .i .i64, .i .i64, .i .i64, .i .i64]] := .slice Tryz.underlying26 Tryz.sh120 (by kernel_rfl) (by decide)
theorem Tryz.sh205 : HasSh Tryz.prog 205 [.i .i64, .i .i64] := .struct (ss := [.i .i64, .i .i64]) Tryz.underlying205 (HasFs.cons (s1 := [.i .i64]) (s2 := [.i .i64]) rfl Tryz.sh3 (by kernel_rfl) (HasFs.cons (s1 := [.i .i64]) (s2 := []) rfl Tryz.sh3 (by kernel_rfl) (HasFs.nil))) (by kernel_rfl)
theorem Tryz.sh122 : HasSh Tryz.prog 122 [.l [.i .i64, .i .i64]] := .slice Tryz.underlying122 Tryz.sh205 (by kernel_rfl) (by decide)
theorem Tryz.sh124 : HasSh Tryz.prog 124 [.i .i64, .i .i64, .i .i64, .l [.i .i64, .i .i64]] := .struct (ss := [.i .i64, .i .i64, .i .i64, .l [.i .i64, .i .i64]]) Tryz.underlying124 (HasFs.cons (s1 := [.i .i64]) (s2 := [.i .i64, .i .i64, .l [.i .i64, .i .i64]]) rfl Tryz.sh3 (by kernel_rfl) (HasFs.cons (s1 := [.i .i64]) (s2 := [.i .i64, .l [.i .i64, .i .i64]]) rfl Tryz.sh3 (by kernel_rfl) (HasFs.cons (s1 := [.i .i64]) (s2 := [.l [.i .i64, .i .i64]]) rfl Tryz.sh3 (by kernel_rfl) (HasFs.cons (s1 := [.l [.i .i64, .i .i64]]) (s2 := []) rfl Tryz.sh122 (by kernel_rfl) (HasFs.nil))))) (by kernel_rfl)
theorem Tryz.sh27 : HasSh Tryz.prog 27 [.l [.i .i64, .i .i64, .i .i64, .l [.i .i64, .i .i64]]] := .slice Tryz.underlying27 Tryz.sh124 (by kernel_rfl) (by decide)
theorem Tryz.sh127 : HasSh Tryz.prog 127 [.i .i64, .i .i64, .i .i64, .i .i64, .i .i64, .i .i64, .i .i64, .i .i64, .i .i64, .i .i64, .i .i64] := .struct (ss := [.i .i64, .i .i64, .i .i64, .i .i64, .i .i64, .i .i64, .i .i64, .i .i64, .i .i64, .i .i64, .i .i64]) Tryz.underlying127 (HasFs.cons (s1 := [.i .i64]) (s2 := [.i .i64, .i .i64, .i .i64, .i .i64, .i .i64, .i .i64, .i .i64, .i .i64, .i .i64, .i .i64]) rfl Tryz.sh3 (by kernel_rfl) (HasFs.cons (s1 := [.i .i64]) (s2 := [.i .i64, .i .i64, .i .i64, .i .i64, .i .i64, .i .i64, .i .i64, .i .i64, .i .i64]) rfl Tryz.sh3 (by kernel_rfl) (HasFs.cons (s1 := [.i .i64]) (s2 := [.i .i64, .i .i64, .i .i64, .i .i64, .i .i64, .i .i64, .i .i64, .i .i64]) rfl Tryz.sh3 (by kernel_rfl) (HasFs.cons (s1 := [.i .i64]) (s2 := [.i .i64, .i .i64, .i .i64, .i .i64, .i .i64, .i .i64, .i .i64]) rfl Tryz.sh3 (by kernel_rfl) (HasFs.cons (s1 := [.i .i64]) (s2 := [.i .i64, .i .i64, .i .i64, .i .i64, .i .i64, .i .i64]) rfl Tryz.sh3 (by kernel_rfl) (HasFs.cons (s1 := [.i .i64, .i .i64, .i .i64, .i .i64, .i .i64]) (s2 := [.i .i64]) rfl Tryz.sh114 (by kernel_rfl) (HasFs.cons (s1 := [.i .i64]) (s2 := []) rfl Tryz.sh3 (by kernel_rfl) (HasFs.nil)))))))) (by kernel_rfl)
theorem Tryz.sh130 : HasSh Tryz.prog 130 [.i .i64, .i .i64, .l [.i .u8], .i .i64] := .struct (ss := [.i .i64, .i .i64, .l [.i .u8], .i .i64]) Tryz.underlying130 (HasFs.cons (s1 := [.i .i64]) (s2 := [.i .i64, .l [.i .u8], .i .i64]) rfl Tryz.sh3 (by kernel_rfl) (HasFs.cons (s1 := [.i .i64]) (s2 := [.l [.i .u8], .i .i64]) rfl Tryz.sh3 (by kernel_rfl) (HasFs.cons (s1 := [.l [.i .u8]]) (s2 := [.i .i64]) rfl Tryz.sh128 (by kernel_rfl) (HasFs.cons (s1 := [.i .i64]) (s2 := []) rfl Tryz.sh3 (by kernel_rfl) (HasFs.nil))))) (by kernel_rfl)
theorem Tryz.sh132 : HasSh Tryz.prog 132 [.i .i64, .i .i64, .i .i64, .i .i64, .l [.i .u8], .i .i64] := .struct (ss := [.i .i64, .i .i64, .i .i64, .i .i64, .l [.i .u8], .i .i64]) Tryz.underlying132 (HasFs.cons (s1 := [.i .i64]) (s2 := [.i .i64, .i .i64, .i .i64, .l [.i .u8], .i .i64]) rfl Tryz.sh3 (by kernel_rfl) (HasFs.cons (s1 := [.i .i64]) (s2 := [.i .i64, .i .i64, .l [.i .u8], .i .i64]) rfl Tryz.sh3 (by kernel_rfl) (HasFs.cons (s1 := [.i .i64, .i .i64, .l [.i .u8], .i .i64]) (s2 := []) rfl Tryz.sh130 (by kernel_rfl) (HasFs.nil)))) (by kernel_rfl)
theorem Tryz.sh134 : HasSh Tryz.prog 134 [.i .i64, .b, .b, .i .i64, .i .i64, .i .i64, .i .i64, .i .i64, .i .i64, .i .i64, .i .i64, .i .i64, .i .i64, .i .i64, .i .i64, .i .i64, .i .i64, .i .i64, .i .i64, .l [.i .u8], .i .i64] := .struct (ss := [.i .i64, .b, .b, .i .i64, .i .i64, .i .i64, .i .i64, .i .i64, .i .i64, .i .i64, .i .i64, .i .i64, .i .i64, .i .i64, .i .i64, .i .i64, .i .i64, .i .i64, .i .i64, .l [.i .u8], .i .i64]) Tryz.underlying134 (HasFs.cons (s1 := [.i .i64]) (s2 := [.b, .b, .i .i64, .i .i64, .i .i64, .i .i64, .i .i64, .i .i64, .i .i64, .i .i64, .i .i64, .i .i64, .i .i64, .i .i64, .i .i64, .i .i64, .i .i64, .i .i64, .l [.i .u8], .i .i64]) rfl Tryz.sh3 (by kernel_rfl) (HasFs.cons (s1 := [.b]) (s2 := [.b, .i .i64, .i .i64, .i .i64, .i .i64, .i .i64, .i .i64, .i .i64, .i .i64, .i .i64, .i .i64, .i .i64, .i .i64, .i .i64, .i .i64, .i .i64, .i .i64, .l [.i .u8], .i .i64]) rfl Tryz.sh4 (by kernel_rfl) (HasFs.cons (s1 := [.b]) (s2 := [.i .i64, .i .i64, .i .i64, .i .i64, .i .i64, .i .i64, .i .i64, .i .i64, .i .i64, .i .i64, .i .i64, .i .i64, .i .i64, .i .i64, .i .i64, .i .i64, .l [.i .u8], .i .i64]) rfl Tryz.sh4 (by kernel_rfl) (HasFs.cons (s1 := [.i .i64]) (s2 := [.i .i64, .i .i64, .i .i64, .i .i64, .i .i64, .i .i64, .i .i64, .i .i64, .i .i64, .i .i64, .i .i64, .i .i64, .i .i64, .i .i64, .i .i64, .l [.i .u8], .i .i64]) rfl Tryz.sh3 (by kernel_rfl) (HasFs.cons (s1 := [.i .i64, .i .i64, .i .i64, .i .i64, .i .i64, .i .i64, .i .i64, .i .i64, .i .i64, .i .i64, .i .i64]) (s2 := [.i .i64, .i .i64, .i .i64, .i .i64, .l [.i .u8], .i .i64]) rfl Tryz.sh127 (by kernel_rfl) (HasFs.cons (s1 := [.i .i64, .i .i64, .i .i64, .i .i64, .l [.i .u8], .i .i64]) (s2 := []) rfl Tryz.sh132 (by kernel_rfl) (HasFs.nil))))))) (by kernel_rfl)
theorem Tryz.sh28 : HasSh Tryz.prog 28 [.l [.i .i64, .b, .b, .i .i64, .i .i64, .i .i64, .i .i64, .i .i64, .i .i64, .i .i64, .i .i64, .i .i64, .i .i64, .i .i64, .i .i64, .i .i64, .i .i64, .i .i64, .i .i64, .l [.i .u8], .i .i64]] := .slice Tryz.underlying28 Tryz.sh134 (by kernel_rfl) (by decide)
theorem Tryz.sh30 : HasSh Tryz.prog 30 [.i .i64, .i .i64] := .struct (ss := [.i .i64, .i .i64]) Tryz.underlying30 (HasFs.cons (s1 := [.i .i64]) (s2 := [.i .i64]) rfl Tryz.sh3 (by kernel_rfl) (HasFs.cons (s1 := [.i .i64]) (s2 := []) rfl Tryz.sh3 (by kernel_rfl) (HasFs.nil))) (by kernel_rfl)
theorem Tryz.sh32 : HasSh Tryz.prog 32 [.l [.i .i64, .l [.i .i64]], .l [.i .i64, .i .i64, .i .i64, .i .i64, .i .i64, .i .i64, .i .i64, .i .i64, .i .i64, .b, .i .i64, .i .i64, .l [.i .i64, .l [.i .u8]], .l [.l [.i .u8]]], .l [.i .i64, .i .i64, .i .i64, .i .i64, .i .i64, .i .i64, .i .i64, .l [.i .i64], .i .i64, .i .i64, .i .i64, .i .i64, .i .i64, .i .i64, .i .i64, .i .i64, .i .i64, .i .i64, .i .i64, .i .i64, .i .i64, .i .i64, .i .i64, .l [.l [.i .u8]], .i .i64, .l [.i .i64, .l [.i .u8]], .i .i64, .i .i64, .i .i64, .i .i64], .l [.i .i64, .i .i64, .i .i64, .l [.i .i64, .i .i64]], .l [.i .i64, .b, .b, .i .i64, .i .i64, .i .i64, .i .i64, .i .i64, .i .i64, .i .i64, .i .i64, .i .i64, .i .i64, .i .i64, .i .i64, .i .i64, .i .i64, .i .i64, .i .i64, .l [.i .u8], .i .i64], .i .i64, .i .i64, .i .i64, .i .i64, .i .i64] := .struct (ss := [.l [.i .i64, .l [.i .i64]], .l [.i .i64, .i .i64, .i .i64, .i .i64, .i .i64, .i .i64, .i .i64, .i .i64, .i .i64, .b, .i .i64, .i .i64, .l [.i .i64, .l [.i .u8]], .l [.l [.i .u8]]], .l [.i .i64, .i .i64, .i .i64, .i .i64, .i .i64, .i .i64, .i .i64, .l [.i .i64], .i .i64, .i .i64, .i .i64, .i .i64, .i .i64, .i .i64, .i .i64, .i .i64, .i .i64, .i .i64, .i .i64, .i .i64, .i .i64, .i .i64, .i .i64, .l [.l [.i .u8]], .i .i64, .l [.i .i64, .l [.i .u8]], .i .i64, .i .i64, .i .i64, .i .i64], .l [.i .i64, .i .i64, .i .i64, .l [.i .i64, .i .i64]], .l [.i .i64, .b, .b, .i .i64, .i .i64, .i .i64, .i .i64, .i .i64, .i .i64, .i .i64, .i .i64, .i .i64, .i .i64, .i .i64, .i .i64, .i .i64, .i .i64, .i .i64, .i .i64, .l [.i .u8], .i .i64], .i .i64, .i .i64, .i .i64, .i .i64, .i .i64]) Tryz.underlying32 (HasFs.cons (s1 := [.l [.i .i64, .l [.i .i64]]]) (s2 := [.l [.i .i64, .i .i64, .i .i64, .i .i64, .i .i64, .i .i64, .i .i64, .i .i64, .i .i64, .b, .i .i64, .i .i64, .l [.i .i64, .l [.i .u8]], .l [.l [.i .u8]]], .l [.i .i64, .i .i64, .i .i64, .i .i64, .i .i64, .i .i64, .i .i64, .l [.i .i64], .i .i64, .i .i64, .i .i64, .i .i64, .i .i64, .i .i64, .i .i64, .i .i64, .i .i64, .i .i64, .i .i64, .i .i64, .i .i64, .i .i64, .i .i64, .l [.l [.i .u8]], .i .i64, .l [.i .i64, .l [.i .u8]], .i .i64, .i .i64, .i .i64, .i .i64], .l [.i .i64, .i .i64, .i .i64, .l [.i .i64, .i .i64]], .l [.i .i64, .b, .b, .i .i64, .i .i64, .i .i64, .i .i64, .i .i64, .i .i64, .i .i64, .i .i64, .i .i64, .i .i64, .i .i64, .i .i64, .i .i64, .i .i64, .i .i64, .i .i64, .l [.i .u8], .i .i64], .i .i64, .i .i64, .i .i64, .i .i64, .i .i64]) rfl Tryz.sh24 (by kernel_rfl) (HasFs.cons (s1 := [.l [.i .i64, .i .i64, .i .i64, .i .i64, .i .i64, .i .i64, .i .i64, .i .i64, .i .i64, .b, .i .i64, .i .i64, .l [.i .i64, .l [.i .u8]], .l [.l [.i .u8]]]]) (s2 := [.l [.i .i64, .i .i64, .i .i64, .i .i64, .i .i64, .i .i64, .i .i64, .l [.i .i64], .i .i64, .i .i64, .i .i64, .i .i64, .i .i64, .i .i64, .i .i64, .i .i64, .i .i64, .i .i64, .i .i64, .i .i64, .i .i64, .i .i64, .i .i64, .l [.l [.i .u8]], .i .i64, .l [.i .i64, .l [.i .u8]], .i .i64, .i .i64, .i .i64, .i .i64], .l [.i .i64, .i .i64, .i .i64, .l [.i .i64, .i .i64]], .l [.i .i64, .b, .b, .i .i64, .i .i64, .i .i64, .i .i64, .i .i64, .i .i64, .i .i64, .i .i64, .i .i64, .i .i64, .i .i64, .i .i64, .i .i64, .i .i64, .i .i64, .i .i64, .l [.i .u8], .i .i64], .i .i64, .i .i64, .i .i64, .i .i64, .i .i64]) rfl Tryz.sh25 (by kernel_rfl) (HasFs.cons (s1 := [.l [.i .i64, .i .i64, .i .i64, .i .i64, .i .i64, .i .i64, .i .i64, .l [.i .i64], .i .i64, .i .i64, .i .i64, .i .i64, .i .i64, .i .i64, .i .i64, .i .i64, .i .i64, .i .i64, .i .i64, .i .i64, .i .i64, .i .i64, .i .i64, .l [.l [.i .u8]], .i .i64, .l [.i .i64, .l [.i .u8]], .i .i64, .i .i64, .i .i64, .i .i64]]) (s2 := [.l [.i .i64, .i .i64, .i .i64, .l [.i .i64, .i .i64]], .l [.i .i64, .b, .b, .i .i64, .i .i64, .i .i64, .i .i64, .i .i64, .i .i64, .i .i64, .i .i64, .i .i64, .i .i64, .i .i64, .i .i64, .i .i64, .i .i64, .i .i64, .i .i64, .l [.i .u8], .i .i64], .i .i64, .i .i64, .i .i64, .i .i64, .i .i64]) rfl Tryz.sh26 (by kernel_rfl) (HasFs.cons (s1 := [.l [.i .i64, .i .i64, .i .i64, .l [.i .i64, .i .i64]]]) (s2 := [.l [.i .i64, .b, .b, .i .i64, .i .i64, .i .i64, .i .i64, .i .i64, .i .i64, .i .i64, .i .i64, .i .i64, .i .i64, .i .i64, .i .i64, .i .i64, .i .i64, .i .i64, .i .i64, .l [.i .u8], .i .i64], .i .i64, .i .i64, .i .i64, .i .i64, .i .i64]) rfl Tryz.sh27 (by kernel_rfl) (HasFs.cons (s1 := [.l [.i .i64, .b, .b, .i .i64, .i .i64, .i .i64, .i .i64, .i .i64, .i .i64, .i .i64, .i .i64, .i .i64, .i .i64, .i .i64, .i .i64, .i .i64, .i .i64, .i .i64, .i .i64, .l [.i .u8], .i .i64]]) (s2 := [.i .i64, .i .i64, .i .i64, .i .i64, .i .i64]) rfl Tryz.sh28 (by kernel_rfl) (HasFs.cons (s1 := [.i .i64]) (s2 := [.i .i64, .i .i64, .i .i64, .i .i64]) rfl Tryz.sh3 (by kernel_rfl) (HasFs.cons (s1 := [.i .i64, .i .i64]) (s2 := [.i .i64, .i .i64]) rfl Tryz.sh30 (by kernel_rfl) (HasFs.cons (s1 := [.i .i64]) (s2 := [.i .i64]) rfl Tryz.sh3 (by kernel_rfl) (HasFs.cons (s1 := [.i .i64]) (s2 := []) rfl Tryz.sh3 (by kernel_rfl) (HasFs.nil)))))))))) (by kernel_rfl)
theorem Tryz.sh167 : HasSh Tryz.prog 167 [.i .i64, .l [.i .i64]] := .struct (ss := [.i .i64, .l [.i .i64]]) Tryz.underlying167 (HasFs.cons (s1 := [.i .i64]) (s2 := [.l [.i .i64]]) rfl Tryz.sh3 (by kernel_rfl) (HasFs.cons (s1 := [.l [.i .i64]]) (s2 := []) rfl Tryz.sh66 (by kernel_rfl) (HasFs.nil))) (by kernel_rfl)
theorem Tryz.sh35 : HasSh Tryz.prog 35 [.l [.i .i64, .l [.i .i64]]] := .slice Tryz.underlying35 Tryz.sh167 (by kernel_rfl) (by decide)
theorem Tryz.sh37 : HasSh Tryz.prog 37 [.l [.i .i64, .l [.i .i64]]] := .struct (ss := [.l [.i .i64, .l [.i .i64]]]) Tryz.underlying37 (HasFs.cons (s1 := [.l [.i .i64, .l [.i .i64]]]) (s2 := []) rfl Tryz.sh35 (by kernel_rfl) (HasFs.nil)) (by kernel_rfl)
theorem Tryz.sh59 : HasSh Tryz.prog 59 [.i .i64, .i .i64] := .struct (ss := [.i .i64, .i .i64]) Tryz.underlying59 (HasFs.cons (s1 := [.i .i64]) (s2 := [.i .i64]) rfl Tryz.sh3 (by kernel_rfl) (HasFs.cons (s1 := [.i .i64]) (s2 := []) rfl Tryz.sh3 (by kernel_rfl) (HasFs.nil))) (by kernel_rfl)
theorem Tryz.sh61 : HasSh Tryz.prog 61 [.i .i64, .i .i64, .i .i64, .i .i64] := .struct (ss := [.i .i64, .i .i64, .i .i64, .i .i64]) Tryz.underlying61 (HasFs.cons (s1 := [.i .i64, .i .i64]) (s2 := [.i .i64, .i .i64]) rfl Tryz.sh59 (by kernel_rfl) (HasFs.cons (s1 := [.i .i64]) (s2 := [.i .i64]) rfl Tryz.sh3 (by kernel_rfl) (HasFs.cons (s1 := [.i .i64]) (s2 := []) rfl Tryz.sh3 (by kernel_rfl) (HasFs.nil)))) (by kernel_rfl)
theorem Tryz.sh217 : HasSh Tryz.prog 217 [.i .i64, .l [.i .u8]] := .struct (ss := [.i .i64, .l [.i .u8]]) Tryz.underlying217 (HasFs.cons (s1 := [.i .i64]) (s2 := [.l [.i .u8]]) rfl Tryz.sh3 (by kernel_rfl) (HasFs.cons (s1 := [.l [.i .u8]]) (s2 := []) rfl Tryz.sh128 (by kernel_rfl) (HasFs.nil))) (by kernel_rfl)
theorem Tryz.sh54 : HasSh Tryz.prog 54 [.l [.i .i64, .l [.i .u8]]] := .slice Tryz.underlying54 Tryz.sh217 (by kernel_rfl) (by decide)
theorem Tryz.sh151 : HasSh Tryz.prog 151 [.l [.i .u8]] := .struct (ss := [.l [.i .u8]]) Tryz.underlying151 (HasFs.cons (s1 := [.l [.i .u8]]) (s2 := []) rfl Tryz.sh128 (by kernel_rfl) (HasFs.nil)) (by kernel_rfl)
theorem Tryz.sh55 : HasSh Tryz.prog 55 [.l [.l [.i .u8]]] := .slice Tryz.underlying55 Tryz.sh151 (by kernel_rfl) (by decide)
theorem Tryz.sh57 : HasSh Tryz.prog 57 [.i .i64, .l [.i .i64, .l [.i .u8]], .l [.l [.i .u8]]] := .struct (ss := [.i .i64, .l [.i .i64, .l [.i .u8]], .l [.l [.i .u8]]]) Tryz.underlying57 (HasFs.cons (s1 := [.i .i64]) (s2 := [.l [.i .i64, .l [.i .u8]], .l [.l [.i .u8]]]) rfl Tryz.sh3 (by kernel_rfl) (HasFs.cons (s1 := [.l [.i .i64, .l [.i .u8]]]) (s2 := [.l [.l [.i .u8]]]) rfl Tryz.sh54 (by kernel_rfl) (HasFs.cons (s1 := [.l [.l [.i .u8]]]) (s2 := []) rfl Tryz.sh55 (by kernel_rfl) (HasFs.nil)))) (by kernel_rfl)
theorem Tryz.sh63 : HasSh Tryz.prog 63 [.i .i64, .i .i64, .i .i64, .i .i64, .i .i64, .i .i64, .i .i64, .i .i64, .i .i64, .b, .i .i64, .i .i64, .l [.i .i64, .l [.i .u8]], .l [.l [.i .u8]]] := .struct (ss := [.i .i64, .i .i64, .i .i64, .i .i64, .i .i64, .i .i64, .i .i64, .i .i64, .i .i64, .b, .i .i64, .i .i64, .l [.i .i64, .l [.i .u8]], .l [.l [.i .u8]]]) Tryz.underlying63 (HasFs.cons (s1 := [.i .i64, .i .i64, .i .i64, .i .i64]) (s2 := [.i .i64, .i .i64, .i .i64, .i .i64, .i .i64, .b, .i .i64, .i .i64, .l [.i .i64, .l [.i .u8]], .l [.l [.i .u8]]]) rfl Tryz.sh61 (by kernel_rfl) (HasFs.cons (s1 := [.i .i64]) (s2 := [.i .i64, .i .i64, .i .i64, .i .i64, .b, .i .i64, .i .i64, .l [.i .i64, .l [.i .u8]], .l [.l [.i .u8]]]) rfl Tryz.sh3 (by kernel_rfl) (HasFs.cons (s1 := [.i .i64]) (s2 := [.i .i64, .i .i64, .i .i64, .b, .i .i64, .i .i64, .l [.i .i64, .l [.i .u8]], .l [.l [.i .u8]]]) rfl Tryz.sh3 (by kernel_rfl) (HasFs.cons (s1 := [.i .i64]) (s2 := [.i .i64, .i .i64, .b, .i .i64, .i .i64, .l [.i .i64, .l [.i .u8]], .l [.l [.i .u8]]]) rfl Tryz.sh3 (by kernel_rfl) (HasFs.cons (s1 := [.i .i64]) (s2 := [.i .i64, .b, .i .i64, .i .i64, .l [.i .i64, .l [.i .u8]], .l [.l [.i .u8]]]) rfl Tryz.sh3 (by kernel_rfl) (HasFs.cons (s1 := [.i .i64]) (s2 := [.b, .i .i64, .i .i64, .l [.i .i64, .l [.i .u8]], .l [.l [.i .u8]]]) rfl Tryz.sh3 (by kernel_rfl) (HasFs.cons (s1 := [.b]) (s2 := [.i .i64, .i .i64, .l [.i .i64, .l [.i .u8]], .l [.l [.i .u8]]]) rfl Tryz.sh4 (by kernel_rfl) (HasFs.cons (s1 := [.i .i64]) (s2 := [.i .i64, .l [.i .i64, .l [.i .u8]], .l [.l [.i .u8]]]) rfl Tryz.sh3 (by kernel_rfl) (HasFs.cons (s1 := [.i .i64, .l [.i .i64, .l [.i .u8]], .l [.l [.i .u8]]]) (s2 := []) rfl Tryz.sh57 (by kernel_rfl) (HasFs.nil)))))))))) (by kernel_rfl)
theorem Tryz.sh38 : HasSh Tryz.prog 38 [.l [.i .i64, .i .i64, .i .i64, .i .i64, .i .i64, .i .i64, .i .i64, .i .i64, .i .i64, .b, .i .i64, .i .i64, .l [.i .i64, .l [.i .u8]], .l [.l [.i .u8]]]] := .slice Tryz.underlying38 Tryz.sh63 (by kernel_rfl) (by decide)
theorem Tryz.sh65 : HasSh Tryz.prog 65 [.i .i64, .i .i64, .i .i64, .i .i64] := .struct (ss := [.i .i64, .i .i64, .i .i64, .i .i64]) Tryz.underlying65 (HasFs.cons (s1 := [.i .i64, .i .i64]) (s2 := [.i .i64, .i .i64]) rfl Tryz.sh59 (by kernel_rfl) (HasFs.cons (s1 := [.i .i64]) (s2 := [.i .i64]) rfl Tryz.sh3 (by kernel_rfl) (HasFs.cons (s1 := [.i .i64]) (s2 := []) rfl Tryz.sh3 (by kernel_rfl) (HasFs.nil)))) (by kernel_rfl)
theorem Tryz.sh68 : HasSh Tryz.prog 68 [.i .i64, .i .i64, .i .i64, .l [.i .i64]] := .struct (ss := [.i .i64, .i .i64, .i .i64, .l [.i .i64]]) Tryz.underlying68 (HasFs.cons (s1 := [.i .i64]) (s2 := [.i .i64, .i .i64, .l [.i .i64]]) rfl Tryz.sh3 (by kernel_rfl) (HasFs.cons (s1 := [.i .i64]) (s2 := [.i .i64, .l [.i .i64]]) rfl Tryz.sh3 (by kernel_rfl) (HasFs.cons (s1 := [.i .i64]) (s2 := [.l [.i .i64]]) rfl Tryz.sh3 (by kernel_rfl) (HasFs.cons (s1 := [.l [.i .i64]]) (s2 := []) rfl Tryz.sh66 (by kernel_rfl) (HasFs.nil))))) (by kernel_rfl)
theorem Tryz.sh70 : HasSh Tryz.prog 70 [.i .i64, .i .i64, .i .i64, .i .i64, .i .i64] := .struct (ss := [.i .i64, .i .i64, .i .i64, .i .i64, .i .i64]) Tryz.underlying70 (HasFs.cons (s1 := [.i .i64]) (s2 := [.i .i64, .i .i64, .i .i64, .i .i64]) rfl Tryz.sh3 (by kernel_rfl) (HasFs.cons (s1 := [.i .i64]) (s2 := [.i .i64, .i .i64, .i .i64]) rfl Tryz.sh3 (by kernel_rfl) (HasFs.cons (s1 := [.i .i64]) (s2 := [.i .i64, .i .i64]) rfl Tryz.sh3 (by kernel_rfl) (HasFs.cons (s1 := [.i .i64]) (s2 := [.i .i64]) rfl Tryz.sh3 (by kernel_rfl) (HasFs.cons (s1 := [.i .i64]) (s2 := []) rfl Tryz.sh3 (by kernel_rfl) (HasFs.nil)))))) (by kernel_rfl)
theorem Tryz.sh72 : HasSh Tryz.prog 72 [.i .i64, .i .i64, .i .i64] := .struct (ss := [.i .i64, .i .i64, .i .i64]) Tryz.underlying72 (HasFs.cons (s1 := [.i .i64]) (s2 := [.i .i64, .i .i64]) rfl Tryz.sh3 (by kernel_rfl) (HasFs.cons (s1 := [.i .i64]) (s2 := [.i .i64]) rfl Tryz.sh3 (by kernel_rfl) (HasFs.cons (s1 := [.i .i64]) (s2 := []) rfl Tryz.sh3 (by kernel_rfl) (HasFs.nil)))) (by kernel_rfl)
theorem Tryz.sh74 : HasSh Tryz.prog 74 [.i .i64, .l [.i .i64, .l [.i .u8]]] := .struct (ss := [.i .i64, .l [.i .i64, .l [.i .u8]]]) Tryz.underlying74 (HasFs.cons (s1 := [.i .i64]) (s2 := [.l [.i .i64, .l [.i .u8]]]) rfl Tryz.sh3 (by kernel_rfl) (HasFs.cons (s1 := [.l [.i .i64, .l [.i .u8]]]) (s2 := []) rfl Tryz.sh54 (by kernel_rfl) (HasFs.nil))) (by kernel_rfl)
theorem Tryz.sh76 : HasSh Tryz.prog 76 [.i .i64, .i .i64, .i .i64] := .struct (ss := [.i .i64, .i .i64, .i .i64]) Tryz.underlying76 (HasFs.cons (s1 := [.i .i64]) (s2 := [.i .i64, .i .i64]) rfl Tryz.sh3 (by kernel_rfl) (HasFs.cons (s1 := [.i .i64]) (s2 := [.i .i64]) rfl Tryz.sh3 (by kernel_rfl) (HasFs.cons (s1 := [.i .i64]) (s2 := []) rfl Tryz.sh3 (by kernel_rfl) (HasFs.nil)))) (by kernel_rfl)
theorem Tryz.sh78 : HasSh Tryz.prog 78 [.i .i64, .i .i64, .i .i64, .i .i64, .i .i64, .i .i64, .i .i64, .l [.i .i64], .i .i64, .i .i64, .i .i64, .i .i64, .i .i64, .i .i64, .i .i64, .i .i64, .i .i64, .i .i64, .i .i64, .i .i64, .i .i64, .i .i64, .i .i64, .l [.l [.i .u8]], .i .i64, .l [.i .i64, .l [.i .u8]], .i .i64, .i .i64, .i .i64, .i .i64] := .struct (ss := [.i .i64, .i .i64, .i .i64, .i .i64, .i .i64, .i .i64, .i .i64, .l [.i .i64], .i .i64, .i .i64, .i .i64, .i .i64, .i .i64, .i .i64, .i .i64, .i .i64, .i .i64, .i .i64, .i .i64, .i .i64, .i .i64, .i .i64, .i .i64, .l [.l [.i .u8]], .i .i64, .l [.i .i64, .l [.i .u8]], .i .i64, .i .i64, .i .i64, .i .i64]) Tryz.underlying78 (HasFs.cons (s1 := [.i .i64, .i .i64, .i .i64, .i .i64]) (s2 := [.i .i64, .i .i64, .i .i64, .l [.i .i64], .i .i64, .i .i64, .i .i64, .i .i64, .i .i64, .i .i64, .i .i64, .i .i64, .i .i64, .i .i64, .i .i64, .i .i64, .i .i64, .i .i64, .i .i64, .l [.l [.i .u8]], .i .i64, .l [.i .i64, .l [.i .u8]], .i .i64, .i .i64, .i .i64, .i .i64]) rfl Tryz.sh65 (by kernel_rfl) (HasFs.cons (s1 := [.i .i64, .i .i64, .i .i64, .l [.i .i64]]) (s2 := [.i .i64, .i .i64, .i .i64, .i .i64, .i .i64, .i .i64, .i .i64, .i .i64, .i .i64, .i .i64, .i .i64, .i .i64, .i .i64, .i .i64, .i .i64, .l [.l [.i .u8]], .i .i64, .l [.i .i64, .l [.i .u8]], .i .i64, .i .i64, .i .i64, .i .i64]) rfl Tryz.sh68 (by kernel_rfl) (HasFs.cons (s1 := [.i .i64]) (s2 := [.i .i64, .i .i64, .i .i64, .i .i64, .i .i64, .i .i64, .i .i64, .i .i64, .i .i64, .i .i64, .i .i64, .i .i64, .i .i64, .i .i64, .l [.l [.i .u8]], .i .i64, .l [.i .i64, .l [.i .u8]], .i .i64, .i .i64, .i .i64, .i .i64]) rfl Tryz.sh3 (by kernel_rfl) (HasFs.cons (s1 := [.i .i64, .i .i64, .i .i64, .i .i64, .i .i64]) (s2 := [.i .i64, .i .i64, .i .i64, .i .i64, .i .i64, .i .i64, .i .i64, .i .i64, .i .i64, .l [.l [.i .u8]], .i .i64, .l [.i .i64, .l [.i .u8]], .i .i64, .i .i64, .i .i64, .i .i64]) rfl Tryz.sh70 (by kernel_rfl) (HasFs.cons (s1 := [.i .i64]) (s2 := [.i .i64, .i .i64, .i .i64, .i .i64, .i .i64, .i .i64, .i .i64, .i .i64, .l [.l [.i .u8]], .i .i64, .l [.i .i64, .l [.i .u8]], .i .i64, .i .i64, .i .i64, .i .i64]) rfl Tryz.sh3 (by kernel_rfl) (HasFs.cons (s1 := [.i .i64]) (s2 := [.i .i64, .i .i64, .i .i64, .i .i64, .i .i64, .i .i64, .i .i64, .l [.l [.i .u8]], .i .i64, .l [.i .i64, .l [.i .u8]], .i .i64, .i .i64, .i .i64, .i .i64]) rfl Tryz.sh3 (by kernel_rfl) (HasFs.cons (s1 := [.i .i64]) (s2 := [.i .i64, .i .i64, .i .i64, .i .i64, .i .i64, .i .i64, .l [.l [.i .u8]], .i .i64, .l [.i .i64, .l [.i .u8]], .i .i64, .i .i64, .i .i64, .i .i64]) rfl Tryz.sh3 (by kernel_rfl) (HasFs.cons (s1 := [.i .i64]) (s2 := [.i .i64, .i .i64, .i .i64, .i .i64, .i .i64, .l [.l [.i .u8]], .i .i64, .l [.i .i64, .l [.i .u8]], .i .i64, .i .i64, .i .i64, .i .i64]) rfl Tryz.sh3 (by kernel_rfl) (HasFs.cons (s1 := [.i .i64]) (s2 := [.i .i64, .i .i64, .i .i64, .i .i64, .l [.l [.i .u8]], .i .i64, .l [.i .i64, .l [.i .u8]], .i .i64, .i .i64, .i .i64, .i .i64]) rfl Tryz.sh3 (by kernel_rfl) (HasFs.cons (s1 := [.i .i64]) (s2 := [.i .i64, .i .i64, .i .i64, .l [.l [.i .u8]], .i .i64, .l [.i .i64, .l [.i .u8]], .i .i64, .i .i64, .i .i64, .i .i64]) rfl Tryz.sh3 (by kernel_rfl) (HasFs.cons (s1 := [.i .i64, .i .i64, .i .i64]) (s2 := [.l [.l [.i .u8]], .i .i64, .l [.i .i64, .l [.i .u8]], .i .i64, .i .i64, .i .i64, .i .i64]) rfl Tryz.sh72 (by kernel_rfl) (HasFs.cons (s1 := [.l [.l [.i .u8]]]) (s2 := [.i .i64, .l [.i .i64, .l [.i .u8]], .i .i64, .i .i64, .i .i64, .i .i64]) rfl Tryz.sh55 (by kernel_rfl) (HasFs.cons (s1 := [.i .i64, .l [.i .i64, .l [.i .u8]]]) (s2 := [.i .i64, .i .i64, .i .i64, .i .i64]) rfl Tryz.sh74 (by kernel_rfl) (HasFs.cons (s1 := [.i .i64]) (s2 := [.i .i64, .i .i64, .i .i64]) rfl Tryz.sh3 (by kernel_rfl) (HasFs.cons (s1 := [.i .i64, .i .i64, .i .i64]) (s2 := []) rfl Tryz.sh76 (by kernel_rfl) (HasFs.nil)))))))))))))))) (by kernel_rfl)
theorem Tryz.sh39 : HasSh Tryz.prog 39 [.l [.i .i64, .i .i64, .i .i64, .i .i64, .i .i64, .i .i64, .i .i64, .l [.i .i64], .i .i64, .i .i64, .i .i64, .i .i64, .i .i64, .i .i64, .i .i64, .i .i64, .i .i64, .i .i64, .i .i64, .i .i64, .i .i64, .i .i64, .i .i64, .l [.l [.i .u8]], .i .i64, .l [.i .i64, .l [.i .u8]], .i .i64, .i .i64, .i .i64, .i .i64]] := .slice Tryz.underlying39 Tryz.sh78 (by kernel_rfl) (by decide)
theorem Tryz.sh203 : HasSh Tryz.prog 203 [.i .i64, .i .i64] := .struct (ss := [.i .i64, .i .i64]) Tryz.underlying203 (HasFs.cons (s1 := [.i .i64]) (s2 := [.i .i64]) rfl Tryz.sh3 (by kernel_rfl) (HasFs.cons (s1 := [.i .i64]) (s2 := []) rfl Tryz.sh3 (by kernel_rfl) (HasFs.nil))) (by kernel_rfl)
theorem Tryz.sh94 : HasSh Tryz.prog 94 [.l [.i .i64, .i .i64]] := .slice Tryz.underlying94 Tryz.sh203 (by kernel_rfl) (by decide)
theorem Tryz.sh96 : HasSh Tryz.prog 96 [.i .i64, .i .i64, .i .i64, .l [.i .i64, .i .i64]] := .struct (ss := [.i .i64, .i .i64, .i .i64, .l [.i .i64, .i .i64]]) Tryz.underlying96 (HasFs.cons (s1 := [.i .i64]) (s2 := [.i .i64, .i .i64, .l [.i .i64, .i .i64]]) rfl Tryz.sh3 (by kernel_rfl) (HasFs.cons (s1 := [.i .i64]) (s2 := [.i .i64, .l [.i .i64, .i .i64]]) rfl Tryz.sh3 (by kernel_rfl) (HasFs.cons (s1 := [.i .i64]) (s2 := [.l [.i .i64, .i .i64]]) rfl Tryz.sh3 (by kernel_rfl) (HasFs.cons (s1 := [.l [.i .i64, .i .i64]]) (s2 := []) rfl Tryz.sh94 (by kernel_rfl) (HasFs.nil))))) (by kernel_rfl)
theorem Tryz.sh40 : HasSh Tryz.prog 40 [.l [.i .i64, .i .i64, .i .i64, .l [.i .i64, .i .i64]]] := .slice Tryz.underlying40 Tryz.sh96 (by kernel_rfl) (by decide)
theorem Tryz.sh142 : HasSh Tryz.prog 142 [.i .i64, .i .i64, .i .i64, .i .i64, .i .i64, .i .i64, .i .i64, .i .i64, .i .i64, .i .i64, .i .i64] := .struct (ss := [.i .i64, .i .i64, .i .i64, .i .i64, .i .i64, .i .i64, .i .i64, .i .i64, .i .i64, .i .i64, .i .i64]) Tryz.underlying142 (HasFs.cons (s1 := [.i .i64]) (s2 := [.i .i64, .i .i64, .i .i64, .i .i64, .i .i64, .i .i64, .i .i64, .i .i64, .i .i64, .i .i64]) rfl Tryz.sh3 (by kernel_rfl) (HasFs.cons (s1 := [.i .i64]) (s2 := [.i .i64, .i .i64, .i .i64, .i .i64, .i .i64, .i .i64, .i .i64, .i .i64, .i .i64]) rfl Tryz.sh3 (by kernel_rfl) (HasFs.cons (s1 := [.i .i64]) (s2 := [.i .i64, .i .i64, .i .i64, .i .i64, .i .i64, .i .i64, .i .i64, .i .i64]) rfl Tryz.sh3 (by kernel_rfl) (HasFs.cons (s1 := [.i .i64]) (s2 := [.i .i64, .i .i64, .i .i64, .i .i64, .i .i64, .i .i64, .i .i64]) rfl Tryz.sh3 (by kernel_rfl) (HasFs.cons (s1 := [.i .i64]) (s2 := [.i .i64, .i .i64, .i .i64, .i .i64, .i .i64, .i .i64]) rfl Tryz.sh3 (by kernel_rfl) (HasFs.cons (s1 := [.i .i64, .i .i64, .i .i64, .i .i64, .i .i64]) (s2 := [.i .i64]) rfl Tryz.sh70 (by kernel_rfl) (HasFs.cons (s1 := [.i .i64]) (s2 := []) rfl Tryz.sh3 (by kernel_rfl) (HasFs.nil)))))))) (by kernel_rfl)
theorem Tryz.sh143 : HasSh Tryz.prog 143 [.i .i64, .i .i64, .l [.i .u8], .i .i64] := .struct (ss := [.i .i64, .i .i64, .l [.i .u8], .i .i64]) Tryz.underlying143 (HasFs.cons (s1 := [.i .i64]) (s2 := [.i .i64, .l [.i .u8], .i .i64]) rfl Tryz.sh3 (by kernel_rfl) (HasFs.cons (s1 := [.i .i64]) (s2 := [.l [.i .u8], .i .i64]) rfl Tryz.sh3 (by kernel_rfl) (HasFs.cons (s1 := [.l [.i .u8]]) (s2 := [.i .i64]) rfl Tryz.sh128 (by kernel_rfl) (HasFs.cons (s1 := [.i .i64]) (s2 := []) rfl Tryz.sh3 (by kernel_rfl) (HasFs.nil))))) (by kernel_rfl)
theorem Tryz.sh145 : HasSh Tryz.prog 145 [.i .i64, .i .i64, .i .i64, .i .i64, .l [.i .u8], .i .i64] := .struct (ss := [.i .i64, .i .i64, .i .i64, .i .i64, .l [.i .u8], .i .i64]) Tryz.underlying145 (HasFs.cons (s1 := [.i .i64]) (s2 := [.i .i64, .i .i64, .i .i64, .l [.i .u8], .i .i64]) rfl Tryz.sh3 (by kernel_rfl) (HasFs.cons (s1 := [.i .i64]) (s2 := [.i .i64, .i .i64, .l [.i .u8], .i .i64]) rfl Tryz.sh3 (by kernel_rfl) (HasFs.cons (s1 := [.i .i64, .i .i64, .l [.i .u8], .i .i64]) (s2 := []) rfl Tryz.sh143 (by kernel_rfl) (HasFs.nil)))) (by kernel_rfl)
theorem Tryz.sh147 : HasSh Tryz.prog 147 [.i .i64, .b, .b, .i .i64, .i .i64, .i .i64, .i .i64, .i .i64, .i .i64, .i .i64, .i .i64, .i .i64, .i .i64, .i .i64, .i .i64, .i .i64, .i .i64, .i .i64, .i .i64, .l [.i .u8], .i .i64] := .struct (ss := [.i .i64, .b, .b, .i .i64, .i .i64, .i .i64, .i .i64, .i .i64, .i .i64, .i .i64, .i .i64, .i .i64, .i .i64, .i .i64, .i .i64, .i .i64, .i .i64, .i .i64, .i .i64, .l [.i .u8], .i .i64]) Tryz.underlying147 (HasFs.cons (s1 := [.i .i64]) (s2 := [.b, .b, .i .i64, .i .i64, .i .i64, .i .i64, .i .i64, .i .i64, .i .i64, .i .i64, .i .i64, .i .i64, .i .i64, .i .i64, .i .i64, .i .i64, .i .i64, .i .i64, .l [.i .u8], .i .i64]) rfl Tryz.sh3 (by kernel_rfl) (HasFs.cons (s1 := [.b]) (s2 := [.b, .i .i64, .i .i64, .i .i64, .i .i64, .i .i64, .i .i64, .i .i64, .i .i64, .i .i64, .i .i64, .i .i64, .i .i64, .i .i64, .i .i64, .i .i64, .i .i64, .l [.i .u8], .i .i64]) rfl Tryz.sh4 (by kernel_rfl) (HasFs.cons (s1 := [.b]) (s2 := [.i .i64, .i .i64, .i .i64, .i .i64, .i .i64, .i .i64, .i .i64, .i .i64, .i .i64, .i .i64, .i .i64, .i .i64, .i .i64, .i .i64, .i .i64, .i .i64, .l [.i .u8], .i .i64]) rfl Tryz.sh4 (by kernel_rfl) (HasFs.cons (s1 := [.i .i64]) (s2 := [.i .i64, .i .i64, .i .i64, .i .i64, .i .i64, .i .i64, .i .i64, .i .i64, .i .i64, .i .i64, .i .i64, .i .i64, .i .i64, .i .i64, .i .i64, .l [.i .u8], .i .i64]) rfl Tryz.sh3 (by kernel_rfl) (HasFs.cons (s1 := [.i .i64, .i .i64, .i .i64, .i .i64, .i .i64, .i .i64, .i .i64, .i .i64, .i .i64, .i .i64, .i .i64]) (s2 := [.i .i64, .i .i64, .i .i64, .i .i64, .l [.i .u8], .i .i64]) rfl Tryz.sh142 (by kernel_rfl) (HasFs.cons (s1 := [.i .i64, .i .i64, .i .i64, .i .i64, .l [.i .u8], .i .i64]) (s2 := []) rfl Tryz.sh145 (by kernel_rfl) (HasFs.nil))))))) (by kernel_rfl)
theorem Tryz.sh41 : HasSh Tryz.prog 41 [.l [.i .i64, .b, .b, .i .i64, .i .i64, .i .i64, .i .i64, .i .i64, .i .i64, .i .i64, .i .i64, .i .i64, .i .i64, .i .i64, .i .i64, .i .i64, .i .i64, .i .i64, .i .i64, .l [.i .u8], .i .i64]] := .slice Tryz.underlying41 Tryz.sh147 (by kernel_rfl) (by decide)
theorem Tryz.sh42 : HasSh Tryz.prog 42 [.i .i64, .i .i64] := .struct (ss := [.i .i64, .i .i64]) Tryz.underlying42 (HasFs.cons (s1 := [.i .i64]) (s2 := [.i .i64]) rfl Tryz.sh3 (by kernel_rfl) (HasFs.cons (s1 := [.i .i64]) (s2 := []) rfl Tryz.sh3 (by kernel_rfl) (HasFs.nil))) (by kernel_rfl)
theorem Tryz.sh44 : HasSh Tryz.prog 44 [.l [.i .i64, .l [.i .i64]], .l [.i .i64, .i .i64, .i .i64, .i .i64, .i .i64, .i .i64, .i .i64, .i .i64, .i .i64, .b, .i .i64, .i .i64, .l [.i .i64, .l [.i .u8]], .l [.l [.i .u8]]], .l [.i .i64, .i .i64, .i .i64, .i .i64, .i .i64, .i .i64, .i .i64, .l [.i .i64], .i .i64, .i .i64, .i .i64, .i .i64, .i .i64, .i .i64, .i .i64, .i .i64, .i .i64, .i .i64, .i .i64, .i .i64, .i .i64, .i .i64, .i .i64, .l [.l [.i .u8]], .i .i64, .l [.i .i64, .l [.i .u8]], .i .i64, .i .i64, .i .i64, .i .i64], .l [.i .i64, .i .i64, .i .i64, .l [.i .i64, .i .i64]], .l [.i .i64, .b, .b, .i .i64, .i .i64, .i .i64, .i .i64, .i .i64, .i .i64, .i .i64, .i .i64, .i .i64, .i .i64, .i .i64, .i .i64, .i .i64, .i .i64, .i .i64, .i .i64, .l [.i .u8], .i .i64], .i .i64, .i .i64, .i .i64, .i .i64, .i .i64] := .struct (ss := [.l [.i .i64, .l [.i .i64]], .l [.i .i64, .i .i64, .i .i64, .i .i64, .i .i64, .i .i64, .i .i64, .i .i64, .i .i64, .b, .i .i64, .i .i64, .l [.i .i64, .l [.i .u8]], .l [.l [.i .u8]]], .l [.i .i64, .i .i64, .i .i64, .i .i64, .i .i64, .i .i64, .i .i64, .l [.i .i64], .i .i64, .i .i64, .i .i64, .i .i64, .i .i64, .i .i64, .i .i64, .i .i64, .i .i64, .i .i64, .i .i64, .i .i64, .i .i64, .i .i64, .i .i64, .l [.l [.i .u8]], .i .i64, .l [.i .i64, .l [.i .u8]], .i .i64, .i .i64, .i .i64, .i .i64], .l [.i .i64, .i .i64, .i .i64, .l [.i .i64, .i .i64]], .l [.i .i64, .b, .b, .i .i64, .i .i64, .i .i64, .i .i64, .i .i64, .i .i64, .i .i64, .i .i64, .i .i64, .i .i64, .i .i64, .i .i64, .i .i64, .i .i64, .i .i64, .i .i64, .l [.i .u8], .i .i64], .i .i64, .i .i64, .i .i64, .i .i64, .i .i64]) Tryz.underlying44 (HasFs.cons (s1 := [.l [.i .i64, .l [.i .i64]]]) (s2 := [.l [.i .i64, .i .i64, .i .i64, .i .i64, .i .i64, .i .i64, .i .i64, .i .i64, .i .i64, .b, .i .i64, .i .i64, .l [.i .i64, .l [.i .u8]], .l [.l [.i .u8]]], .l [.i .i64, .i .i64, .i .i64, .i .i64, .i .i64, .i .i64, .i .i64, .l [.i .i64], .i .i64, .i .i64, .i .i64, .i .i64, .i .i64, .i .i64, .i .i64, .i .i64, .i .i64, .i .i64, .i .i64, .i .i64, .i .i64, .i .i64, .i .i64, .l [.l [.i .u8]], .i .i64, .l [.i .i64, .l [.i .u8]], .i .i64, .i .i64, .i .i64, .i .i64], .l [.i .i64, .i .i64, .i .i64, .l [.i .i64, .i .i64]], .l [.i .i64, .b, .b, .i .i64, .i .i64, .i .i64, .i .i64, .i .i64, .i .i64, .i .i64, .i .i64, .i .i64, .i .i64, .i .i64, .i .i64, .i .i64, .i .i64, .i .i64, .i .i64, .l [.i .u8], .i .i64], .i .i64, .i .i64, .i .i64, .i .i64, .i .i64]) rfl Tryz.sh37 (by kernel_rfl) (HasFs.cons (s1 := [.l [.i .i64, .i .i64, .i .i64, .i .i64, .i .i64, .i .i64, .i .i64, .i .i64, .i .i64, .b, .i .i64, .i .i64, .l [.i .i64, .l [.i .u8]], .l [.l [.i .u8]]]]) (s2 := [.l [.i .i64, .i .i64, .i .i64, .i .i64, .i .i64, .i .i64, .i .i64, .l [.i .i64], .i .i64, .i .i64, .i .i64, .i .i64, .i .i64, .i .i64, .i .i64, .i .i64, .i .i64, .i .i64, .i .i64, .i .i64, .i .i64, .i .i64, .i .i64, .l [.l [.i .u8]], .i .i64, .l [.i .i64, .l [.i .u8]], .i .i64, .i .i64, .i .i64, .i .i64], .l [.i .i64, .i .i64, .i .i64, .l [.i .i64, .i .i64]], .l [.i .i64, .b, .b, .i .i64, .i .i64, .i .i64, .i .i64, .i .i64, .i .i64, .i .i64, .i .i64, .i .i64, .i .i64, .i .i64, .i .i64, .i .i64, .i .i64, .i .i64, .i .i64, .l [.i .u8], .i .i64], .i .i64, .i .i64, .i .i64, .i .i64, .i .i64]) rfl Tryz.sh38 (by kernel_rfl) (HasFs.cons (s1 := [.l [.i .i64, .i .i64, .i .i64, .i .i64, .i .i64, .i .i64, .i .i64, .l [.i .i64], .i .i64, .i .i64, .i .i64, .i .i64, .i .i64, .i .i64, .i .i64, .i .i64, .i .i64, .i .i64, .i .i64, .i .i64, .i .i64, .i .i64, .i .i64, .l [.l [.i .u8]], .i .i64, .l [.i .i64, .l [.i .u8]], .i .i64, .i .i64, .i .i64, .i .i64]]) (s2 := [.l [.i .i64, .i .i64, .i .i64, .l [.i .i64, .i .i64]], .l [.i .i64, .b, .b, .i .i64, .i .i64, .i .i64, .i .i64, .i .i64, .i .i64, .i .i64, .i .i64, .i .i64, .i .i64, .i .i64, .i .i64, .i .i64, .i .i64, .i .i64, .i .i64, .l [.i .u8], .i .i64], .i .i64, .i .i64, .i .i64, .i .i64, .i .i64]) rfl Tryz.sh39 (by kernel_rfl) (HasFs.cons (s1 := [.l [.i .i64, .i .i64, .i .i64, .l [.i .i64, .i .i64]]]) (s2 := [.l [.i .i64, .b, .b, .i .i64, .i .i64, .i .i64, .i .i64, .i .i64, .i .i64, .i .i64, .i .i64, .i .i64, .i .i64, .i .i64, .i .i64, .i .i64, .i .i64, .i .i64, .i .i64, .l [.i .u8], .i .i64], .i .i64, .i .i64, .i .i64, .i .i64, .i .i64]) rfl Tryz.sh40 (by kernel_rfl) (HasFs.cons (s1 := [.l [.i .i64, .b, .b, .i .i64, .i .i64, .i .i64, .i .i64, .i .i64, .i .i64, .i .i64, .i .i64, .i .i64, .i .i64, .i .i64, .i .i64, .i .i64, .i .i64, .i .i64, .i .i64, .l [.i .u8], .i .i64]]) (s2 := [.i .i64, .i .i64, .i .i64, .i .i64, .i .i64]) rfl Tryz.sh41 (by kernel_rfl) (HasFs.cons (s1 := [.i .i64]) (s2 := [.i .i64, .i .i64, .i .i64, .i .i64]) rfl Tryz.sh3 (by kernel_rfl) (HasFs.cons (s1 := [.i .i64, .i .i64]) (s2 := [.i .i64, .i .i64]) rfl Tryz.sh42 (by kernel_rfl) (HasFs.cons (s1 := [.i .i64]) (s2 := [.i .i64]) rfl Tryz.sh3 (by kernel_rfl) (HasFs.cons (s1 := [.i .i64]) (s2 := []) rfl Tryz.sh3 (by kernel_rfl) (HasFs.nil)))))))))) (by kernel_rfl)
theorem Tryz.eqa30 : EqA Tryz.prog 2 30 [.i .i64, .i .i64] := eqA_struct (k := 1) Tryz.underlying30 (by kernel_rfl) (eqF_s rfl (by decide) inferInstance (eqS_int Tryz.underlying3) (eqF_s rfl (by decide) inferInstance (eqS_int Tryz.underlying3) (eqF_nil)))
instance : TyEq Tryz.prog 30 [.i .i64, .i .i64] := ⟨⟨2, by decide, Tryz.eqa30⟩, by kernel_rfl⟩
theorem Tryz.eqa42 : EqA Tryz.prog 2 42 [.i .i64, .i .i64] := eqA_struct (k := 1) Tryz.underlying42 (by kernel_rfl) (eqF_s rfl (by decide) inferInstance (eqS_int Tryz.underlying3) (eqF_s rfl (by decide) inferInstance (eqS_int Tryz.underlying3) (eqF_nil)))
instance : TyEq Tryz.prog 42 [.i .i64, .i .i64] := ⟨⟨2, by decide, Tryz.eqa42⟩, by kernel_rfl⟩
theorem Tryz.eqa59 : EqA Tryz.prog 2 59 [.i .i64, .i .i64] := eqA_struct (k := 1) Tryz.underlying59 (by kernel_rfl) (eqF_s rfl (by decide) inferInstance (eqS_int Tryz.underlying3) (eqF_s rfl (by decide) inferInstance (eqS_int Tryz.underlying3) (eqF_nil)))
instance : TyEq Tryz.prog 59 [.i .i64, .i .i64] := ⟨⟨2, by decide, Tryz.eqa59⟩, by kernel_rfl⟩
theorem Tryz.eqa61 : EqA Tryz.prog 3 61 [.i .i64, .i .i64, .i .i64, .i .i64] := eqA_struct (k := 2) Tryz.underlying61 (by kernel_rfl) (eqF_a (n := 2) (s1 := [.i .i64, .i .i64]) rfl (by decide) inferInstance rfl (by decide) Tryz.eqa59 (eqF_s rfl (by decide) inferInstance (eqS_int Tryz.underlying3) (eqF_s rfl (by decide) inferInstance (eqS_int Tryz.underlying3) (eqF_nil))))
instance : TyEq Tryz.prog 61 [.i .i64, .i .i64, .i .i64, .i .i64] := ⟨⟨3, by decide, Tryz.eqa61⟩, by kernel_rfl⟩
theorem Tryz.eqa65 : EqA Tryz.prog 3 65 [.i .i64, .i .i64, .i .i64, .i .i64] := eqA_struct (k := 2) Tryz.underlying65 (by kernel_rfl) (eqF_a (n := 2) (s1 := [.i .i64, .i .i64]) rfl (by decide) inferInstance rfl (by decide) Tryz.eqa59 (eqF_s rfl (by decide) inferInstance (eqS_int Tryz.underlying3) (eqF_s rfl (by decide) inferInstance (eqS_int Tryz.underlying3) (eqF_nil))))
instance : TyEq Tryz.prog 65 [.i .i64, .i .i64, .i .i64, .i .i64] := ⟨⟨3, by decide, Tryz.eqa65⟩, by kernel_rfl⟩
theorem Tryz.eqa70 : EqA Tryz.prog 2 70 [.i .i64, .i .i64, .i .i64, .i .i64, .i .i64] := eqA_struct (k := 1) Tryz.underlying70 (by kernel_rfl) (eqF_s rfl (by decide) inferInstance (eqS_int Tryz.underlying3) (eqF_s rfl (by decide) inferInstance (eqS_int Tryz.underlying3) (eqF_s rfl (by decide) inferInstance (eqS_int Tryz.underlying3) (eqF_s rfl (by decide) inferInstance (eqS_int Tryz.underlying3) (eqF_s rfl (by decide) inferInstance (eqS_int Tryz.underlying3) (eqF_nil))))))
instance : TyEq Tryz.prog 70 [.i .i64, .i .i64, .i .i64, .i .i64, .i .i64] := ⟨⟨2, by decide, Tryz.eqa70⟩, by kernel_rfl⟩
theorem Tryz.eqa72 : EqA Tryz.prog 2 72 [.i .i64, .i .i64, .i .i64] := eqA_struct (k := 1) Tryz.underlying72 (by kernel_rfl) (eqF_s rfl (by decide) inferInstance (eqS_int Tryz.underlying3) (eqF_s rfl (by decide) inferInstance (eqS_int Tryz.underlying3) (eqF_s rfl (by decide) inferInstance (eqS_int Tryz.underlying3) (eqF_nil))))
instance : TyEq Tryz.prog 72 [.i .i64, .i .i64, .i .i64] := ⟨⟨2, by decide, Tryz.eqa72⟩, by kernel_rfl⟩
theorem Tryz.eqa76 : EqA Tryz.prog 2 76 [.i .i64, .i .i64, .i .i64] := eqA_struct (k := 1) Tryz.underlying76 (by kernel_rfl) (eqF_s rfl (by decide) inferInstance (eqS_int Tryz.underlying3) (eqF_s rfl (by decide) inferInstance (eqS_int Tryz.underlying3) (eqF_s rfl (by decide) inferInstance (eqS_int Tryz.underlying3) (eqF_nil))))
instance : TyEq Tryz.prog 76 [.i .i64, .i .i64, .i .i64] := ⟨⟨2, by decide, Tryz.eqa76⟩, by kernel_rfl⟩
theorem Tryz.eqa101 : EqA Tryz.prog 2 101 [.i .i64, .i .i64] := eqA_struct (k := 1) Tryz.underlying101 (by kernel_rfl) (eqF_s rfl (by decide) inferInstance (eqS_int Tryz.underlying3) (eqF_s rfl (by decide) inferInstance (eqS_int Tryz.underlying3) (eqF_nil)))
instance : TyEq Tryz.prog 101 [.i .i64, .i .i64] := ⟨⟨2, by decide, Tryz.eqa101⟩, by kernel_rfl⟩
theorem Tryz.eqa103 : EqA Tryz.prog 3 103 [.i .i64, .i .i64, .i .i64, .i .i64] := eqA_struct (k := 2) Tryz.underlying103 (by kernel_rfl) (eqF_a (n := 2) (s1 := [.i .i64, .i .i64]) rfl (by decide) inferInstance rfl (by decide) Tryz.eqa101 (eqF_s rfl (by decide) inferInstance (eqS_int Tryz.underlying3) (eqF_s rfl (by decide) inferInstance (eqS_int Tryz.underlying3) (eqF_nil))))
instance : TyEq Tryz.prog 103 [.i .i64, .i .i64, .i .i64, .i .i64] := ⟨⟨3, by decide, Tryz.eqa103⟩, by kernel_rfl⟩
theorem Tryz.eqa112 : EqA Tryz.prog 3 112 [.i .i64, .i .i64, .i .i64, .i .i64] := eqA_struct (k := 2) Tryz.underlying112 (by kernel_rfl) (eqF_a (n := 2) (s1 := [.i .i64, .i .i64]) rfl (by decide) inferInstance rfl (by decide) Tryz.eqa101 (eqF_s rfl (by decide) inferInstance (eqS_int Tryz.underlying3) (eqF_s rfl (by decide) inferInstance (eqS_int Tryz.underlying3) (eqF_nil))))
instance : TyEq Tryz.prog 112 [.i .i64, .i .i64, .i .i64, .i .i64] := ⟨⟨3, by decide, Tryz.eqa112⟩, by kernel_rfl⟩
theorem Tryz.eqa114 : EqA Tryz.prog 2 114 [.i .i64, .i .i64, .i .i64, .i .i64, .i .i64] := eqA_struct (k := 1) Tryz.underlying114 (by kernel_rfl) (eqF_s rfl (by decide) inferInstance (eqS_int Tryz.underlying3) (eqF_s rfl (by decide) inferInstance (eqS_int Tryz.underlying3) (eqF_s rfl (by decide) inferInstance (eqS_int Tryz.underlying3) (eqF_s rfl (by decide) inferInstance (eqS_int Tryz.underlying3) (eqF_s rfl (by decide) inferInstance (eqS_int Tryz.underlying3) (eqF_nil))))))
instance : TyEq Tryz.prog 114 [.i .i64, .i .i64, .i .i64, .i .i64, .i .i64] := ⟨⟨2, by decide, Tryz.eqa114⟩, by kernel_rfl⟩
theorem Tryz.eqa115 : EqA Tryz.prog 2 115 [.i .i64, .i .i64, .i .i64] := eqA_struct (k := 1) Tryz.underlying115 (by kernel_rfl) (eqF_s rfl (by decide) inferInstance (eqS_int Tryz.underlying3) (eqF_s rfl (by decide) inferInstance (eqS_int Tryz.underlying3) (eqF_s rfl (by decide) inferInstance (eqS_int Tryz.underlying3) (eqF_nil))))
instance : TyEq Tryz.prog 115 [.i .i64, .i .i64, .i .i64] := ⟨⟨2, by decide, Tryz.eqa115⟩, by kernel_rfl⟩
theorem Tryz.eqa118 : EqA Tryz.prog 2 118 [.i .i64, .i .i64, .i .i64] := eqA_struct (k := 1) Tryz.underlying118 (by kernel_rfl) (eqF_s rfl (by decide) inferInstance (eqS_int Tryz.underlying3) (eqF_s rfl (by decide) inferInstance (eqS_int Tryz.underlying3) (eqF_s rfl (by decide) inferInstance (eqS_int Tryz.underlying3) (eqF_nil))))
instance : TyEq Tryz.prog 118 [.i .i64, .i .i64, .i .i64] := ⟨⟨2, by decide, Tryz.eqa118⟩, by kernel_rfl⟩
theorem Tryz.eqa127 : EqA Tryz.prog 3 127 [.i .i64, .i .i64, .i .i64, .i .i64, .i .i64, .i .i64, .i .i64, .i .i64, .i .i64, .i .i64, .i .i64] := eqA_struct (k := 2) Tryz.underlying127 (by kernel_rfl) (eqF_s rfl (by decide) inferInstance (eqS_int Tryz.underlying3) (eqF_s rfl (by decide) inferInstance (eqS_int Tryz.underlying3) (eqF_s rfl (by decide) inferInstance (eqS_int Tryz.underlying3) (eqF_s rfl (by decide) inferInstance (eqS_int Tryz.underlying3) (eqF_s rfl (by decide) inferInstance (eqS_int Tryz.underlying3) (eqF_a (n := 5) (s1 := [.i .i64, .i .i64, .i .i64, .i .i64, .i .i64]) rfl (by decide) inferInstance rfl (by decide) Tryz.eqa114 (eqF_s rfl (by decide) inferInstance (eqS_int Tryz.underlying3) (eqF_nil))))))))
instance : TyEq Tryz.prog 127 [.i .i64, .i .i64, .i .i64, .i .i64, .i .i64, .i .i64, .i .i64, .i .i64, .i .i64, .i .i64, .i .i64] := ⟨⟨3, by decide, Tryz.eqa127⟩, by kernel_rfl⟩
theorem Tryz.eqa142 : EqA Tryz.prog 3 142 [.i .i64, .i .i64, .i .i64, .i .i64, .i .i64, .i .i64, .i .i64, .i .i64, .i .i64, .i .i64, .i .i64] := eqA_struct (k := 2) Tryz.underlying142 (by kernel_rfl) (eqF_s rfl (by decide) inferInstance (eqS_int Tryz.underlying3) (eqF_s rfl (by decide) inferInstance (eqS_int Tryz.underlying3) (eqF_s rfl (by decide) inferInstance (eqS_int Tryz.underlying3) (eqF_s rfl (by decide) inferInstance (eqS_int Tryz.underlying3) (eqF_s rfl (by decide) inferInstance (eqS_int Tryz.underlying3) (eqF_a (n := 5) (s1 := [.i .i64, .i .i64, .i .i64, .i .i64, .i .i64]) rfl (by decide) inferInstance rfl (by decide) Tryz.eqa70 (eqF_s rfl (by decide) inferInstance (eqS_int Tryz.underlying3) (eqF_nil))))))))
instance : TyEq Tryz.prog 142 [.i .i64, .i .i64, .i .i64, .i .i64, .i .i64, .i .i64, .i .i64, .i .i64, .i .i64, .i .i64, .i .i64] := ⟨⟨3, by decide, Tryz.eqa142⟩, by kernel_rfl⟩
theorem Tryz.eqa203 : EqA Tryz.prog 2 203 [.i .i64, .i .i64] := eqA_struct (k := 1) Tryz.underlying203 (by kernel_rfl) (eqF_s rfl (by decide) inferInstance (eqS_int Tryz.underlying3) (eqF_s rfl (by decide) inferInstance (eqS_int Tryz.underlying3) (eqF_nil)))
instance : TyEq Tryz.prog 203 [.i .i64, .i .i64] := ⟨⟨2, by decide, Tryz.eqa203⟩, by kernel_rfl⟩
theorem Tryz.eqa205 : EqA Tryz.prog 2 205 [.i .i64, .i .i64] := eqA_struct (k := 1) Tryz.underlying205 (by kernel_rfl) (eqF_s rfl (by decide) inferInstance (eqS_int Tryz.underlying3) (eqF_s rfl (by decide) inferInstance (eqS_int Tryz.underlying3) (eqF_nil)))
instance : TyEq Tryz.prog 205 [.i .i64, .i .i64] := ⟨⟨2, by decide, Tryz.eqa205⟩, by kernel_rfl⟩
theorem Tryz.follows : Tryz.prog.follows .mixedOrders = true := by kernel_rfl
structure TCell where
  Area : Int
  Neighbors : List Int
  deriving DecidableEq, Inhabited
def eTCell (a : TCell) : List D := [.i .i64 a.Area, .l (a.Neighbors.map eI)]
structure TCellMap where
  Cells : List TCell
  deriving DecidableEq, Inhabited
def eTCellMap (a : TCellMap) : List D := [.l (a.Cells.map eTCell)]
structure TServerPool where
  Size : Int
  UpMask : Int
  deriving DecidableEq, Inhabited
def eTServerPool (a : TServerPool) : List D := [.i .i64 a.Size, .i .i64 a.UpMask]
structure TSubscriberID where
  Network : Int
  Number : Int
  deriving DecidableEq, Inhabited
def eTSubscriberID (a : TSubscriberID) : List D := [.i .i64 a.Network, .i .i64 a.Number]
structure TUSIM where
  ID : TSubscriberID
  Key : Int
  LastSeq : Int
  deriving DecidableEq, Inhabited
def eTUSIM (a : TUSIM) : List D := [.i .i64 a.ID.Network, .i .i64 a.ID.Number, .i .i64 a.Key, .i .i64 a.LastSeq]
structure TNumberedPacket where
  Seq : Int
  Data : List Int
  deriving DecidableEq, Inhabited
def eTNumberedPacket (a : TNumberedPacket) : List D := [.i .i64 a.Seq, .l (a.Data.map eU8)]
structure TPayload where
  Data : List Int
  deriving DecidableEq, Inhabited
def eTPayload (a : TPayload) : List D := [.l (a.Data.map eU8)]
structure TReceiveWindow where
  Next : Int
  Pending : List TNumberedPacket
  Delivered : List TPayload
  deriving DecidableEq, Inhabited
def eTReceiveWindow (a : TReceiveWindow) : List D := [.i .i64 a.Next, .l (a.Pending.map eTNumberedPacket), .l (a.Delivered.map eTPayload)]
structure TDevice where
  Card : TUSIM
  State : Int
  Cell : Int
  Generation : Int
  RootKey : Int
  Epoch : Int
  PathConfirmed : Bool
  Wait : Int
  Receiver : TReceiveWindow
  deriving DecidableEq, Inhabited
def eTDevice (a : TDevice) : List D := [.i .i64 a.Card.ID.Network, .i .i64 a.Card.ID.Number, .i .i64 a.Card.Key, .i .i64 a.Card.LastSeq, .i .i64 a.State, .i .i64 a.Cell, .i .i64 a.Generation, .i .i64 a.RootKey, .i .i64 a.Epoch, .b a.PathConfirmed, .i .i64 a.Wait, .i .i64 a.Receiver.Next, .l (a.Receiver.Pending.map eTNumberedPacket), .l (a.Receiver.Delivered.map eTPayload)]
structure TSubscriberRecord where
  ID : TSubscriberID
  Key : Int
  Seq : Int
  deriving DecidableEq, Inhabited
def eTSubscriberRecord (a : TSubscriberRecord) : List D := [.i .i64 a.ID.Network, .i .i64 a.ID.Number, .i .i64 a.Key, .i .i64 a.Seq]
structure TSubscription where
  RateLimit : Int
  BestClass : Int
  GrantSize : Int
  RoamingNetworks : List Int
  deriving DecidableEq, Inhabited
def eTSubscription (a : TSubscription) : List D := [.i .i64 a.RateLimit, .i .i64 a.BestClass, .i .i64 a.GrantSize, .l (a.RoamingNetworks.map eI)]
structure TAuthVector where
  Rand : Int
  Autn : Int
  MAC : Int
  Res : Int
  Key : Int
  deriving DecidableEq, Inhabited
def eTAuthVector (a : TAuthVector) : List D := [.i .i64 a.Rand, .i .i64 a.Autn, .i .i64 a.MAC, .i .i64 a.Res, .i .i64 a.Key]
structure TPagingState where
  Area : Int
  Attempt : Int
  Wait : Int
  deriving DecidableEq, Inhabited
def eTPagingState (a : TPagingState) : List D := [.i .i64 a.Area, .i .i64 a.Attempt, .i .i64 a.Wait]
structure TSendWindow where
  Next : Int
  Unacked : List TNumberedPacket
  deriving DecidableEq, Inhabited
def eTSendWindow (a : TSendWindow) : List D := [.i .i64 a.Next, .l (a.Unacked.map eTNumberedPacket)]
structure TQuota where
  SessionID : Int
  Granted : Int
  Used : Int
  deriving DecidableEq, Inhabited
def eTQuota (a : TQuota) : List D := [.i .i64 a.SessionID, .i .i64 a.Granted, .i .i64 a.Used]
structure TSession where
  Record : TSubscriberRecord
  Plan : TSubscription
  State : Int
  Pending : TAuthVector
  PendingSeq : Int
  Generation : Int
  RootKey : Int
  Epoch : Int
  Cell : Int
  Quiet : Int
  Page : TPagingState
  Submitted : List TPayload
  Window : TSendWindow
  Retry : Int
  Usage : TQuota
  deriving DecidableEq, Inhabited
def eTSession (a : TSession) : List D := [.i .i64 a.Record.ID.Network, .i .i64 a.Record.ID.Number, .i .i64 a.Record.Key, .i .i64 a.Record.Seq, .i .i64 a.Plan.RateLimit, .i .i64 a.Plan.BestClass, .i .i64 a.Plan.GrantSize, .l (a.Plan.RoamingNetworks.map eI), .i .i64 a.State, .i .i64 a.Pending.Rand, .i .i64 a.Pending.Autn, .i .i64 a.Pending.MAC, .i .i64 a.Pending.Res, .i .i64 a.Pending.Key, .i .i64 a.PendingSeq, .i .i64 a.Generation, .i .i64 a.RootKey, .i .i64 a.Epoch, .i .i64 a.Cell, .i .i64 a.Quiet, .i .i64 a.Page.Area, .i .i64 a.Page.Attempt, .i .i64 a.Page.Wait, .l (a.Submitted.map eTPayload), .i .i64 a.Window.Next, .l (a.Window.Unacked.map eTNumberedPacket), .i .i64 a.Retry, .i .i64 a.Usage.SessionID, .i .i64 a.Usage.Granted, .i .i64 a.Usage.Used]
structure TReservation where
  SessionID : Int
  Amount : Int
  deriving DecidableEq, Inhabited
def eTReservation (a : TReservation) : List D := [.i .i64 a.SessionID, .i .i64 a.Amount]
structure TAccount where
  Total : Int
  Available : Int
  Spent : Int
  Reservations : List TReservation
  deriving DecidableEq, Inhabited
def eTAccount (a : TAccount) : List D := [.i .i64 a.Total, .i .i64 a.Available, .i .i64 a.Spent, .l (a.Reservations.map eTReservation)]
structure TSignal where
  Kind : Int
  Cell : Int
  Generation : Int
  Epoch : Int
  Number : Int
  Vector : TAuthVector
  MAC : Int
  deriving DecidableEq, Inhabited
def eTSignal (a : TSignal) : List D := [.i .i64 a.Kind, .i .i64 a.Cell, .i .i64 a.Generation, .i .i64 a.Epoch, .i .i64 a.Number, .i .i64 a.Vector.Rand, .i .i64 a.Vector.Autn, .i .i64 a.Vector.MAC, .i .i64 a.Vector.Res, .i .i64 a.Vector.Key, .i .i64 a.MAC]
structure TSecuredMessage where
  Direction : Int
  Count : Int
  Data : List Int
  MAC : Int
  deriving DecidableEq, Inhabited
def eTSecuredMessage (a : TSecuredMessage) : List D := [.i .i64 a.Direction, .i .i64 a.Count, .l (a.Data.map eU8), .i .i64 a.MAC]
structure TRadioPacket where
  Generation : Int
  Epoch : Int
  Message : TSecuredMessage
  deriving DecidableEq, Inhabited
def eTRadioPacket (a : TRadioPacket) : List D := [.i .i64 a.Generation, .i .i64 a.Epoch, .i .i64 a.Message.Direction, .i .i64 a.Message.Count, .l (a.Message.Data.map eU8), .i .i64 a.Message.MAC]
structure TFlight where
  Device : Int
  Uplink : Bool
  IsRadio : Bool
  Cell : Int
  Signal : TSignal
  Radio : TRadioPacket
  deriving DecidableEq, Inhabited
def eTFlight (a : TFlight) : List D := [.i .i64 a.Device, .b a.Uplink, .b a.IsRadio, .i .i64 a.Cell, .i .i64 a.Signal.Kind, .i .i64 a.Signal.Cell, .i .i64 a.Signal.Generation, .i .i64 a.Signal.Epoch, .i .i64 a.Signal.Number, .i .i64 a.Signal.Vector.Rand, .i .i64 a.Signal.Vector.Autn, .i .i64 a.Signal.Vector.MAC, .i .i64 a.Signal.Vector.Res, .i .i64 a.Signal.Vector.Key, .i .i64 a.Signal.MAC, .i .i64 a.Radio.Generation, .i .i64 a.Radio.Epoch, .i .i64 a.Radio.Message.Direction, .i .i64 a.Radio.Message.Count, .l (a.Radio.Message.Data.map eU8), .i .i64 a.Radio.Message.MAC]
structure TNetwork where
  Map : TCellMap
  Devices : List TDevice
  Sessions : List TSession
  Accounts : List TAccount
  Flights : List TFlight
  DownCells : Int
  Core : TServerPool
  Now : Int
  Lost : Int
  deriving DecidableEq, Inhabited
def eTNetwork (a : TNetwork) : List D := [.l (a.Map.Cells.map eTCell), .l (a.Devices.map eTDevice), .l (a.Sessions.map eTSession), .l (a.Accounts.map eTAccount), .l (a.Flights.map eTFlight), .i .i64 a.DownCells, .i .i64 a.Core.Size, .i .i64 a.Core.UpMask, .i .i64 a.Now, .i .i64 a.Lost]
theorem Try.follows : Tryz.prog.follows .mixedOrders = true := Tryz.follows
end Go.AM
