/-
  Facts on the types of this translation, laid by program.
-/
import Derived.Test.YtlpclccdbmoemaaGreatAmZc
import Derived.Test.YtlpclccdbmoemaaGreatAmO
import Derived.Test.YtlpclccdbmoemaaGreatProg
namespace Go.AM
open Go.Proofs
theorem info_n {P : Program} {t : TypeId} {n : Nat} (h : (P.info? t).map (·.size) = some n) : ∃ i, P.info? t = some i ∧ i.size = n := by
  cases hi : P.info? t with
  | none => simp [hi] at h
  | some i => simp [hi] at h; exact ⟨i, rfl, h⟩
theorem info_z {P : Program} {t : TypeId} {z : Value} (h : (P.info? t).map (·.zero) = some (some z)) : ∃ i, P.info? t = some i ∧ i.zero = some z := by
  cases hi : P.info? t with
  | none => simp [hi] at h
  | some i => simp [hi] at h; exact ⟨i, rfl, h⟩
theorem info_s {P : Program} {t : TypeId} {z : Value} {n b : Nat} (h : (P.info? t).map (fun i => (i.size, i.bytes, i.zero)) = some (n, b, some z)) (hz : z.cells.size = n) : ∃ i z, P.info? t = some i ∧ i.size = n ∧ i.bytes = b ∧ i.zero = some z ∧ z.cells.size = n := by
  cases hi : P.info? t with
  | none => simp [hi] at h
  | some i => simp [hi] at h; exact ⟨i, z, rfl, h.1, h.2.1, h.2.2, hz⟩
theorem info_f {P : Program} {t : TypeId} {n : Nat} (h : (P.info? t).map (·.size) = some n) (hn : n ≠ 0) : ∃ i, P.info? t = some i ∧ i.size ≠ 0 := by
  cases hi : P.info? t with
  | none => simp [hi] at h
  | some i => simp [hi] at h; exact ⟨i, rfl, by omega⟩
-- 3: int
instance : TyN Tryz.prog 3 1 := ⟨info_n (by kernel_rfl)⟩
instance : TySc Tryz.prog 3 := ⟨fun w => by kernel_rfl, info_n (by kernel_rfl)⟩
instance : TyU Tryz.prog 3 (.int .i64) := ⟨Tryz.underlying3⟩
theorem Tryz.z3 : (Tryz.prog.info? 3).map (·.zero) = some (some (.int .i64 0)) := by kernel_rfl
instance : TyZ Tryz.prog 3 [.d false (.i .i64 0)] := ⟨by obtain ⟨i, h1, h2⟩ := info_z Tryz.z3; exact ⟨i, _, h1, h2, rfl⟩⟩
instance : TyE Tryz.prog 3 [.i .i64 0] := ⟨by obtain ⟨i, h1, h2⟩ := info_z Tryz.z3; exact ⟨i, _, h1, h2, rfl⟩⟩
-- 4: bool
instance : TyN Tryz.prog 4 1 := ⟨info_n (by kernel_rfl)⟩
instance : TySc Tryz.prog 4 := ⟨fun w => by kernel_rfl, info_n (by kernel_rfl)⟩
instance : TyU Tryz.prog 4 (.bool) := ⟨Tryz.underlying4⟩
theorem Tryz.z4 : (Tryz.prog.info? 4).map (·.zero) = some (some (.bool false)) := by kernel_rfl
instance : TyZ Tryz.prog 4 [.d false (.b false)] := ⟨by obtain ⟨i, h1, h2⟩ := info_z Tryz.z4; exact ⟨i, _, h1, h2, rfl⟩⟩
instance : TyE Tryz.prog 4 [.b false] := ⟨by obtain ⟨i, h1, h2⟩ := info_z Tryz.z4; exact ⟨i, _, h1, h2, rfl⟩⟩
-- 5: uint8
instance : TyN Tryz.prog 5 1 := ⟨info_n (by kernel_rfl)⟩
instance : TySc Tryz.prog 5 := ⟨fun w => by kernel_rfl, info_n (by kernel_rfl)⟩
instance : TyU Tryz.prog 5 (.int .u8) := ⟨Tryz.underlying5⟩
theorem Tryz.z5 : (Tryz.prog.info? 5).map (·.zero) = some (some (.int .u8 0)) := by kernel_rfl
instance : TyZ Tryz.prog 5 [.d false (.i .u8 0)] := ⟨by obtain ⟨i, h1, h2⟩ := info_z Tryz.z5; exact ⟨i, _, h1, h2, rfl⟩⟩
instance : TyE Tryz.prog 5 [.i .u8 0] := ⟨by obtain ⟨i, h1, h2⟩ := info_z Tryz.z5; exact ⟨i, _, h1, h2, rfl⟩⟩
-- 9: string
instance : TyN Tryz.prog 9 1 := ⟨info_n (by kernel_rfl)⟩
instance : TySc Tryz.prog 9 := ⟨fun w => by kernel_rfl, info_n (by kernel_rfl)⟩
instance : TyU Tryz.prog 9 (.string) := ⟨Tryz.underlying9⟩
theorem Tryz.z9 : (Tryz.prog.info? 9).map (·.zero) = some (some (.string ⟨#[]⟩)) := by kernel_rfl
instance : TyZ Tryz.prog 9 [.d false (.str ⟨#[]⟩)] := ⟨by obtain ⟨i, h1, h2⟩ := info_z Tryz.z9; exact ⟨i, _, h1, h2, rfl⟩⟩
instance : TyE Tryz.prog 9 [.str ⟨#[]⟩] := ⟨by obtain ⟨i, h1, h2⟩ := info_z Tryz.z9; exact ⟨i, _, h1, h2, rfl⟩⟩
-- 22: []uint8
instance : TyN Tryz.prog 22 1 := ⟨info_n (by kernel_rfl)⟩
instance : TySc Tryz.prog 22 := ⟨fun w => by kernel_rfl, info_n (by kernel_rfl)⟩
theorem Tryz.z22 : (Tryz.prog.info? 22).map (·.zero) = some (some (.slice none 0 0)) := by kernel_rfl
instance : TyZ Tryz.prog 22 [.nil] := ⟨by obtain ⟨i, h1, h2⟩ := info_z Tryz.z22; exact ⟨i, _, h1, h2, rfl⟩⟩
instance : TyE Tryz.prog 22 [.l []] := ⟨by obtain ⟨i, h1, h2⟩ := info_z Tryz.z22; exact ⟨i, _, h1, h2, rfl⟩⟩
instance : TySl Tryz.prog 22 5 1 1 := ⟨Tryz.underlying22, info_s (z := .int .u8 0) (by kernel_rfl) rfl, by decide⟩
-- 24: []impl.Cell
instance : TyN Tryz.prog 24 1 := ⟨info_n (by kernel_rfl)⟩
instance : TySc Tryz.prog 24 := ⟨fun w => by kernel_rfl, info_n (by kernel_rfl)⟩
theorem Tryz.z24 : (Tryz.prog.info? 24).map (·.zero) = some (some (.slice none 0 0)) := by kernel_rfl
instance : TyZ Tryz.prog 24 [.nil] := ⟨by obtain ⟨i, h1, h2⟩ := info_z Tryz.z24; exact ⟨i, _, h1, h2, rfl⟩⟩
instance : TyE Tryz.prog 24 [.l []] := ⟨by obtain ⟨i, h1, h2⟩ := info_z Tryz.z24; exact ⟨i, _, h1, h2, rfl⟩⟩
instance : TySl Tryz.prog 24 102 2 32 := ⟨Tryz.underlying24, info_s (z := .agg #[.int .i64 0, .slice none 0 0]) (by kernel_rfl) rfl, by decide⟩
-- 26: impl.CellMap
instance : TyN Tryz.prog 26 1 := ⟨info_n (by kernel_rfl)⟩
instance : TyAg Tryz.prog 26 1 := ⟨fun w => by kernel_rfl, info_n (by kernel_rfl)⟩
theorem Tryz.z26 : (Tryz.prog.info? 26).map (·.zero) = some (some (.agg #[.slice none 0 0])) := by kernel_rfl
instance : TyZ Tryz.prog 26 [.nil] := ⟨by obtain ⟨i, h1, h2⟩ := info_z Tryz.z26; exact ⟨i, _, h1, h2, rfl⟩⟩
instance : TyE Tryz.prog 26 [.l []] := ⟨by obtain ⟨i, h1, h2⟩ := info_z Tryz.z26; exact ⟨i, _, h1, h2, rfl⟩⟩
instance : TyB Tryz.prog 26 [(0, 1)] := ⟨_, Tryz.underlying26, fun w => by kernel_rfl⟩
instance : TyF Tryz.prog 26 0 0 24 := ⟨_, _, Tryz.underlying26, rfl, rfl, rfl, info_f (n := 1) (by kernel_rfl) (by decide)⟩
-- 27: []impl.SubscriberRecord
instance : TyN Tryz.prog 27 1 := ⟨info_n (by kernel_rfl)⟩
instance : TySc Tryz.prog 27 := ⟨fun w => by kernel_rfl, info_n (by kernel_rfl)⟩
theorem Tryz.z27 : (Tryz.prog.info? 27).map (·.zero) = some (some (.slice none 0 0)) := by kernel_rfl
instance : TyZ Tryz.prog 27 [.nil] := ⟨by obtain ⟨i, h1, h2⟩ := info_z Tryz.z27; exact ⟨i, _, h1, h2, rfl⟩⟩
instance : TyE Tryz.prog 27 [.l []] := ⟨by obtain ⟨i, h1, h2⟩ := info_z Tryz.z27; exact ⟨i, _, h1, h2, rfl⟩⟩
instance : TySl Tryz.prog 27 54 4 32 := ⟨Tryz.underlying27, info_s (z := .agg #[.int .i64 0, .int .i64 0, .int .i64 0, .int .i64 0]) (by kernel_rfl) rfl, by decide⟩
-- 28: []int
instance : TyN Tryz.prog 28 1 := ⟨info_n (by kernel_rfl)⟩
instance : TySc Tryz.prog 28 := ⟨fun w => by kernel_rfl, info_n (by kernel_rfl)⟩
theorem Tryz.z28 : (Tryz.prog.info? 28).map (·.zero) = some (some (.slice none 0 0)) := by kernel_rfl
instance : TyZ Tryz.prog 28 [.nil] := ⟨by obtain ⟨i, h1, h2⟩ := info_z Tryz.z28; exact ⟨i, _, h1, h2, rfl⟩⟩
instance : TyE Tryz.prog 28 [.l []] := ⟨by obtain ⟨i, h1, h2⟩ := info_z Tryz.z28; exact ⟨i, _, h1, h2, rfl⟩⟩
instance : TySl Tryz.prog 28 3 1 8 := ⟨Tryz.underlying28, info_s (z := .int .i64 0) (by kernel_rfl) rfl, by decide⟩
-- 30: impl.Subscription
instance : TyN Tryz.prog 30 4 := ⟨info_n (by kernel_rfl)⟩
instance : TyAg Tryz.prog 30 4 := ⟨fun w => by kernel_rfl, info_n (by kernel_rfl)⟩
theorem Tryz.z30 : (Tryz.prog.info? 30).map (·.zero) = some (some (.agg #[.int .i64 0, .int .i64 0, .int .i64 0, .slice none 0 0])) := by kernel_rfl
instance : TyZ Tryz.prog 30 [.d false (.i .i64 0), .d false (.i .i64 0), .d false (.i .i64 0), .nil] := ⟨by obtain ⟨i, h1, h2⟩ := info_z Tryz.z30; exact ⟨i, _, h1, h2, rfl⟩⟩
instance : TyE Tryz.prog 30 [.i .i64 0, .i .i64 0, .i .i64 0, .l []] := ⟨by obtain ⟨i, h1, h2⟩ := info_z Tryz.z30; exact ⟨i, _, h1, h2, rfl⟩⟩
instance : TyB Tryz.prog 30 [(0, 1), (1, 1), (2, 1), (3, 1)] := ⟨_, Tryz.underlying30, fun w => by kernel_rfl⟩
instance : TyF Tryz.prog 30 0 0 3 := ⟨_, _, Tryz.underlying30, rfl, rfl, rfl, info_f (n := 1) (by kernel_rfl) (by decide)⟩
instance : TyF Tryz.prog 30 1 1 3 := ⟨_, _, Tryz.underlying30, rfl, rfl, rfl, info_f (n := 1) (by kernel_rfl) (by decide)⟩
instance : TyF Tryz.prog 30 2 2 3 := ⟨_, _, Tryz.underlying30, rfl, rfl, rfl, info_f (n := 1) (by kernel_rfl) (by decide)⟩
instance : TyF Tryz.prog 30 3 3 28 := ⟨_, _, Tryz.underlying30, rfl, rfl, rfl, info_f (n := 1) (by kernel_rfl) (by decide)⟩
-- 33: []impl.Device
instance : TyN Tryz.prog 33 1 := ⟨info_n (by kernel_rfl)⟩
instance : TySc Tryz.prog 33 := ⟨fun w => by kernel_rfl, info_n (by kernel_rfl)⟩
theorem Tryz.z33 : (Tryz.prog.info? 33).map (·.zero) = some (some (.slice none 0 0)) := by kernel_rfl
instance : TyZ Tryz.prog 33 [.nil] := ⟨by obtain ⟨i, h1, h2⟩ := info_z Tryz.z33; exact ⟨i, _, h1, h2, rfl⟩⟩
instance : TyE Tryz.prog 33 [.l []] := ⟨by obtain ⟨i, h1, h2⟩ := info_z Tryz.z33; exact ⟨i, _, h1, h2, rfl⟩⟩
instance : TySl Tryz.prog 33 52 14 144 := ⟨Tryz.underlying33, info_s (z := .agg #[.int .i64 0, .int .i64 0, .int .i64 0, .int .i64 0, .int .i64 0, .int .i64 0, .int .i64 0, .int .i64 0, .int .i64 0, .bool false, .int .i64 0, .int .i64 0, .slice none 0 0, .slice none 0 0]) (by kernel_rfl) rfl, by decide⟩
-- 34: []impl.Session
instance : TyN Tryz.prog 34 1 := ⟨info_n (by kernel_rfl)⟩
instance : TySc Tryz.prog 34 := ⟨fun w => by kernel_rfl, info_n (by kernel_rfl)⟩
theorem Tryz.z34 : (Tryz.prog.info? 34).map (·.zero) = some (some (.slice none 0 0)) := by kernel_rfl
instance : TyZ Tryz.prog 34 [.nil] := ⟨by obtain ⟨i, h1, h2⟩ := info_z Tryz.z34; exact ⟨i, _, h1, h2, rfl⟩⟩
instance : TyE Tryz.prog 34 [.l []] := ⟨by obtain ⟨i, h1, h2⟩ := info_z Tryz.z34; exact ⟨i, _, h1, h2, rfl⟩⟩
instance : TySl Tryz.prog 34 65 30 288 := ⟨Tryz.underlying34, info_s (z := .agg #[.int .i64 0, .int .i64 0, .int .i64 0, .int .i64 0, .int .i64 0, .int .i64 0, .int .i64 0, .slice none 0 0, .int .i64 0, .int .i64 0, .int .i64 0, .int .i64 0, .int .i64 0, .int .i64 0, .int .i64 0, .int .i64 0, .int .i64 0, .int .i64 0, .int .i64 0, .int .i64 0, .int .i64 0, .int .i64 0, .int .i64 0, .slice none 0 0, .int .i64 0, .slice none 0 0, .int .i64 0, .int .i64 0, .int .i64 0, .int .i64 0]) (by kernel_rfl) rfl, by decide⟩
-- 35: []impl.Account
instance : TyN Tryz.prog 35 1 := ⟨info_n (by kernel_rfl)⟩
instance : TySc Tryz.prog 35 := ⟨fun w => by kernel_rfl, info_n (by kernel_rfl)⟩
theorem Tryz.z35 : (Tryz.prog.info? 35).map (·.zero) = some (some (.slice none 0 0)) := by kernel_rfl
instance : TyZ Tryz.prog 35 [.nil] := ⟨by obtain ⟨i, h1, h2⟩ := info_z Tryz.z35; exact ⟨i, _, h1, h2, rfl⟩⟩
instance : TyE Tryz.prog 35 [.l []] := ⟨by obtain ⟨i, h1, h2⟩ := info_z Tryz.z35; exact ⟨i, _, h1, h2, rfl⟩⟩
instance : TySl Tryz.prog 35 68 4 48 := ⟨Tryz.underlying35, info_s (z := .agg #[.int .i64 0, .int .i64 0, .int .i64 0, .slice none 0 0]) (by kernel_rfl) rfl, by decide⟩
-- 36: []impl.Flight
instance : TyN Tryz.prog 36 1 := ⟨info_n (by kernel_rfl)⟩
instance : TySc Tryz.prog 36 := ⟨fun w => by kernel_rfl, info_n (by kernel_rfl)⟩
theorem Tryz.z36 : (Tryz.prog.info? 36).map (·.zero) = some (some (.slice none 0 0)) := by kernel_rfl
instance : TyZ Tryz.prog 36 [.nil] := ⟨by obtain ⟨i, h1, h2⟩ := info_z Tryz.z36; exact ⟨i, _, h1, h2, rfl⟩⟩
instance : TyE Tryz.prog 36 [.l []] := ⟨by obtain ⟨i, h1, h2⟩ := info_z Tryz.z36; exact ⟨i, _, h1, h2, rfl⟩⟩
instance : TySl Tryz.prog 36 95 21 176 := ⟨Tryz.underlying36, info_s (z := .agg #[.int .i64 0, .bool false, .bool false, .int .i64 0, .int .i64 0, .int .i64 0, .int .i64 0, .int .i64 0, .int .i64 0, .int .i64 0, .int .i64 0, .int .i64 0, .int .i64 0, .int .i64 0, .int .i64 0, .int .i64 0, .int .i64 0, .int .i64 0, .int .i64 0, .slice none 0 0, .int .i64 0]) (by kernel_rfl) rfl, by decide⟩
-- 38: impl.ServerPool
instance : TyN Tryz.prog 38 2 := ⟨info_n (by kernel_rfl)⟩
instance : TyAg Tryz.prog 38 2 := ⟨fun w => by kernel_rfl, info_n (by kernel_rfl)⟩
theorem Tryz.z38 : (Tryz.prog.info? 38).map (·.zero) = some (some (.agg #[.int .i64 0, .int .i64 0])) := by kernel_rfl
instance : TyZ Tryz.prog 38 [.d false (.i .i64 0), .d false (.i .i64 0)] := ⟨by obtain ⟨i, h1, h2⟩ := info_z Tryz.z38; exact ⟨i, _, h1, h2, rfl⟩⟩
instance : TyE Tryz.prog 38 [.i .i64 0, .i .i64 0] := ⟨by obtain ⟨i, h1, h2⟩ := info_z Tryz.z38; exact ⟨i, _, h1, h2, rfl⟩⟩
instance : TyB Tryz.prog 38 [(0, 1), (1, 1)] := ⟨_, Tryz.underlying38, fun w => by kernel_rfl⟩
instance : TyF Tryz.prog 38 0 0 3 := ⟨_, _, Tryz.underlying38, rfl, rfl, rfl, info_f (n := 1) (by kernel_rfl) (by decide)⟩
instance : TyF Tryz.prog 38 1 1 3 := ⟨_, _, Tryz.underlying38, rfl, rfl, rfl, info_f (n := 1) (by kernel_rfl) (by decide)⟩
-- 40: impl.Network
instance : TyN Tryz.prog 40 10 := ⟨info_n (by kernel_rfl)⟩
instance : TyAg Tryz.prog 40 10 := ⟨fun w => by kernel_rfl, info_n (by kernel_rfl)⟩
theorem Tryz.z40 : (Tryz.prog.info? 40).map (·.zero) = some (some (.agg #[.slice none 0 0, .slice none 0 0, .slice none 0 0, .slice none 0 0, .slice none 0 0, .int .i64 0, .int .i64 0, .int .i64 0, .int .i64 0, .int .i64 0])) := by kernel_rfl
instance : TyZ Tryz.prog 40 [.nil, .nil, .nil, .nil, .nil, .d false (.i .i64 0), .d false (.i .i64 0), .d false (.i .i64 0), .d false (.i .i64 0), .d false (.i .i64 0)] := ⟨by obtain ⟨i, h1, h2⟩ := info_z Tryz.z40; exact ⟨i, _, h1, h2, rfl⟩⟩
instance : TyE Tryz.prog 40 [.l [], .l [], .l [], .l [], .l [], .i .i64 0, .i .i64 0, .i .i64 0, .i .i64 0, .i .i64 0] := ⟨by obtain ⟨i, h1, h2⟩ := info_z Tryz.z40; exact ⟨i, _, h1, h2, rfl⟩⟩
instance : TyB Tryz.prog 40 [(0, 1), (1, 1), (2, 1), (3, 1), (4, 1), (5, 1), (6, 2), (8, 1), (9, 1)] := ⟨_, Tryz.underlying40, fun w => by kernel_rfl⟩
instance : TyF Tryz.prog 40 0 0 26 := ⟨_, _, Tryz.underlying40, rfl, rfl, rfl, info_f (n := 1) (by kernel_rfl) (by decide)⟩
instance : TyF Tryz.prog 40 1 1 33 := ⟨_, _, Tryz.underlying40, rfl, rfl, rfl, info_f (n := 1) (by kernel_rfl) (by decide)⟩
instance : TyF Tryz.prog 40 2 2 34 := ⟨_, _, Tryz.underlying40, rfl, rfl, rfl, info_f (n := 1) (by kernel_rfl) (by decide)⟩
instance : TyF Tryz.prog 40 3 3 35 := ⟨_, _, Tryz.underlying40, rfl, rfl, rfl, info_f (n := 1) (by kernel_rfl) (by decide)⟩
instance : TyF Tryz.prog 40 4 4 36 := ⟨_, _, Tryz.underlying40, rfl, rfl, rfl, info_f (n := 1) (by kernel_rfl) (by decide)⟩
instance : TyF Tryz.prog 40 5 5 3 := ⟨_, _, Tryz.underlying40, rfl, rfl, rfl, info_f (n := 1) (by kernel_rfl) (by decide)⟩
instance : TyF Tryz.prog 40 6 6 38 := ⟨_, _, Tryz.underlying40, rfl, rfl, rfl, info_f (n := 2) (by kernel_rfl) (by decide)⟩
instance : TyF Tryz.prog 40 7 8 3 := ⟨_, _, Tryz.underlying40, rfl, rfl, rfl, info_f (n := 1) (by kernel_rfl) (by decide)⟩
instance : TyF Tryz.prog 40 8 9 3 := ⟨_, _, Tryz.underlying40, rfl, rfl, rfl, info_f (n := 1) (by kernel_rfl) (by decide)⟩
-- 44: impl.SubscriberID
instance : TyN Tryz.prog 44 2 := ⟨info_n (by kernel_rfl)⟩
instance : TyAg Tryz.prog 44 2 := ⟨fun w => by kernel_rfl, info_n (by kernel_rfl)⟩
theorem Tryz.z44 : (Tryz.prog.info? 44).map (·.zero) = some (some (.agg #[.int .i64 0, .int .i64 0])) := by kernel_rfl
instance : TyZ Tryz.prog 44 [.d false (.i .i64 0), .d false (.i .i64 0)] := ⟨by obtain ⟨i, h1, h2⟩ := info_z Tryz.z44; exact ⟨i, _, h1, h2, rfl⟩⟩
instance : TyE Tryz.prog 44 [.i .i64 0, .i .i64 0] := ⟨by obtain ⟨i, h1, h2⟩ := info_z Tryz.z44; exact ⟨i, _, h1, h2, rfl⟩⟩
instance : TyB Tryz.prog 44 [(0, 1), (1, 1)] := ⟨_, Tryz.underlying44, fun w => by kernel_rfl⟩
instance : TyF Tryz.prog 44 0 0 3 := ⟨_, _, Tryz.underlying44, rfl, rfl, rfl, info_f (n := 1) (by kernel_rfl) (by decide)⟩
instance : TyF Tryz.prog 44 1 1 3 := ⟨_, _, Tryz.underlying44, rfl, rfl, rfl, info_f (n := 1) (by kernel_rfl) (by decide)⟩
-- 46: impl.USIM
instance : TyN Tryz.prog 46 4 := ⟨info_n (by kernel_rfl)⟩
instance : TyAg Tryz.prog 46 4 := ⟨fun w => by kernel_rfl, info_n (by kernel_rfl)⟩
theorem Tryz.z46 : (Tryz.prog.info? 46).map (·.zero) = some (some (.agg #[.int .i64 0, .int .i64 0, .int .i64 0, .int .i64 0])) := by kernel_rfl
instance : TyZ Tryz.prog 46 [.d false (.i .i64 0), .d false (.i .i64 0), .d false (.i .i64 0), .d false (.i .i64 0)] := ⟨by obtain ⟨i, h1, h2⟩ := info_z Tryz.z46; exact ⟨i, _, h1, h2, rfl⟩⟩
instance : TyE Tryz.prog 46 [.i .i64 0, .i .i64 0, .i .i64 0, .i .i64 0] := ⟨by obtain ⟨i, h1, h2⟩ := info_z Tryz.z46; exact ⟨i, _, h1, h2, rfl⟩⟩
instance : TyB Tryz.prog 46 [(0, 2), (2, 1), (3, 1)] := ⟨_, Tryz.underlying46, fun w => by kernel_rfl⟩
instance : TyF Tryz.prog 46 0 0 44 := ⟨_, _, Tryz.underlying46, rfl, rfl, rfl, info_f (n := 2) (by kernel_rfl) (by decide)⟩
instance : TyF Tryz.prog 46 1 2 3 := ⟨_, _, Tryz.underlying46, rfl, rfl, rfl, info_f (n := 1) (by kernel_rfl) (by decide)⟩
instance : TyF Tryz.prog 46 2 3 3 := ⟨_, _, Tryz.underlying46, rfl, rfl, rfl, info_f (n := 1) (by kernel_rfl) (by decide)⟩
-- 47: []impl.NumberedPacket
instance : TyN Tryz.prog 47 1 := ⟨info_n (by kernel_rfl)⟩
instance : TySc Tryz.prog 47 := ⟨fun w => by kernel_rfl, info_n (by kernel_rfl)⟩
theorem Tryz.z47 : (Tryz.prog.info? 47).map (·.zero) = some (some (.slice none 0 0)) := by kernel_rfl
instance : TyZ Tryz.prog 47 [.nil] := ⟨by obtain ⟨i, h1, h2⟩ := info_z Tryz.z47; exact ⟨i, _, h1, h2, rfl⟩⟩
instance : TyE Tryz.prog 47 [.l []] := ⟨by obtain ⟨i, h1, h2⟩ := info_z Tryz.z47; exact ⟨i, _, h1, h2, rfl⟩⟩
instance : TySl Tryz.prog 47 134 2 32 := ⟨Tryz.underlying47, info_s (z := .agg #[.int .i64 0, .slice none 0 0]) (by kernel_rfl) rfl, by decide⟩
-- 48: []impl.Payload
instance : TyN Tryz.prog 48 1 := ⟨info_n (by kernel_rfl)⟩
instance : TySc Tryz.prog 48 := ⟨fun w => by kernel_rfl, info_n (by kernel_rfl)⟩
theorem Tryz.z48 : (Tryz.prog.info? 48).map (·.zero) = some (some (.slice none 0 0)) := by kernel_rfl
instance : TyZ Tryz.prog 48 [.nil] := ⟨by obtain ⟨i, h1, h2⟩ := info_z Tryz.z48; exact ⟨i, _, h1, h2, rfl⟩⟩
instance : TyE Tryz.prog 48 [.l []] := ⟨by obtain ⟨i, h1, h2⟩ := info_z Tryz.z48; exact ⟨i, _, h1, h2, rfl⟩⟩
instance : TySl Tryz.prog 48 137 1 24 := ⟨Tryz.underlying48, info_s (z := .agg #[.slice none 0 0]) (by kernel_rfl) rfl, by decide⟩
-- 50: impl.ReceiveWindow
instance : TyN Tryz.prog 50 3 := ⟨info_n (by kernel_rfl)⟩
instance : TyAg Tryz.prog 50 3 := ⟨fun w => by kernel_rfl, info_n (by kernel_rfl)⟩
theorem Tryz.z50 : (Tryz.prog.info? 50).map (·.zero) = some (some (.agg #[.int .i64 0, .slice none 0 0, .slice none 0 0])) := by kernel_rfl
instance : TyZ Tryz.prog 50 [.d false (.i .i64 0), .nil, .nil] := ⟨by obtain ⟨i, h1, h2⟩ := info_z Tryz.z50; exact ⟨i, _, h1, h2, rfl⟩⟩
instance : TyE Tryz.prog 50 [.i .i64 0, .l [], .l []] := ⟨by obtain ⟨i, h1, h2⟩ := info_z Tryz.z50; exact ⟨i, _, h1, h2, rfl⟩⟩
instance : TyB Tryz.prog 50 [(0, 1), (1, 1), (2, 1)] := ⟨_, Tryz.underlying50, fun w => by kernel_rfl⟩
instance : TyF Tryz.prog 50 0 0 3 := ⟨_, _, Tryz.underlying50, rfl, rfl, rfl, info_f (n := 1) (by kernel_rfl) (by decide)⟩
instance : TyF Tryz.prog 50 1 1 47 := ⟨_, _, Tryz.underlying50, rfl, rfl, rfl, info_f (n := 1) (by kernel_rfl) (by decide)⟩
instance : TyF Tryz.prog 50 2 2 48 := ⟨_, _, Tryz.underlying50, rfl, rfl, rfl, info_f (n := 1) (by kernel_rfl) (by decide)⟩
-- 52: impl.Device
instance : TyN Tryz.prog 52 14 := ⟨info_n (by kernel_rfl)⟩
instance : TyAg Tryz.prog 52 14 := ⟨fun w => by kernel_rfl, info_n (by kernel_rfl)⟩
theorem Tryz.z52 : (Tryz.prog.info? 52).map (·.zero) = some (some (.agg #[.int .i64 0, .int .i64 0, .int .i64 0, .int .i64 0, .int .i64 0, .int .i64 0, .int .i64 0, .int .i64 0, .int .i64 0, .bool false, .int .i64 0, .int .i64 0, .slice none 0 0, .slice none 0 0])) := by kernel_rfl
instance : TyZ Tryz.prog 52 [.d false (.i .i64 0), .d false (.i .i64 0), .d false (.i .i64 0), .d false (.i .i64 0), .d false (.i .i64 0), .d false (.i .i64 0), .d false (.i .i64 0), .d false (.i .i64 0), .d false (.i .i64 0), .d false (.b false), .d false (.i .i64 0), .d false (.i .i64 0), .nil, .nil] := ⟨by obtain ⟨i, h1, h2⟩ := info_z Tryz.z52; exact ⟨i, _, h1, h2, rfl⟩⟩
instance : TyE Tryz.prog 52 [.i .i64 0, .i .i64 0, .i .i64 0, .i .i64 0, .i .i64 0, .i .i64 0, .i .i64 0, .i .i64 0, .i .i64 0, .b false, .i .i64 0, .i .i64 0, .l [], .l []] := ⟨by obtain ⟨i, h1, h2⟩ := info_z Tryz.z52; exact ⟨i, _, h1, h2, rfl⟩⟩
instance : TyB Tryz.prog 52 [(0, 4), (4, 1), (5, 1), (6, 1), (7, 1), (8, 1), (9, 1), (10, 1), (11, 3)] := ⟨_, Tryz.underlying52, fun w => by kernel_rfl⟩
instance : TyF Tryz.prog 52 0 0 46 := ⟨_, _, Tryz.underlying52, rfl, rfl, rfl, info_f (n := 4) (by kernel_rfl) (by decide)⟩
instance : TyF Tryz.prog 52 1 4 3 := ⟨_, _, Tryz.underlying52, rfl, rfl, rfl, info_f (n := 1) (by kernel_rfl) (by decide)⟩
instance : TyF Tryz.prog 52 2 5 3 := ⟨_, _, Tryz.underlying52, rfl, rfl, rfl, info_f (n := 1) (by kernel_rfl) (by decide)⟩
instance : TyF Tryz.prog 52 3 6 3 := ⟨_, _, Tryz.underlying52, rfl, rfl, rfl, info_f (n := 1) (by kernel_rfl) (by decide)⟩
instance : TyF Tryz.prog 52 4 7 3 := ⟨_, _, Tryz.underlying52, rfl, rfl, rfl, info_f (n := 1) (by kernel_rfl) (by decide)⟩
instance : TyF Tryz.prog 52 5 8 3 := ⟨_, _, Tryz.underlying52, rfl, rfl, rfl, info_f (n := 1) (by kernel_rfl) (by decide)⟩
instance : TyF Tryz.prog 52 6 9 4 := ⟨_, _, Tryz.underlying52, rfl, rfl, rfl, info_f (n := 1) (by kernel_rfl) (by decide)⟩
instance : TyF Tryz.prog 52 7 10 3 := ⟨_, _, Tryz.underlying52, rfl, rfl, rfl, info_f (n := 1) (by kernel_rfl) (by decide)⟩
instance : TyF Tryz.prog 52 8 11 50 := ⟨_, _, Tryz.underlying52, rfl, rfl, rfl, info_f (n := 3) (by kernel_rfl) (by decide)⟩
-- 54: impl.SubscriberRecord
instance : TyN Tryz.prog 54 4 := ⟨info_n (by kernel_rfl)⟩
instance : TyAg Tryz.prog 54 4 := ⟨fun w => by kernel_rfl, info_n (by kernel_rfl)⟩
theorem Tryz.z54 : (Tryz.prog.info? 54).map (·.zero) = some (some (.agg #[.int .i64 0, .int .i64 0, .int .i64 0, .int .i64 0])) := by kernel_rfl
instance : TyZ Tryz.prog 54 [.d false (.i .i64 0), .d false (.i .i64 0), .d false (.i .i64 0), .d false (.i .i64 0)] := ⟨by obtain ⟨i, h1, h2⟩ := info_z Tryz.z54; exact ⟨i, _, h1, h2, rfl⟩⟩
instance : TyE Tryz.prog 54 [.i .i64 0, .i .i64 0, .i .i64 0, .i .i64 0] := ⟨by obtain ⟨i, h1, h2⟩ := info_z Tryz.z54; exact ⟨i, _, h1, h2, rfl⟩⟩
instance : TyB Tryz.prog 54 [(0, 2), (2, 1), (3, 1)] := ⟨_, Tryz.underlying54, fun w => by kernel_rfl⟩
instance : TyF Tryz.prog 54 0 0 44 := ⟨_, _, Tryz.underlying54, rfl, rfl, rfl, info_f (n := 2) (by kernel_rfl) (by decide)⟩
instance : TyF Tryz.prog 54 1 2 3 := ⟨_, _, Tryz.underlying54, rfl, rfl, rfl, info_f (n := 1) (by kernel_rfl) (by decide)⟩
instance : TyF Tryz.prog 54 2 3 3 := ⟨_, _, Tryz.underlying54, rfl, rfl, rfl, info_f (n := 1) (by kernel_rfl) (by decide)⟩
-- 57: impl.AuthVector
instance : TyN Tryz.prog 57 5 := ⟨info_n (by kernel_rfl)⟩
instance : TyAg Tryz.prog 57 5 := ⟨fun w => by kernel_rfl, info_n (by kernel_rfl)⟩
theorem Tryz.z57 : (Tryz.prog.info? 57).map (·.zero) = some (some (.agg #[.int .i64 0, .int .i64 0, .int .i64 0, .int .i64 0, .int .i64 0])) := by kernel_rfl
instance : TyZ Tryz.prog 57 [.d false (.i .i64 0), .d false (.i .i64 0), .d false (.i .i64 0), .d false (.i .i64 0), .d false (.i .i64 0)] := ⟨by obtain ⟨i, h1, h2⟩ := info_z Tryz.z57; exact ⟨i, _, h1, h2, rfl⟩⟩
instance : TyE Tryz.prog 57 [.i .i64 0, .i .i64 0, .i .i64 0, .i .i64 0, .i .i64 0] := ⟨by obtain ⟨i, h1, h2⟩ := info_z Tryz.z57; exact ⟨i, _, h1, h2, rfl⟩⟩
instance : TyB Tryz.prog 57 [(0, 1), (1, 1), (2, 1), (3, 1), (4, 1)] := ⟨_, Tryz.underlying57, fun w => by kernel_rfl⟩
instance : TyF Tryz.prog 57 0 0 3 := ⟨_, _, Tryz.underlying57, rfl, rfl, rfl, info_f (n := 1) (by kernel_rfl) (by decide)⟩
instance : TyF Tryz.prog 57 1 1 3 := ⟨_, _, Tryz.underlying57, rfl, rfl, rfl, info_f (n := 1) (by kernel_rfl) (by decide)⟩
instance : TyF Tryz.prog 57 2 2 3 := ⟨_, _, Tryz.underlying57, rfl, rfl, rfl, info_f (n := 1) (by kernel_rfl) (by decide)⟩
instance : TyF Tryz.prog 57 3 3 3 := ⟨_, _, Tryz.underlying57, rfl, rfl, rfl, info_f (n := 1) (by kernel_rfl) (by decide)⟩
instance : TyF Tryz.prog 57 4 4 3 := ⟨_, _, Tryz.underlying57, rfl, rfl, rfl, info_f (n := 1) (by kernel_rfl) (by decide)⟩
-- 59: impl.PagingState
instance : TyN Tryz.prog 59 3 := ⟨info_n (by kernel_rfl)⟩
instance : TyAg Tryz.prog 59 3 := ⟨fun w => by kernel_rfl, info_n (by kernel_rfl)⟩
theorem Tryz.z59 : (Tryz.prog.info? 59).map (·.zero) = some (some (.agg #[.int .i64 0, .int .i64 0, .int .i64 0])) := by kernel_rfl
instance : TyZ Tryz.prog 59 [.d false (.i .i64 0), .d false (.i .i64 0), .d false (.i .i64 0)] := ⟨by obtain ⟨i, h1, h2⟩ := info_z Tryz.z59; exact ⟨i, _, h1, h2, rfl⟩⟩
instance : TyE Tryz.prog 59 [.i .i64 0, .i .i64 0, .i .i64 0] := ⟨by obtain ⟨i, h1, h2⟩ := info_z Tryz.z59; exact ⟨i, _, h1, h2, rfl⟩⟩
instance : TyB Tryz.prog 59 [(0, 1), (1, 1), (2, 1)] := ⟨_, Tryz.underlying59, fun w => by kernel_rfl⟩
instance : TyF Tryz.prog 59 0 0 3 := ⟨_, _, Tryz.underlying59, rfl, rfl, rfl, info_f (n := 1) (by kernel_rfl) (by decide)⟩
instance : TyF Tryz.prog 59 1 1 3 := ⟨_, _, Tryz.underlying59, rfl, rfl, rfl, info_f (n := 1) (by kernel_rfl) (by decide)⟩
instance : TyF Tryz.prog 59 2 2 3 := ⟨_, _, Tryz.underlying59, rfl, rfl, rfl, info_f (n := 1) (by kernel_rfl) (by decide)⟩
-- 61: impl.SendWindow
instance : TyN Tryz.prog 61 2 := ⟨info_n (by kernel_rfl)⟩
instance : TyAg Tryz.prog 61 2 := ⟨fun w => by kernel_rfl, info_n (by kernel_rfl)⟩
theorem Tryz.z61 : (Tryz.prog.info? 61).map (·.zero) = some (some (.agg #[.int .i64 0, .slice none 0 0])) := by kernel_rfl
instance : TyZ Tryz.prog 61 [.d false (.i .i64 0), .nil] := ⟨by obtain ⟨i, h1, h2⟩ := info_z Tryz.z61; exact ⟨i, _, h1, h2, rfl⟩⟩
instance : TyE Tryz.prog 61 [.i .i64 0, .l []] := ⟨by obtain ⟨i, h1, h2⟩ := info_z Tryz.z61; exact ⟨i, _, h1, h2, rfl⟩⟩
instance : TyB Tryz.prog 61 [(0, 1), (1, 1)] := ⟨_, Tryz.underlying61, fun w => by kernel_rfl⟩
instance : TyF Tryz.prog 61 0 0 3 := ⟨_, _, Tryz.underlying61, rfl, rfl, rfl, info_f (n := 1) (by kernel_rfl) (by decide)⟩
instance : TyF Tryz.prog 61 1 1 47 := ⟨_, _, Tryz.underlying61, rfl, rfl, rfl, info_f (n := 1) (by kernel_rfl) (by decide)⟩
-- 63: impl.Quota
instance : TyN Tryz.prog 63 3 := ⟨info_n (by kernel_rfl)⟩
instance : TyAg Tryz.prog 63 3 := ⟨fun w => by kernel_rfl, info_n (by kernel_rfl)⟩
theorem Tryz.z63 : (Tryz.prog.info? 63).map (·.zero) = some (some (.agg #[.int .i64 0, .int .i64 0, .int .i64 0])) := by kernel_rfl
instance : TyZ Tryz.prog 63 [.d false (.i .i64 0), .d false (.i .i64 0), .d false (.i .i64 0)] := ⟨by obtain ⟨i, h1, h2⟩ := info_z Tryz.z63; exact ⟨i, _, h1, h2, rfl⟩⟩
instance : TyE Tryz.prog 63 [.i .i64 0, .i .i64 0, .i .i64 0] := ⟨by obtain ⟨i, h1, h2⟩ := info_z Tryz.z63; exact ⟨i, _, h1, h2, rfl⟩⟩
instance : TyB Tryz.prog 63 [(0, 1), (1, 1), (2, 1)] := ⟨_, Tryz.underlying63, fun w => by kernel_rfl⟩
instance : TyF Tryz.prog 63 0 0 3 := ⟨_, _, Tryz.underlying63, rfl, rfl, rfl, info_f (n := 1) (by kernel_rfl) (by decide)⟩
instance : TyF Tryz.prog 63 1 1 3 := ⟨_, _, Tryz.underlying63, rfl, rfl, rfl, info_f (n := 1) (by kernel_rfl) (by decide)⟩
instance : TyF Tryz.prog 63 2 2 3 := ⟨_, _, Tryz.underlying63, rfl, rfl, rfl, info_f (n := 1) (by kernel_rfl) (by decide)⟩
-- 65: impl.Session
instance : TyN Tryz.prog 65 30 := ⟨info_n (by kernel_rfl)⟩
instance : TyAg Tryz.prog 65 30 := ⟨fun w => by kernel_rfl, info_n (by kernel_rfl)⟩
theorem Tryz.z65 : (Tryz.prog.info? 65).map (·.zero) = some (some (.agg #[.int .i64 0, .int .i64 0, .int .i64 0, .int .i64 0, .int .i64 0, .int .i64 0, .int .i64 0, .slice none 0 0, .int .i64 0, .int .i64 0, .int .i64 0, .int .i64 0, .int .i64 0, .int .i64 0, .int .i64 0, .int .i64 0, .int .i64 0, .int .i64 0, .int .i64 0, .int .i64 0, .int .i64 0, .int .i64 0, .int .i64 0, .slice none 0 0, .int .i64 0, .slice none 0 0, .int .i64 0, .int .i64 0, .int .i64 0, .int .i64 0])) := by kernel_rfl
instance : TyZ Tryz.prog 65 [.d false (.i .i64 0), .d false (.i .i64 0), .d false (.i .i64 0), .d false (.i .i64 0), .d false (.i .i64 0), .d false (.i .i64 0), .d false (.i .i64 0), .nil, .d false (.i .i64 0), .d false (.i .i64 0), .d false (.i .i64 0), .d false (.i .i64 0), .d false (.i .i64 0), .d false (.i .i64 0), .d false (.i .i64 0), .d false (.i .i64 0), .d false (.i .i64 0), .d false (.i .i64 0), .d false (.i .i64 0), .d false (.i .i64 0), .d false (.i .i64 0), .d false (.i .i64 0), .d false (.i .i64 0), .nil, .d false (.i .i64 0), .nil, .d false (.i .i64 0), .d false (.i .i64 0), .d false (.i .i64 0), .d false (.i .i64 0)] := ⟨by obtain ⟨i, h1, h2⟩ := info_z Tryz.z65; exact ⟨i, _, h1, h2, rfl⟩⟩
instance : TyE Tryz.prog 65 [.i .i64 0, .i .i64 0, .i .i64 0, .i .i64 0, .i .i64 0, .i .i64 0, .i .i64 0, .l [], .i .i64 0, .i .i64 0, .i .i64 0, .i .i64 0, .i .i64 0, .i .i64 0, .i .i64 0, .i .i64 0, .i .i64 0, .i .i64 0, .i .i64 0, .i .i64 0, .i .i64 0, .i .i64 0, .i .i64 0, .l [], .i .i64 0, .l [], .i .i64 0, .i .i64 0, .i .i64 0, .i .i64 0] := ⟨by obtain ⟨i, h1, h2⟩ := info_z Tryz.z65; exact ⟨i, _, h1, h2, rfl⟩⟩
instance : TyB Tryz.prog 65 [(0, 4), (4, 4), (8, 1), (9, 5), (14, 1), (15, 1), (16, 1), (17, 1), (18, 1), (19, 1), (20, 3), (23, 1), (24, 2), (26, 1), (27, 3)] := ⟨_, Tryz.underlying65, fun w => by kernel_rfl⟩
instance : TyF Tryz.prog 65 0 0 54 := ⟨_, _, Tryz.underlying65, rfl, rfl, rfl, info_f (n := 4) (by kernel_rfl) (by decide)⟩
instance : TyF Tryz.prog 65 1 4 30 := ⟨_, _, Tryz.underlying65, rfl, rfl, rfl, info_f (n := 4) (by kernel_rfl) (by decide)⟩
instance : TyF Tryz.prog 65 2 8 3 := ⟨_, _, Tryz.underlying65, rfl, rfl, rfl, info_f (n := 1) (by kernel_rfl) (by decide)⟩
instance : TyF Tryz.prog 65 3 9 57 := ⟨_, _, Tryz.underlying65, rfl, rfl, rfl, info_f (n := 5) (by kernel_rfl) (by decide)⟩
instance : TyF Tryz.prog 65 4 14 3 := ⟨_, _, Tryz.underlying65, rfl, rfl, rfl, info_f (n := 1) (by kernel_rfl) (by decide)⟩
instance : TyF Tryz.prog 65 5 15 3 := ⟨_, _, Tryz.underlying65, rfl, rfl, rfl, info_f (n := 1) (by kernel_rfl) (by decide)⟩
instance : TyF Tryz.prog 65 6 16 3 := ⟨_, _, Tryz.underlying65, rfl, rfl, rfl, info_f (n := 1) (by kernel_rfl) (by decide)⟩
instance : TyF Tryz.prog 65 7 17 3 := ⟨_, _, Tryz.underlying65, rfl, rfl, rfl, info_f (n := 1) (by kernel_rfl) (by decide)⟩
instance : TyF Tryz.prog 65 8 18 3 := ⟨_, _, Tryz.underlying65, rfl, rfl, rfl, info_f (n := 1) (by kernel_rfl) (by decide)⟩
instance : TyF Tryz.prog 65 9 19 3 := ⟨_, _, Tryz.underlying65, rfl, rfl, rfl, info_f (n := 1) (by kernel_rfl) (by decide)⟩
instance : TyF Tryz.prog 65 10 20 59 := ⟨_, _, Tryz.underlying65, rfl, rfl, rfl, info_f (n := 3) (by kernel_rfl) (by decide)⟩
instance : TyF Tryz.prog 65 11 23 48 := ⟨_, _, Tryz.underlying65, rfl, rfl, rfl, info_f (n := 1) (by kernel_rfl) (by decide)⟩
instance : TyF Tryz.prog 65 12 24 61 := ⟨_, _, Tryz.underlying65, rfl, rfl, rfl, info_f (n := 2) (by kernel_rfl) (by decide)⟩
instance : TyF Tryz.prog 65 13 26 3 := ⟨_, _, Tryz.underlying65, rfl, rfl, rfl, info_f (n := 1) (by kernel_rfl) (by decide)⟩
instance : TyF Tryz.prog 65 14 27 63 := ⟨_, _, Tryz.underlying65, rfl, rfl, rfl, info_f (n := 3) (by kernel_rfl) (by decide)⟩
-- 66: []impl.Reservation
instance : TyN Tryz.prog 66 1 := ⟨info_n (by kernel_rfl)⟩
instance : TySc Tryz.prog 66 := ⟨fun w => by kernel_rfl, info_n (by kernel_rfl)⟩
theorem Tryz.z66 : (Tryz.prog.info? 66).map (·.zero) = some (some (.slice none 0 0)) := by kernel_rfl
instance : TyZ Tryz.prog 66 [.nil] := ⟨by obtain ⟨i, h1, h2⟩ := info_z Tryz.z66; exact ⟨i, _, h1, h2, rfl⟩⟩
instance : TyE Tryz.prog 66 [.l []] := ⟨by obtain ⟨i, h1, h2⟩ := info_z Tryz.z66; exact ⟨i, _, h1, h2, rfl⟩⟩
instance : TySl Tryz.prog 66 128 2 16 := ⟨Tryz.underlying66, info_s (z := .agg #[.int .i64 0, .int .i64 0]) (by kernel_rfl) rfl, by decide⟩
-- 68: impl.Account
instance : TyN Tryz.prog 68 4 := ⟨info_n (by kernel_rfl)⟩
instance : TyAg Tryz.prog 68 4 := ⟨fun w => by kernel_rfl, info_n (by kernel_rfl)⟩
theorem Tryz.z68 : (Tryz.prog.info? 68).map (·.zero) = some (some (.agg #[.int .i64 0, .int .i64 0, .int .i64 0, .slice none 0 0])) := by kernel_rfl
instance : TyZ Tryz.prog 68 [.d false (.i .i64 0), .d false (.i .i64 0), .d false (.i .i64 0), .nil] := ⟨by obtain ⟨i, h1, h2⟩ := info_z Tryz.z68; exact ⟨i, _, h1, h2, rfl⟩⟩
instance : TyE Tryz.prog 68 [.i .i64 0, .i .i64 0, .i .i64 0, .l []] := ⟨by obtain ⟨i, h1, h2⟩ := info_z Tryz.z68; exact ⟨i, _, h1, h2, rfl⟩⟩
instance : TyB Tryz.prog 68 [(0, 1), (1, 1), (2, 1), (3, 1)] := ⟨_, Tryz.underlying68, fun w => by kernel_rfl⟩
instance : TyF Tryz.prog 68 0 0 3 := ⟨_, _, Tryz.underlying68, rfl, rfl, rfl, info_f (n := 1) (by kernel_rfl) (by decide)⟩
instance : TyF Tryz.prog 68 1 1 3 := ⟨_, _, Tryz.underlying68, rfl, rfl, rfl, info_f (n := 1) (by kernel_rfl) (by decide)⟩
instance : TyF Tryz.prog 68 2 2 3 := ⟨_, _, Tryz.underlying68, rfl, rfl, rfl, info_f (n := 1) (by kernel_rfl) (by decide)⟩
instance : TyF Tryz.prog 68 3 3 66 := ⟨_, _, Tryz.underlying68, rfl, rfl, rfl, info_f (n := 1) (by kernel_rfl) (by decide)⟩
-- 89: impl.Signal
instance : TyN Tryz.prog 89 11 := ⟨info_n (by kernel_rfl)⟩
instance : TyAg Tryz.prog 89 11 := ⟨fun w => by kernel_rfl, info_n (by kernel_rfl)⟩
theorem Tryz.z89 : (Tryz.prog.info? 89).map (·.zero) = some (some (.agg #[.int .i64 0, .int .i64 0, .int .i64 0, .int .i64 0, .int .i64 0, .int .i64 0, .int .i64 0, .int .i64 0, .int .i64 0, .int .i64 0, .int .i64 0])) := by kernel_rfl
instance : TyZ Tryz.prog 89 [.d false (.i .i64 0), .d false (.i .i64 0), .d false (.i .i64 0), .d false (.i .i64 0), .d false (.i .i64 0), .d false (.i .i64 0), .d false (.i .i64 0), .d false (.i .i64 0), .d false (.i .i64 0), .d false (.i .i64 0), .d false (.i .i64 0)] := ⟨by obtain ⟨i, h1, h2⟩ := info_z Tryz.z89; exact ⟨i, _, h1, h2, rfl⟩⟩
instance : TyE Tryz.prog 89 [.i .i64 0, .i .i64 0, .i .i64 0, .i .i64 0, .i .i64 0, .i .i64 0, .i .i64 0, .i .i64 0, .i .i64 0, .i .i64 0, .i .i64 0] := ⟨by obtain ⟨i, h1, h2⟩ := info_z Tryz.z89; exact ⟨i, _, h1, h2, rfl⟩⟩
instance : TyB Tryz.prog 89 [(0, 1), (1, 1), (2, 1), (3, 1), (4, 1), (5, 5), (10, 1)] := ⟨_, Tryz.underlying89, fun w => by kernel_rfl⟩
instance : TyF Tryz.prog 89 0 0 3 := ⟨_, _, Tryz.underlying89, rfl, rfl, rfl, info_f (n := 1) (by kernel_rfl) (by decide)⟩
instance : TyF Tryz.prog 89 1 1 3 := ⟨_, _, Tryz.underlying89, rfl, rfl, rfl, info_f (n := 1) (by kernel_rfl) (by decide)⟩
instance : TyF Tryz.prog 89 2 2 3 := ⟨_, _, Tryz.underlying89, rfl, rfl, rfl, info_f (n := 1) (by kernel_rfl) (by decide)⟩
instance : TyF Tryz.prog 89 3 3 3 := ⟨_, _, Tryz.underlying89, rfl, rfl, rfl, info_f (n := 1) (by kernel_rfl) (by decide)⟩
instance : TyF Tryz.prog 89 4 4 3 := ⟨_, _, Tryz.underlying89, rfl, rfl, rfl, info_f (n := 1) (by kernel_rfl) (by decide)⟩
instance : TyF Tryz.prog 89 5 5 57 := ⟨_, _, Tryz.underlying89, rfl, rfl, rfl, info_f (n := 5) (by kernel_rfl) (by decide)⟩
instance : TyF Tryz.prog 89 6 10 3 := ⟨_, _, Tryz.underlying89, rfl, rfl, rfl, info_f (n := 1) (by kernel_rfl) (by decide)⟩
-- 91: impl.SecuredMessage
instance : TyN Tryz.prog 91 4 := ⟨info_n (by kernel_rfl)⟩
instance : TyAg Tryz.prog 91 4 := ⟨fun w => by kernel_rfl, info_n (by kernel_rfl)⟩
theorem Tryz.z91 : (Tryz.prog.info? 91).map (·.zero) = some (some (.agg #[.int .i64 0, .int .i64 0, .slice none 0 0, .int .i64 0])) := by kernel_rfl
instance : TyZ Tryz.prog 91 [.d false (.i .i64 0), .d false (.i .i64 0), .nil, .d false (.i .i64 0)] := ⟨by obtain ⟨i, h1, h2⟩ := info_z Tryz.z91; exact ⟨i, _, h1, h2, rfl⟩⟩
instance : TyE Tryz.prog 91 [.i .i64 0, .i .i64 0, .l [], .i .i64 0] := ⟨by obtain ⟨i, h1, h2⟩ := info_z Tryz.z91; exact ⟨i, _, h1, h2, rfl⟩⟩
instance : TyB Tryz.prog 91 [(0, 1), (1, 1), (2, 1), (3, 1)] := ⟨_, Tryz.underlying91, fun w => by kernel_rfl⟩
instance : TyF Tryz.prog 91 0 0 3 := ⟨_, _, Tryz.underlying91, rfl, rfl, rfl, info_f (n := 1) (by kernel_rfl) (by decide)⟩
instance : TyF Tryz.prog 91 1 1 3 := ⟨_, _, Tryz.underlying91, rfl, rfl, rfl, info_f (n := 1) (by kernel_rfl) (by decide)⟩
instance : TyF Tryz.prog 91 2 2 22 := ⟨_, _, Tryz.underlying91, rfl, rfl, rfl, info_f (n := 1) (by kernel_rfl) (by decide)⟩
instance : TyF Tryz.prog 91 3 3 3 := ⟨_, _, Tryz.underlying91, rfl, rfl, rfl, info_f (n := 1) (by kernel_rfl) (by decide)⟩
-- 93: impl.RadioPacket
instance : TyN Tryz.prog 93 6 := ⟨info_n (by kernel_rfl)⟩
instance : TyAg Tryz.prog 93 6 := ⟨fun w => by kernel_rfl, info_n (by kernel_rfl)⟩
theorem Tryz.z93 : (Tryz.prog.info? 93).map (·.zero) = some (some (.agg #[.int .i64 0, .int .i64 0, .int .i64 0, .int .i64 0, .slice none 0 0, .int .i64 0])) := by kernel_rfl
instance : TyZ Tryz.prog 93 [.d false (.i .i64 0), .d false (.i .i64 0), .d false (.i .i64 0), .d false (.i .i64 0), .nil, .d false (.i .i64 0)] := ⟨by obtain ⟨i, h1, h2⟩ := info_z Tryz.z93; exact ⟨i, _, h1, h2, rfl⟩⟩
instance : TyE Tryz.prog 93 [.i .i64 0, .i .i64 0, .i .i64 0, .i .i64 0, .l [], .i .i64 0] := ⟨by obtain ⟨i, h1, h2⟩ := info_z Tryz.z93; exact ⟨i, _, h1, h2, rfl⟩⟩
instance : TyB Tryz.prog 93 [(0, 1), (1, 1), (2, 4)] := ⟨_, Tryz.underlying93, fun w => by kernel_rfl⟩
instance : TyF Tryz.prog 93 0 0 3 := ⟨_, _, Tryz.underlying93, rfl, rfl, rfl, info_f (n := 1) (by kernel_rfl) (by decide)⟩
instance : TyF Tryz.prog 93 1 1 3 := ⟨_, _, Tryz.underlying93, rfl, rfl, rfl, info_f (n := 1) (by kernel_rfl) (by decide)⟩
instance : TyF Tryz.prog 93 2 2 91 := ⟨_, _, Tryz.underlying93, rfl, rfl, rfl, info_f (n := 4) (by kernel_rfl) (by decide)⟩
-- 95: impl.Flight
instance : TyN Tryz.prog 95 21 := ⟨info_n (by kernel_rfl)⟩
instance : TyAg Tryz.prog 95 21 := ⟨fun w => by kernel_rfl, info_n (by kernel_rfl)⟩
theorem Tryz.z95 : (Tryz.prog.info? 95).map (·.zero) = some (some (.agg #[.int .i64 0, .bool false, .bool false, .int .i64 0, .int .i64 0, .int .i64 0, .int .i64 0, .int .i64 0, .int .i64 0, .int .i64 0, .int .i64 0, .int .i64 0, .int .i64 0, .int .i64 0, .int .i64 0, .int .i64 0, .int .i64 0, .int .i64 0, .int .i64 0, .slice none 0 0, .int .i64 0])) := by kernel_rfl
instance : TyZ Tryz.prog 95 [.d false (.i .i64 0), .d false (.b false), .d false (.b false), .d false (.i .i64 0), .d false (.i .i64 0), .d false (.i .i64 0), .d false (.i .i64 0), .d false (.i .i64 0), .d false (.i .i64 0), .d false (.i .i64 0), .d false (.i .i64 0), .d false (.i .i64 0), .d false (.i .i64 0), .d false (.i .i64 0), .d false (.i .i64 0), .d false (.i .i64 0), .d false (.i .i64 0), .d false (.i .i64 0), .d false (.i .i64 0), .nil, .d false (.i .i64 0)] := ⟨by obtain ⟨i, h1, h2⟩ := info_z Tryz.z95; exact ⟨i, _, h1, h2, rfl⟩⟩
instance : TyE Tryz.prog 95 [.i .i64 0, .b false, .b false, .i .i64 0, .i .i64 0, .i .i64 0, .i .i64 0, .i .i64 0, .i .i64 0, .i .i64 0, .i .i64 0, .i .i64 0, .i .i64 0, .i .i64 0, .i .i64 0, .i .i64 0, .i .i64 0, .i .i64 0, .i .i64 0, .l [], .i .i64 0] := ⟨by obtain ⟨i, h1, h2⟩ := info_z Tryz.z95; exact ⟨i, _, h1, h2, rfl⟩⟩
instance : TyB Tryz.prog 95 [(0, 1), (1, 1), (2, 1), (3, 1), (4, 11), (15, 6)] := ⟨_, Tryz.underlying95, fun w => by kernel_rfl⟩
instance : TyF Tryz.prog 95 0 0 3 := ⟨_, _, Tryz.underlying95, rfl, rfl, rfl, info_f (n := 1) (by kernel_rfl) (by decide)⟩
instance : TyF Tryz.prog 95 1 1 4 := ⟨_, _, Tryz.underlying95, rfl, rfl, rfl, info_f (n := 1) (by kernel_rfl) (by decide)⟩
instance : TyF Tryz.prog 95 2 2 4 := ⟨_, _, Tryz.underlying95, rfl, rfl, rfl, info_f (n := 1) (by kernel_rfl) (by decide)⟩
instance : TyF Tryz.prog 95 3 3 3 := ⟨_, _, Tryz.underlying95, rfl, rfl, rfl, info_f (n := 1) (by kernel_rfl) (by decide)⟩
instance : TyF Tryz.prog 95 4 4 89 := ⟨_, _, Tryz.underlying95, rfl, rfl, rfl, info_f (n := 11) (by kernel_rfl) (by decide)⟩
instance : TyF Tryz.prog 95 5 15 93 := ⟨_, _, Tryz.underlying95, rfl, rfl, rfl, info_f (n := 6) (by kernel_rfl) (by decide)⟩
-- 100: spec.l1Cur
instance : TyN Tryz.prog 100 3 := ⟨info_n (by kernel_rfl)⟩
instance : TyAg Tryz.prog 100 3 := ⟨fun w => by kernel_rfl, info_n (by kernel_rfl)⟩
theorem Tryz.z100 : (Tryz.prog.info? 100).map (·.zero) = some (some (.agg #[.slice none 0 0, .int .i64 0, .int .i64 0])) := by kernel_rfl
instance : TyZ Tryz.prog 100 [.nil, .d false (.i .i64 0), .d false (.i .i64 0)] := ⟨by obtain ⟨i, h1, h2⟩ := info_z Tryz.z100; exact ⟨i, _, h1, h2, rfl⟩⟩
instance : TyE Tryz.prog 100 [.l [], .i .i64 0, .i .i64 0] := ⟨by obtain ⟨i, h1, h2⟩ := info_z Tryz.z100; exact ⟨i, _, h1, h2, rfl⟩⟩
instance : TyB Tryz.prog 100 [(0, 1), (1, 1), (2, 1)] := ⟨_, Tryz.underlying100, fun w => by kernel_rfl⟩
instance : TyF Tryz.prog 100 0 0 22 := ⟨_, _, Tryz.underlying100, rfl, rfl, rfl, info_f (n := 1) (by kernel_rfl) (by decide)⟩
instance : TyF Tryz.prog 100 1 1 3 := ⟨_, _, Tryz.underlying100, rfl, rfl, rfl, info_f (n := 1) (by kernel_rfl) (by decide)⟩
instance : TyF Tryz.prog 100 2 2 3 := ⟨_, _, Tryz.underlying100, rfl, rfl, rfl, info_f (n := 1) (by kernel_rfl) (by decide)⟩
-- 102: impl.Cell
instance : TyN Tryz.prog 102 2 := ⟨info_n (by kernel_rfl)⟩
instance : TyAg Tryz.prog 102 2 := ⟨fun w => by kernel_rfl, info_n (by kernel_rfl)⟩
theorem Tryz.z102 : (Tryz.prog.info? 102).map (·.zero) = some (some (.agg #[.int .i64 0, .slice none 0 0])) := by kernel_rfl
instance : TyZ Tryz.prog 102 [.d false (.i .i64 0), .nil] := ⟨by obtain ⟨i, h1, h2⟩ := info_z Tryz.z102; exact ⟨i, _, h1, h2, rfl⟩⟩
instance : TyE Tryz.prog 102 [.i .i64 0, .l []] := ⟨by obtain ⟨i, h1, h2⟩ := info_z Tryz.z102; exact ⟨i, _, h1, h2, rfl⟩⟩
instance : TyB Tryz.prog 102 [(0, 1), (1, 1)] := ⟨_, Tryz.underlying102, fun w => by kernel_rfl⟩
instance : TyF Tryz.prog 102 0 0 3 := ⟨_, _, Tryz.underlying102, rfl, rfl, rfl, info_f (n := 1) (by kernel_rfl) (by decide)⟩
instance : TyF Tryz.prog 102 1 1 28 := ⟨_, _, Tryz.underlying102, rfl, rfl, rfl, info_f (n := 1) (by kernel_rfl) (by decide)⟩
-- 128: impl.Reservation
instance : TyN Tryz.prog 128 2 := ⟨info_n (by kernel_rfl)⟩
instance : TyAg Tryz.prog 128 2 := ⟨fun w => by kernel_rfl, info_n (by kernel_rfl)⟩
theorem Tryz.z128 : (Tryz.prog.info? 128).map (·.zero) = some (some (.agg #[.int .i64 0, .int .i64 0])) := by kernel_rfl
instance : TyZ Tryz.prog 128 [.d false (.i .i64 0), .d false (.i .i64 0)] := ⟨by obtain ⟨i, h1, h2⟩ := info_z Tryz.z128; exact ⟨i, _, h1, h2, rfl⟩⟩
instance : TyE Tryz.prog 128 [.i .i64 0, .i .i64 0] := ⟨by obtain ⟨i, h1, h2⟩ := info_z Tryz.z128; exact ⟨i, _, h1, h2, rfl⟩⟩
instance : TyB Tryz.prog 128 [(0, 1), (1, 1)] := ⟨_, Tryz.underlying128, fun w => by kernel_rfl⟩
instance : TyF Tryz.prog 128 0 0 3 := ⟨_, _, Tryz.underlying128, rfl, rfl, rfl, info_f (n := 1) (by kernel_rfl) (by decide)⟩
instance : TyF Tryz.prog 128 1 1 3 := ⟨_, _, Tryz.underlying128, rfl, rfl, rfl, info_f (n := 1) (by kernel_rfl) (by decide)⟩
-- 134: impl.NumberedPacket
instance : TyN Tryz.prog 134 2 := ⟨info_n (by kernel_rfl)⟩
instance : TyAg Tryz.prog 134 2 := ⟨fun w => by kernel_rfl, info_n (by kernel_rfl)⟩
theorem Tryz.z134 : (Tryz.prog.info? 134).map (·.zero) = some (some (.agg #[.int .i64 0, .slice none 0 0])) := by kernel_rfl
instance : TyZ Tryz.prog 134 [.d false (.i .i64 0), .nil] := ⟨by obtain ⟨i, h1, h2⟩ := info_z Tryz.z134; exact ⟨i, _, h1, h2, rfl⟩⟩
instance : TyE Tryz.prog 134 [.i .i64 0, .l []] := ⟨by obtain ⟨i, h1, h2⟩ := info_z Tryz.z134; exact ⟨i, _, h1, h2, rfl⟩⟩
instance : TyB Tryz.prog 134 [(0, 1), (1, 1)] := ⟨_, Tryz.underlying134, fun w => by kernel_rfl⟩
instance : TyF Tryz.prog 134 0 0 3 := ⟨_, _, Tryz.underlying134, rfl, rfl, rfl, info_f (n := 1) (by kernel_rfl) (by decide)⟩
instance : TyF Tryz.prog 134 1 1 22 := ⟨_, _, Tryz.underlying134, rfl, rfl, rfl, info_f (n := 1) (by kernel_rfl) (by decide)⟩
-- 137: impl.Payload
instance : TyN Tryz.prog 137 1 := ⟨info_n (by kernel_rfl)⟩
instance : TyAg Tryz.prog 137 1 := ⟨fun w => by kernel_rfl, info_n (by kernel_rfl)⟩
theorem Tryz.z137 : (Tryz.prog.info? 137).map (·.zero) = some (some (.agg #[.slice none 0 0])) := by kernel_rfl
instance : TyZ Tryz.prog 137 [.nil] := ⟨by obtain ⟨i, h1, h2⟩ := info_z Tryz.z137; exact ⟨i, _, h1, h2, rfl⟩⟩
instance : TyE Tryz.prog 137 [.l []] := ⟨by obtain ⟨i, h1, h2⟩ := info_z Tryz.z137; exact ⟨i, _, h1, h2, rfl⟩⟩
instance : TyB Tryz.prog 137 [(0, 1)] := ⟨_, Tryz.underlying137, fun w => by kernel_rfl⟩
instance : TyF Tryz.prog 137 0 0 22 := ⟨_, _, Tryz.underlying137, rfl, rfl, rfl, info_f (n := 1) (by kernel_rfl) (by decide)⟩
theorem Tryz.sh5 : HasSh Tryz.prog 5 [.i .u8] := .int Tryz.underlying5
theorem Tryz.sh22 : HasSh Tryz.prog 22 [.l [.i .u8]] := .slice Tryz.underlying22 Tryz.sh5 (by kernel_rfl) (by decide)
theorem Tryz.eqa38 : EqA Tryz.prog 2 38 [.i .i64, .i .i64] := eqA_struct (k := 1) Tryz.underlying38 (by kernel_rfl) (eqF_s rfl (by decide) inferInstance (eqS_int Tryz.underlying3) (eqF_s rfl (by decide) inferInstance (eqS_int Tryz.underlying3) (eqF_nil)))
instance : TyEq Tryz.prog 38 [.i .i64, .i .i64] := ⟨⟨2, by decide, Tryz.eqa38⟩, by kernel_rfl⟩
theorem Tryz.eqa44 : EqA Tryz.prog 2 44 [.i .i64, .i .i64] := eqA_struct (k := 1) Tryz.underlying44 (by kernel_rfl) (eqF_s rfl (by decide) inferInstance (eqS_int Tryz.underlying3) (eqF_s rfl (by decide) inferInstance (eqS_int Tryz.underlying3) (eqF_nil)))
instance : TyEq Tryz.prog 44 [.i .i64, .i .i64] := ⟨⟨2, by decide, Tryz.eqa44⟩, by kernel_rfl⟩
theorem Tryz.eqa46 : EqA Tryz.prog 3 46 [.i .i64, .i .i64, .i .i64, .i .i64] := eqA_struct (k := 2) Tryz.underlying46 (by kernel_rfl) (eqF_a (n := 2) (s1 := [.i .i64, .i .i64]) rfl (by decide) inferInstance rfl (by decide) Tryz.eqa44 (eqF_s rfl (by decide) inferInstance (eqS_int Tryz.underlying3) (eqF_s rfl (by decide) inferInstance (eqS_int Tryz.underlying3) (eqF_nil))))
instance : TyEq Tryz.prog 46 [.i .i64, .i .i64, .i .i64, .i .i64] := ⟨⟨3, by decide, Tryz.eqa46⟩, by kernel_rfl⟩
theorem Tryz.eqa54 : EqA Tryz.prog 3 54 [.i .i64, .i .i64, .i .i64, .i .i64] := eqA_struct (k := 2) Tryz.underlying54 (by kernel_rfl) (eqF_a (n := 2) (s1 := [.i .i64, .i .i64]) rfl (by decide) inferInstance rfl (by decide) Tryz.eqa44 (eqF_s rfl (by decide) inferInstance (eqS_int Tryz.underlying3) (eqF_s rfl (by decide) inferInstance (eqS_int Tryz.underlying3) (eqF_nil))))
instance : TyEq Tryz.prog 54 [.i .i64, .i .i64, .i .i64, .i .i64] := ⟨⟨3, by decide, Tryz.eqa54⟩, by kernel_rfl⟩
theorem Tryz.eqa57 : EqA Tryz.prog 2 57 [.i .i64, .i .i64, .i .i64, .i .i64, .i .i64] := eqA_struct (k := 1) Tryz.underlying57 (by kernel_rfl) (eqF_s rfl (by decide) inferInstance (eqS_int Tryz.underlying3) (eqF_s rfl (by decide) inferInstance (eqS_int Tryz.underlying3) (eqF_s rfl (by decide) inferInstance (eqS_int Tryz.underlying3) (eqF_s rfl (by decide) inferInstance (eqS_int Tryz.underlying3) (eqF_s rfl (by decide) inferInstance (eqS_int Tryz.underlying3) (eqF_nil))))))
instance : TyEq Tryz.prog 57 [.i .i64, .i .i64, .i .i64, .i .i64, .i .i64] := ⟨⟨2, by decide, Tryz.eqa57⟩, by kernel_rfl⟩
theorem Tryz.eqa59 : EqA Tryz.prog 2 59 [.i .i64, .i .i64, .i .i64] := eqA_struct (k := 1) Tryz.underlying59 (by kernel_rfl) (eqF_s rfl (by decide) inferInstance (eqS_int Tryz.underlying3) (eqF_s rfl (by decide) inferInstance (eqS_int Tryz.underlying3) (eqF_s rfl (by decide) inferInstance (eqS_int Tryz.underlying3) (eqF_nil))))
instance : TyEq Tryz.prog 59 [.i .i64, .i .i64, .i .i64] := ⟨⟨2, by decide, Tryz.eqa59⟩, by kernel_rfl⟩
theorem Tryz.eqa63 : EqA Tryz.prog 2 63 [.i .i64, .i .i64, .i .i64] := eqA_struct (k := 1) Tryz.underlying63 (by kernel_rfl) (eqF_s rfl (by decide) inferInstance (eqS_int Tryz.underlying3) (eqF_s rfl (by decide) inferInstance (eqS_int Tryz.underlying3) (eqF_s rfl (by decide) inferInstance (eqS_int Tryz.underlying3) (eqF_nil))))
instance : TyEq Tryz.prog 63 [.i .i64, .i .i64, .i .i64] := ⟨⟨2, by decide, Tryz.eqa63⟩, by kernel_rfl⟩
theorem Tryz.eqa89 : EqA Tryz.prog 3 89 [.i .i64, .i .i64, .i .i64, .i .i64, .i .i64, .i .i64, .i .i64, .i .i64, .i .i64, .i .i64, .i .i64] := eqA_struct (k := 2) Tryz.underlying89 (by kernel_rfl) (eqF_s rfl (by decide) inferInstance (eqS_int Tryz.underlying3) (eqF_s rfl (by decide) inferInstance (eqS_int Tryz.underlying3) (eqF_s rfl (by decide) inferInstance (eqS_int Tryz.underlying3) (eqF_s rfl (by decide) inferInstance (eqS_int Tryz.underlying3) (eqF_s rfl (by decide) inferInstance (eqS_int Tryz.underlying3) (eqF_a (n := 5) (s1 := [.i .i64, .i .i64, .i .i64, .i .i64, .i .i64]) rfl (by decide) inferInstance rfl (by decide) Tryz.eqa57 (eqF_s rfl (by decide) inferInstance (eqS_int Tryz.underlying3) (eqF_nil))))))))
instance : TyEq Tryz.prog 89 [.i .i64, .i .i64, .i .i64, .i .i64, .i .i64, .i .i64, .i .i64, .i .i64, .i .i64, .i .i64, .i .i64] := ⟨⟨3, by decide, Tryz.eqa89⟩, by kernel_rfl⟩
theorem Tryz.eqa128 : EqA Tryz.prog 2 128 [.i .i64, .i .i64] := eqA_struct (k := 1) Tryz.underlying128 (by kernel_rfl) (eqF_s rfl (by decide) inferInstance (eqS_int Tryz.underlying3) (eqF_s rfl (by decide) inferInstance (eqS_int Tryz.underlying3) (eqF_nil)))
instance : TyEq Tryz.prog 128 [.i .i64, .i .i64] := ⟨⟨2, by decide, Tryz.eqa128⟩, by kernel_rfl⟩
theorem Tryz.follows : Tryz.prog.follows .mixedOrders = true := by kernel_rfl
structure TCell where
  Area : Int
  Neighbors : List Int
  deriving DecidableEq, Inhabited
def eTCell (a : TCell) : List D := [.i .i64 a.Area, .l (a.Neighbors.map eI)]
structure TCellMap where
  Cells : List TCell
  deriving DecidableEq, Inhabited
def eTCellMap (a : TCellMap) : List D := [.l (a.Cells.map eTCell)]
structure TSubscription where
  RateLimit : Int
  BestClass : Int
  GrantSize : Int
  RoamingNetworks : List Int
  deriving DecidableEq, Inhabited
def eTSubscription (a : TSubscription) : List D := [.i .i64 a.RateLimit, .i .i64 a.BestClass, .i .i64 a.GrantSize, .l (a.RoamingNetworks.map eI)]
structure TServerPool where
  Size : Int
  UpMask : Int
  deriving DecidableEq, Inhabited
def eTServerPool (a : TServerPool) : List D := [.i .i64 a.Size, .i .i64 a.UpMask]
structure TSubscriberID where
  Network : Int
  Number : Int
  deriving DecidableEq, Inhabited
def eTSubscriberID (a : TSubscriberID) : List D := [.i .i64 a.Network, .i .i64 a.Number]
structure TUSIM where
  ID : TSubscriberID
  Key : Int
  LastSeq : Int
  deriving DecidableEq, Inhabited
def eTUSIM (a : TUSIM) : List D := [.i .i64 a.ID.Network, .i .i64 a.ID.Number, .i .i64 a.Key, .i .i64 a.LastSeq]
structure TNumberedPacket where
  Seq : Int
  Data : List Int
  deriving DecidableEq, Inhabited
def eTNumberedPacket (a : TNumberedPacket) : List D := [.i .i64 a.Seq, .l (a.Data.map eU8)]
structure TPayload where
  Data : List Int
  deriving DecidableEq, Inhabited
def eTPayload (a : TPayload) : List D := [.l (a.Data.map eU8)]
structure TReceiveWindow where
  Next : Int
  Pending : List TNumberedPacket
  Delivered : List TPayload
  deriving DecidableEq, Inhabited
def eTReceiveWindow (a : TReceiveWindow) : List D := [.i .i64 a.Next, .l (a.Pending.map eTNumberedPacket), .l (a.Delivered.map eTPayload)]
structure TDevice where
  Card : TUSIM
  State : Int
  Cell : Int
  Generation : Int
  RootKey : Int
  Epoch : Int
  PathConfirmed : Bool
  Wait : Int
  Receiver : TReceiveWindow
  deriving DecidableEq, Inhabited
def eTDevice (a : TDevice) : List D := [.i .i64 a.Card.ID.Network, .i .i64 a.Card.ID.Number, .i .i64 a.Card.Key, .i .i64 a.Card.LastSeq, .i .i64 a.State, .i .i64 a.Cell, .i .i64 a.Generation, .i .i64 a.RootKey, .i .i64 a.Epoch, .b a.PathConfirmed, .i .i64 a.Wait, .i .i64 a.Receiver.Next, .l (a.Receiver.Pending.map eTNumberedPacket), .l (a.Receiver.Delivered.map eTPayload)]
structure TSubscriberRecord where
  ID : TSubscriberID
  Key : Int
  Seq : Int
  deriving DecidableEq, Inhabited
def eTSubscriberRecord (a : TSubscriberRecord) : List D := [.i .i64 a.ID.Network, .i .i64 a.ID.Number, .i .i64 a.Key, .i .i64 a.Seq]
structure TAuthVector where
  Rand : Int
  Autn : Int
  MAC : Int
  Res : Int
  Key : Int
  deriving DecidableEq, Inhabited
structure TPagingState where
  Area : Int
  Attempt : Int
  Wait : Int
  deriving DecidableEq, Inhabited
def eTPagingState (a : TPagingState) : List D := [.i .i64 a.Area, .i .i64 a.Attempt, .i .i64 a.Wait]
structure TSendWindow where
  Next : Int
  Unacked : List TNumberedPacket
  deriving DecidableEq, Inhabited
def eTSendWindow (a : TSendWindow) : List D := [.i .i64 a.Next, .l (a.Unacked.map eTNumberedPacket)]
structure TQuota where
  SessionID : Int
  Granted : Int
  Used : Int
  deriving DecidableEq, Inhabited
def eTQuota (a : TQuota) : List D := [.i .i64 a.SessionID, .i .i64 a.Granted, .i .i64 a.Used]
structure TSession where
  Record : TSubscriberRecord
  Plan : TSubscription
  State : Int
  Pending : TAuthVector
  PendingSeq : Int
  Generation : Int
  RootKey : Int
  Epoch : Int
  Cell : Int
  Quiet : Int
  Page : TPagingState
  Submitted : List TPayload
  Window : TSendWindow
  Retry : Int
  Usage : TQuota
  deriving DecidableEq, Inhabited
def eTSession (a : TSession) : List D := [.i .i64 a.Record.ID.Network, .i .i64 a.Record.ID.Number, .i .i64 a.Record.Key, .i .i64 a.Record.Seq, .i .i64 a.Plan.RateLimit, .i .i64 a.Plan.BestClass, .i .i64 a.Plan.GrantSize, .l (a.Plan.RoamingNetworks.map eI), .i .i64 a.State, .i .i64 a.Pending.Rand, .i .i64 a.Pending.Autn, .i .i64 a.Pending.MAC, .i .i64 a.Pending.Res, .i .i64 a.Pending.Key, .i .i64 a.PendingSeq, .i .i64 a.Generation, .i .i64 a.RootKey, .i .i64 a.Epoch, .i .i64 a.Cell, .i .i64 a.Quiet, .i .i64 a.Page.Area, .i .i64 a.Page.Attempt, .i .i64 a.Page.Wait, .l (a.Submitted.map eTPayload), .i .i64 a.Window.Next, .l (a.Window.Unacked.map eTNumberedPacket), .i .i64 a.Retry, .i .i64 a.Usage.SessionID, .i .i64 a.Usage.Granted, .i .i64 a.Usage.Used]
structure TReservation where
  SessionID : Int
  Amount : Int
  deriving DecidableEq, Inhabited
def eTReservation (a : TReservation) : List D := [.i .i64 a.SessionID, .i .i64 a.Amount]
structure TAccount where
  Total : Int
  Available : Int
  Spent : Int
  Reservations : List TReservation
  deriving DecidableEq, Inhabited
def eTAccount (a : TAccount) : List D := [.i .i64 a.Total, .i .i64 a.Available, .i .i64 a.Spent, .l (a.Reservations.map eTReservation)]
structure TSignal where
  Kind : Int
  Cell : Int
  Generation : Int
  Epoch : Int
  Number : Int
  Vector : TAuthVector
  MAC : Int
  deriving DecidableEq, Inhabited
structure TSecuredMessage where
  Direction : Int
  Count : Int
  Data : List Int
  MAC : Int
  deriving DecidableEq, Inhabited
structure TRadioPacket where
  Generation : Int
  Epoch : Int
  Message : TSecuredMessage
  deriving DecidableEq, Inhabited
structure TFlight where
  Device : Int
  Uplink : Bool
  IsRadio : Bool
  Cell : Int
  Signal : TSignal
  Radio : TRadioPacket
  deriving DecidableEq, Inhabited
def eTFlight (a : TFlight) : List D := [.i .i64 a.Device, .b a.Uplink, .b a.IsRadio, .i .i64 a.Cell, .i .i64 a.Signal.Kind, .i .i64 a.Signal.Cell, .i .i64 a.Signal.Generation, .i .i64 a.Signal.Epoch, .i .i64 a.Signal.Number, .i .i64 a.Signal.Vector.Rand, .i .i64 a.Signal.Vector.Autn, .i .i64 a.Signal.Vector.MAC, .i .i64 a.Signal.Vector.Res, .i .i64 a.Signal.Vector.Key, .i .i64 a.Signal.MAC, .i .i64 a.Radio.Generation, .i .i64 a.Radio.Epoch, .i .i64 a.Radio.Message.Direction, .i .i64 a.Radio.Message.Count, .l (a.Radio.Message.Data.map eU8), .i .i64 a.Radio.Message.MAC]
structure TNetwork where
  Map : TCellMap
  Devices : List TDevice
  Sessions : List TSession
  Accounts : List TAccount
  Flights : List TFlight
  DownCells : Int
  Core : TServerPool
  Now : Int
  Lost : Int
  deriving DecidableEq, Inhabited
def eTNetwork (a : TNetwork) : List D := [.l (a.Map.Cells.map eTCell), .l (a.Devices.map eTDevice), .l (a.Sessions.map eTSession), .l (a.Accounts.map eTAccount), .l (a.Flights.map eTFlight), .i .i64 a.DownCells, .i .i64 a.Core.Size, .i .i64 a.Core.UpMask, .i .i64 a.Now, .i .i64 a.Lost]
structure Tl1Cur where
  fb : List Int
  fi : Int
  fh : Int
  deriving DecidableEq, Inhabited
def eTl1Cur (a : Tl1Cur) : List D := [.l (a.fb.map eU8), .i .i64 a.fi, .i .i64 a.fh]
theorem Try.follows : Tryz.prog.follows .mixedOrders = true := Tryz.follows
end Go.AM
